/- Theory for the proofs of this claim: see its last text. -/
import Derived.Test.YthgjocpbmnpjjaaDoorFnOperandText
import Derived.Test.YthgjocpbmnpjjaaDoorDenF
import Derived.KernelRfl
namespace Go.Den.G
open Go.Den

/-! ### digits -/
theorem dec_small {u : Nat} (h : u < 10) : Go.Lib.decDigits u = [UInt8.ofNat (48 + u)] := by rw [Go.Lib.decDigits, dif_pos h]
theorem dec_step {u : Nat} (h : ¬ u < 10) : Go.Lib.decDigits u = Go.Lib.decDigits (u / 10) ++ [UInt8.ofNat (48 + u % 10)] := by rw [Go.Lib.decDigits, dif_neg h]
theorem dec_len : ∀ (k u : Nat), u < 10 ^ (k + 1) → (Go.Lib.decDigits u).length ≤ k + 1
  | 0, u, h => by rw [dec_small (by omega)]; simp
  | k + 1, u, h => by
    by_cases hu : u < 10
    · rw [dec_small hu]; simp
    · rw [dec_step hu, List.length_append]
      have := dec_len k (u / 10) (by rw [Nat.pow_succ] at h; omega)
      simp; omega
theorem byte1 {n : Int} (h0 : 0 ≤ n) (h1 : n < 10) : toStr [wrapI .u8 (addI .i64 48 n)] = [UInt8.ofNat (48 + n.toNat)] := by
  have e : wrapI .u8 (addI .i64 48 n) = 48 + n := by
    rw [add_id (by unfold I64; omega)]
    unfold wrapI
    simp only [IntKind.wrap, IntKind.bits, IntKind.signed, Bool.false_and, Bool.false_eq_true, if_false]
    exact Int.emod_eq_of_lt (by omega) (by omega)
  rw [e]
  unfold toStr
  rw [List.map_singleton, show (48 + n).toNat = 48 + n.toNat by omega]
theorem digits_nat : ∀ (k : Nat) (u : Nat), k ≤ 100 → u < 10 ^ (k + 1) → u < 9223372036854775808 → RS_spec_l00Digits (k + 1) (((u : Int), ()), ()) = some (Go.Lib.decDigits u, ())
  | k, u, hk, hu, h64 => by
    rw [RS_spec_l00Digits]
    dsimp only
    rw [br_neg (eq_f (by omega)), br_neg (lt_f (by omega))]
    by_cases h : u < 10
    · rw [br_pos (lt_t (by omega)), byte1 (by omega) (by omega), dec_small h]; rfl
    · rw [br_neg (lt_f (by omega))]
      cases k with
      | zero => exact absurd hu (by simpa using h)
      | succ k =>
        have hq : quoI .i64 (u : Int) 10 = ((u / 10 : Nat) : Int) := by
          unfold quoI
          rw [show ((u : Int).tdiv 10) = ((u / 10 : Nat) : Int) by rw [Int.tdiv_eq_ediv_of_nonneg (by omega)]; simp]
          exact wrap64_id (by unfold I64; omega)
        have hr : remI (u : Int) 10 = ((u % 10 : Nat) : Int) := by unfold remI; rw [Int.tmod_eq_emod_of_nonneg (by omega)]; simp
        rw [hq, digits_nat k (u / 10) (by omega) (by rw [Nat.pow_succ] at hu; omega) (by omega), bnd_s, hr]
        dsimp only
        rw [byte1 (by omega) (by omega), dec_step h]
        have hl := dec_len k (u / 10) (by rw [Nat.pow_succ] at hu; omega)
        rw [br_pos (by unfold fits2 lim; simp; omega), show (((u % 10 : Nat) : Int)).toNat = u % 10 from rfl]
        rfl
theorem itoa_len {n : Int} (h : I64 n) : (Go.Lib.itoa n).length ≤ 20 := by
  unfold I64 at h
  unfold Go.Lib.itoa
  split
  · have := dec_len 18 n.natAbs (by omega)
    simp; omega
  · have := dec_len 18 n.toNat (by omega)
    omega
theorem l00Digits_eq {n : Int} (h : I64 n) : S_spec_l00Digits ((n, ()), ()) = some (Go.Lib.itoa n, ()) := by
  unfold S_spec_l00Digits
  unfold I64 at h
  by_cases hm : n = -9223372036854775808
  · subst hm
    rw [RS_spec_l00Digits]
    dsimp only
    rw [br_pos (eq_t rfl)]
    unfold Go.Lib.itoa
    rw [if_pos (by decide)]
    congr 2
    show _ = 45 :: Go.Lib.decDigits 9223372036854775808
    simp [Go.Lib.decDigits]
  · by_cases h0 : 0 ≤ n
    · obtain ⟨u, rfl⟩ := Int.eq_ofNat_of_zero_le h0
      rw [digits_nat 99 u (by decide) (Nat.lt_of_lt_of_le (show u < 10 ^ 20 by omega) (Nat.pow_le_pow_right (by decide) (by decide))) (by omega)]
      unfold Go.Lib.itoa
      rw [if_neg (by omega)]
      simp
    · rw [RS_spec_l00Digits]
      dsimp only
      rw [br_neg (eq_f hm), br_pos (lt_t (by omega)), sub_id (by unfold I64; omega)]
      obtain ⟨u, hu⟩ := Int.eq_ofNat_of_zero_le (show 0 ≤ 0 - n by omega)
      rw [hu, digits_nat 98 u (by decide) (Nat.lt_of_lt_of_le (show u < 10 ^ 20 by omega) (Nat.pow_le_pow_right (by decide) (by decide))) (by omega), bnd_s]
      dsimp only
      have hl := dec_len 19 u (by omega)
      rw [br_pos (by unfold fits2 lim; simp; omega)]
      unfold Go.Lib.itoa
      rw [if_pos (by omega), show n.natAbs = u by omega]
      simp [appL]
end Go.Den.G
namespace Go.Den.G
open Go.Den
set_option maxRecDepth 100000

/-! ### sizes and ranges -/
theorem isSize_eq (n : Int) : S_impl_isSize ((n, ()), ()) = some (decide (n = 1 ∨ n = 2 ∨ n = 4 ∨ n = 8), ()) := by
  unfold S_impl_isSize
  simp only [br_or, bnd_s, eqI, ← Bool.decide_or, or_assoc]
theorem l01Size_eq : S_spec_l01Size = S_impl_isSize := rfl
theorem within_eq (n a b : Int) : S_impl_within ((n, (a, (b, ()))), ()) = some (decide (a ≤ n ∧ n ≤ b), ()) := by
  unfold S_impl_within
  simp only [br_and, bnd_s, leI, Bool.decide_and]
theorem l01In_eq : S_spec_l01In = S_impl_within := rfl

/-! ### the names of the registers -/
def regL1 : List (List UInt8) := [[97, 108], [99, 108], [100, 108], [98, 108], [115, 112, 108], [98, 112, 108], [115, 105, 108], [100, 105, 108], [114, 56, 98], [114, 57, 98], [114, 49, 48, 98], [114, 49, 49, 98], [114, 49, 50, 98], [114, 49, 51, 98], [114, 49, 52, 98], [114, 49, 53, 98], [97, 104], [99, 104], [100, 104], [98, 104]]
def regL2 : List (List UInt8) := [[97, 120], [99, 120], [100, 120], [98, 120], [115, 112], [98, 112], [115, 105], [100, 105], [114, 56, 119], [114, 57, 119], [114, 49, 48, 119], [114, 49, 49, 119], [114, 49, 50, 119], [114, 49, 51, 119], [114, 49, 52, 119], [114, 49, 53, 119]]
def regL4 : List (List UInt8) := [[101, 97, 120], [101, 99, 120], [101, 100, 120], [101, 98, 120], [101, 115, 112], [101, 98, 112], [101, 115, 105], [101, 100, 105], [114, 56, 100], [114, 57, 100], [114, 49, 48, 100], [114, 49, 49, 100], [114, 49, 50, 100], [114, 49, 51, 100], [114, 49, 52, 100], [114, 49, 53, 100]]
def regL8 : List (List UInt8) := [[114, 97, 120], [114, 99, 120], [114, 100, 120], [114, 98, 120], [114, 115, 112], [114, 98, 112], [114, 115, 105], [114, 100, 105], [114, 56], [114, 57], [114, 49, 48], [114, 49, 49], [114, 49, 50], [114, 49, 51], [114, 49, 52], [114, 49, 53]]
theorem regNames1 : S_impl_regNames ((1, ()), ()) = some (regL1, ()) := by kernel_rfl
theorem l03Regs1 : S_spec_l03Regs ((1, ()), ()) = some (regL1, ()) := by kernel_rfl
theorem regNames2 : S_impl_regNames ((2, ()), ()) = some (regL2, ()) := by kernel_rfl
theorem l03Regs2 : S_spec_l03Regs ((2, ()), ()) = some (regL2, ()) := by kernel_rfl
theorem regNames4 : S_impl_regNames ((4, ()), ()) = some (regL4, ()) := by kernel_rfl
theorem l03Regs4 : S_spec_l03Regs ((4, ()), ()) = some (regL4, ()) := by kernel_rfl
theorem regNames8 : S_impl_regNames ((8, ()), ()) = some (regL8, ()) := by kernel_rfl
theorem l03Regs8 : S_spec_l03Regs ((8, ()), ()) = some (regL8, ()) := by kernel_rfl
def regL (s : Int) : List (List UInt8) := if s = 1 then regL1 else if s = 2 then regL2 else if s = 4 then regL4 else regL8
def sizeP (s : Int) : Prop := s = 1 ∨ s = 2 ∨ s = 4 ∨ s = 8
instance (s : Int) : Decidable (sizeP s) := by unfold sizeP; infer_instance
def regP (r s : Int) : Prop := 0 ≤ r ∧ r < (regL s).length
instance (r s : Int) : Decidable (regP r s) := by unfold regP; infer_instance
def nameOf (r s : Int) : List UInt8 := if regP r s then (regL s).getD r.toNat [] else []
theorem regNames_eq {s : Int} (h : sizeP s) : S_impl_regNames ((s, ()), ()) = some (regL s, ()) := by
  rcases h with rfl | rfl | rfl | rfl
  · exact regNames1
  · exact regNames2
  · exact regNames4
  · exact regNames8
theorem l03Regs_eq {s : Int} (h : sizeP s) : S_spec_l03Regs ((s, ()), ()) = some (regL s, ()) := by
  rcases h with rfl | rfl | rfl | rfl
  · exact l03Regs1
  · exact l03Regs2
  · exact l03Regs4
  · exact l03Regs8
theorem isReg_eq (r s : Int) : S_impl_isReg ((r, (s, ())), ()) = some (decide (sizeP s ∧ (0 ≤ r ∧ r ≤ 15 ∨ s = 1 ∧ 16 ≤ r ∧ r ≤ 19)), ()) := by
  unfold S_impl_isReg S_impl_isHigh
  simp only [isSize_eq, within_eq, bnd_s, br_or, br_and, eqI]
  congr 2
  rw [Bool.eq_iff_iff]
  unfold sizeP
  simp
theorem regP_iff {r s : Int} (h : sizeP s) : (0 ≤ r ∧ r ≤ 15 ∨ s = 1 ∧ 16 ≤ r ∧ r ≤ 19) ↔ regP r s := by
  unfold regP
  rcases h with rfl | rfl | rfl | rfl
  · rw [show (regL 1).length = 20 from rfl]; omega
  · rw [show (regL 2).length = 16 from rfl]; omega
  · rw [show (regL 4).length = 16 from rfl]; omega
  · rw [show (regL 8).length = 16 from rfl]; omega
theorem RegName_eq (r : Int) {s : Int} (h : sizeP s) : S_impl_RegName ((r, (s, ())), ()) = some (nameOf r s, ()) := by
  unfold S_impl_RegName nameOf
  rw [isReg_eq, bnd_s]
  dsimp only
  by_cases hr : regP r s
  · rw [if_pos hr, decide_eq_true ⟨h, (regP_iff h).2 hr⟩, notB_t, br_neg rfl, regNames_eq h, bnd_s]
    dsimp only
    rw [br_pos (by unfold regP at hr; simp [inR, lenL, hr.1, hr.2])]
    rfl
  · rw [if_neg hr, decide_eq_false (fun x => hr ((regP_iff h).1 x.2)), notB_f, br_pos rfl]
theorem sRegName_eq (r : Int) {s : Int} (h : sizeP s) : S_spec_RegName ((r, (s, ())), ()) = some (nameOf r s, ()) := by
  unfold S_spec_RegName nameOf
  rw [l01Size_eq, isSize_eq, bnd_s]
  dsimp only
  rw [decide_eq_true (show s = 1 ∨ s = 2 ∨ s = 4 ∨ s = 8 from h), notB_t, br_neg rfl, l03Regs_eq h, bnd_s]
  dsimp only
  rw [br_or, bnd_s]
  by_cases hr : regP r s
  · rw [if_pos hr]
    unfold regP at hr
    have e : (ltI r 0 || leI (lenL (regL s)) r) = false := by unfold ltI leI lenL; simp; omega
    rw [e, br_neg rfl, br_pos (by simp [inR, lenL, hr.1, hr.2])]
    rfl
  · rw [if_neg hr]
    unfold regP at hr
    have e : (ltI r 0 || leI (lenL (regL s)) r) = true := by unfold ltI leI lenL; simp; omega
    rw [e, br_pos rfl]
theorem name_lens : (∀ i, i < 20 → 1 ≤ (regL1.getD i []).length ∧ (regL1.getD i []).length ≤ 4) ∧ (∀ i, i < 16 → 1 ≤ (regL2.getD i []).length ∧ (regL2.getD i []).length ≤ 4) ∧
    (∀ i, i < 16 → 1 ≤ (regL4.getD i []).length ∧ (regL4.getD i []).length ≤ 4) ∧ ∀ i, i < 16 → 1 ≤ (regL8.getD i []).length ∧ (regL8.getD i []).length ≤ 4 := by decide +kernel
theorem nameOf_len (r : Int) {s : Int} (h : sizeP s) : (nameOf r s).length ≤ 4 ∧ (regP r s → 1 ≤ (nameOf r s).length) := by
  unfold nameOf
  by_cases hr : regP r s
  · rw [if_pos hr]
    have hk := hr
    unfold regP at hr
    obtain ⟨n1, n2, n4, n8⟩ := name_lens
    rcases h with rfl | rfl | rfl | rfl
    · have := n1 r.toNat (by have : (regL 1).length = 20 := rfl; omega); exact ⟨this.2, fun _ => this.1⟩
    · have := n2 r.toNat (by have : (regL 2).length = 16 := rfl; omega); exact ⟨this.2, fun _ => this.1⟩
    · have := n4 r.toNat (by have : (regL 4).length = 16 := rfl; omega); exact ⟨this.2, fun _ => this.1⟩
    · have := n8 r.toNat (by have : (regL 8).length = 16 := rfl; omega); exact ⟨this.2, fun _ => this.1⟩
  · rw [if_neg hr]; exact ⟨by simp, fun h => absurd h hr⟩
end Go.Den.G
namespace Go.Den.G
open Go.Den

/-! ### which operands there are -/
theorem fits4_eq {d : Int} (h : I64 d) : S_impl_fits ((d, (4, ())), ()) = some (decide (-2147483648 ≤ d ∧ d ≤ 2147483647), ()) := by
  unfold I64 at h
  unfold S_impl_fits S_impl_sign
  have e : subI .i64 64 (mulI .i64 8 4) = 32 := by decide
  simp only [e]
  rw [br_pos (by decide), br_pos (by decide), bnd_s]
  congr 2
  unfold eqI ishr ishl
  rw [show min (32 : Int).toNat (IntKind.bits .i64) = 32 from by decide, IntKind.wrap_i64, Int.fdiv_eq_ediv_of_nonneg _ (by decide)]
  rw [Bool.eq_iff_iff]
  simp only [decide_eq_true_eq]
  omega
/-- What makes an operand in memory. -/
def memP (k r b i s d m : Int) : Prop := k = 2 ∧ r = 0 ∧ m = 0 ∧ -1 ≤ b ∧ b ≤ 16 ∧ -1 ≤ i ∧ i ≤ 15 ∧ i ≠ 4 ∧ (s = 1 ∨ i ≠ -1 ∧ (s = 2 ∨ s = 4 ∨ s = 8)) ∧ (b ≠ 16 ∨ i = -1) ∧ -2147483648 ≤ d ∧ d ≤ 2147483647
instance (k r b i s d m : Int) : Decidable (memP k r b i s d m) := by unfold memP; infer_instance
theorem isMem_eq {k r b i s d m : Int} (h : I64 d) : S_impl_Operand_isMem (((k, (r, (b, (i, (s, (d, (m, ()))))))), ()), ()) = some (decide (memP k r b i s d m), ()) := by
  unfold S_impl_Operand_isMem
  dsimp only [p5, p6]
  simp only [within_eq, fits4_eq h, br_or, br_and, bnd_s, eqI]
  congr 2
  rw [Bool.eq_iff_iff, decide_eq_true_eq]
  unfold memP
  simp only [Bool.and_eq_true, Bool.or_eq_true, decide_eq_true_eq, notB_iff, decide_eq_false_iff_not]
  omega
def opOK (k r b i s d m z : Int) : Prop := sizeP z ∧
  (k = 1 ∧ b = 0 ∧ i = 0 ∧ s = 0 ∧ d = 0 ∧ m = 0 ∧ regP r z ∨ memP k r b i s d m ∨ k = 3 ∧ r = 0 ∧ b = 0 ∧ i = 0 ∧ s = 0 ∧ d = 0 ∨ k = 0 ∧ r = 0 ∧ b = 0 ∧ i = 0 ∧ s = 0 ∧ d = 0 ∧ m = 0)
instance (k r b i s d m z : Int) : Decidable (opOK k r b i s d m z) := by unfold opOK; infer_instance
theorem andB_iff {a b : Bool} : andB a b = true ↔ a = true ∧ b = true := by cases a <;> cases b <;> simp [andB]
theorem OperandOK_eq {k r b i s d m z : Int} (h : I64 d) : S_impl_OperandOK (((k, (r, (b, (i, (s, (d, (m, ()))))))), (z, ())), ()) = some (decide (opOK k r b i s d m z), ()) := by
  unfold S_impl_OperandOK S_impl_regOf S_impl_immOf
  dsimp only [p5, p6, d6]
  rw [isSize_eq, bnd_s]
  dsimp only
  by_cases hz : sizeP z
  · rw [decide_eq_true (show z = 1 ∨ z = 2 ∨ z = 4 ∨ z = 8 from hz), notB_t, br_neg rfl]
    have hr := regP_iff (r := r) hz
    by_cases h1 : k = 1
    · subst h1
      rw [br_pos (eq_t rfl), bnd_s]
      dsimp only
      rw [isReg_eq, bnd_s]
      cases hc : andB (eqI 1 1) (andB (eqI r r) (andB (eqI b 0) (andB (eqI i 0) (andB (eqI s 0) (andB (eqI d 0) (eqI m 0)))))) with
      | true =>
        rw [br_pos rfl]
        simp only [andB_iff, eq_iff] at hc
        congr 2
        rw [Bool.eq_iff_iff, decide_eq_true_eq, decide_eq_true_eq, hr]
        unfold opOK memP
        simp [hz, hc.2.2.1, hc.2.2.2.1, hc.2.2.2.2.1, hc.2.2.2.2.2.1, hc.2.2.2.2.2.2]
      | false =>
        rw [br_neg rfl]
        congr 2
        symm
        refine decide_eq_false fun ho => ?_
        have : andB (eqI 1 1) (andB (eqI r r) (andB (eqI b 0) (andB (eqI i 0) (andB (eqI s 0) (andB (eqI d 0) (eqI m 0)))))) = true := by
          unfold opOK memP at ho
          simp only [andB_iff, eq_iff]
          have h2 := ho.2
          simp at h2
          simp [h2]
        rw [this] at hc; cases hc
    · rw [br_neg (eq_f h1)]
      by_cases h2 : k = 2
      · subst h2
        rw [br_pos (eq_t rfl), isMem_eq h, bnd_s]
        congr 2
        rw [Bool.eq_iff_iff, decide_eq_true_eq, decide_eq_true_eq]
        unfold opOK
        simp [hz]
      · rw [br_neg (eq_f h2)]
        by_cases h3 : k = 3
        · subst h3
          rw [br_pos (eq_t rfl), bnd_s]
          congr 2
          rw [Bool.eq_iff_iff, decide_eq_true_eq]
          simp only [andB_iff, eq_iff]
          unfold opOK memP
          simp [hz]
        · rw [br_neg (eq_f h3)]
          congr 2
          rw [Bool.eq_iff_iff, decide_eq_true_eq]
          simp only [andB_iff, eq_iff]
          unfold opOK memP
          simp [hz, h1, h2, h3]
  · rw [decide_eq_false (show ¬ (z = 1 ∨ z = 2 ∨ z = 4 ∨ z = 8) from hz), notB_f, br_pos rfl]
    congr 2
    symm
    exact decide_eq_false fun h => hz h.1
theorem brF {α : Type} {c e : Bool} {u : α} : br c (some (false, u)) (some (e, u)) = some (!c && e, u) := by cases c <;> rfl
theorem sOperandOK_eq {k r b i s d m z : Int} : S_spec_OperandOK (((k, (r, (b, (i, (s, (d, (m, ()))))))), (z, ())), ()) = some (decide (opOK k r b i s d m z), ()) := by
  unfold S_spec_OperandOK
  rw [l01Size_eq, isSize_eq, bnd_s]
  dsimp only
  by_cases hz : sizeP z
  · rw [decide_eq_true (show z = 1 ∨ z = 2 ∨ z = 4 ∨ z = 8 from hz), br_pos rfl]
    have hr := regP_iff (r := r) hz
    unfold S_spec_l04Operand
    dsimp only [p5, p6]
    rw [l01In_eq, l01Size_eq]
    by_cases h1 : k = 1
    · subst h1
      rw [br_pos (eq_t rfl)]
      have hx : (br (eqI z 1) (some (Sum.inl ((19, ()), ((1, (r, (b, (i, (s, (d, (m, ()))))))), ())) : Sum ((Int × Unit) × ((Int × (Int × (Int × (Int × (Int × (Int × (Int × Unit))))))) × Unit)) (Bool × Unit))) (some (Sum.inl ((15, ()), ((1, (r, (b, (i, (s, (d, (m, ()))))))), ())))))
          = some (Sum.inl ((if z = 1 then 19 else 15, ()), ((1, (r, (b, (i, (s, (d, (m, ()))))))), ()))) := by
        by_cases h : z = 1
        · rw [br_pos (eq_t h), if_pos h]
        · rw [br_neg (eq_f h), if_neg h]
      rw [hx]
      simp only [bnd_s, sumE_l, within_eq, br_and]
      congr 2
      rw [Bool.eq_iff_iff, decide_eq_true_eq]
      simp only [Bool.and_eq_true, andB_iff, eq_iff, decide_eq_true_eq]
      unfold opOK memP
      rw [← hr]
      by_cases h : z = 1
      · rw [if_pos h]; simp only [hz, true_and]; omega
      · rw [if_neg h]; simp only [hz, true_and]; omega
    · rw [br_neg (eq_f h1)]
      by_cases h2 : k = 2
      · subst h2
        rw [br_pos (eq_t rfl)]
        simp only [within_eq, isSize_eq, br_or, br_and, bnd_s, eqI, ltI, leI]
        rw [brF]
        simp only [bnd_s]
        congr 2
        have e : opOK 2 r b i s d m z ↔ memP 2 r b i s d m := by unfold opOK; simp [hz]
        rw [Bool.eq_iff_iff, decide_eq_true_eq, e]
        unfold memP
        simp only [Bool.and_eq_true, Bool.or_eq_true, Bool.not_eq_true', Bool.or_eq_false_iff, decide_eq_true_eq, notB_iff, notB_nf, decide_eq_false_iff_not]
        clear hr hz h1 e
        constructor
        · rintro ⟨⟨⟨⟨⟨⟨⟨g1, g2⟩, g3⟩, g4⟩, g5⟩, g6⟩, g7⟩, g8, g9⟩
          refine ⟨trivial, g1, g2, g3.1, g3.2, g4.1, g4.2, g5, ?_, ?_, g7.1, g7.2⟩
          · omega
          · omega
        · rintro ⟨_, g1, g2, g3, g4, g5, g6, g7, g8, g9, g10, g11⟩
          refine ⟨⟨⟨⟨⟨⟨⟨g1, g2⟩, ⟨g3, g4⟩⟩, ⟨g5, g6⟩⟩, g7⟩, ?_⟩, ⟨g10, g11⟩⟩, ?_, ?_⟩
          · omega
          · omega
          · omega
      · rw [br_neg (eq_f h2)]
        by_cases h3 : k = 3
        · subst h3
          rw [br_pos (eq_t rfl)]
          simp only [bnd_s]
          congr 2
          rw [Bool.eq_iff_iff, decide_eq_true_eq]
          simp only [andB_iff, eq_iff]
          unfold opOK memP
          simp [hz]
        · rw [br_neg (eq_f h3)]
          simp only [bnd_s]
          congr 2
          rw [Bool.eq_iff_iff, decide_eq_true_eq]
          simp only [andB_iff, eq_iff]
          unfold opOK memP
          simp [hz, h1, h2, h3]
  · rw [decide_eq_false (show ¬ (z = 1 ∨ z = 2 ∨ z = 4 ∨ z = 8) from hz), br_neg rfl, bnd_s]
    congr 2
    symm
    exact decide_eq_false fun h => hz h.1
end Go.Den.G
namespace Go.Den.G
open Go.Den
set_option maxRecDepth 100000

/-! ### the text of an operand -/
theorem itoa_eq {n : Int} (h : I64 n) : S_strconv_Itoa ((n, ()), ()) = some (Go.Lib.itoa n, ()) := by
  unfold I64 at h
  unfold S_strconv_Itoa pItoa
  unfold i64B
  dsimp only
  rw [le_t h.1, le_t (by omega)]; rfl
def wordOf (z : Int) : List UInt8 := if z = 1 then [98, 121, 116, 101] else if z = 2 then [119, 111, 114, 100] else if z = 4 then [100, 119, 111, 114, 100] else [113, 119, 111, 114, 100]
theorem wordOf_len (z : Int) : (wordOf z).length ≤ 5 := by unfold wordOf; split <;> (try split) <;> (try split) <;> decide
theorem sizeWord_eq {z : Int} (h : sizeP z) : S_impl_sizeWord ((z, ()), ()) = some (wordOf z, ()) := by
  rcases h with rfl | rfl | rfl | rfl <;> rfl
theorem l16Size_eq {z : Int} (h : sizeP z) : S_spec_l16Size ((z, ()), ()) = some (wordOf z, ()) := by
  rcases h with rfl | rfl | rfl | rfl <;> rfl
def ripS : List UInt8 := [114, 105, 112]
def p1 (b : Int) : List (List UInt8) := if b = 16 then [ripS] else if 0 ≤ b then [nameOf b 8] else []
def p2 (i s : Int) : List (List UInt8) := if 0 ≤ i then [nameOf i 8 ++ [42] ++ Go.Lib.itoa s] else []
def p3 (d : Int) (q : List (List UInt8)) : List (List UInt8) := if d ≠ 0 ∨ q = [] then [Go.Lib.itoa d] else []
def pieces (b i s d : Int) : List (List UInt8) := (p1 b ++ p2 i s) ++ p3 d (p1 b ++ p2 i s)
def memTxt (b i s d z : Int) : List UInt8 := wordOf z ++ [32, 91] ++ Go.Lib.join (pieces b i s d) [43] ++ [93]
theorem size8 : sizeP 8 := .inr (.inr (.inr rfl))
theorem join_more (x y p : List UInt8) (r : List (List UInt8)) : Go.Lib.join (x :: y :: r) p = x ++ (p ++ Go.Lib.join (y :: r) p) := by
  rw [Go.Lib.join_cons, Go.Lib.join_cons]
  simp [Go.Lib.joinTail]
theorem join_len : ∀ (l : List (List UInt8)), (∀ x ∈ l, x.length ≤ 30) → (Go.Lib.join l [43]).length ≤ 31 * l.length
  | [], _ => by simp [Go.Lib.join]
  | [x], h => by have := h x (by simp); rw [Go.Lib.join_one]; simp; omega
  | x :: y :: r, h => by
    have h1 := h x (by simp)
    have h2 := join_len (y :: r) fun z hz => h z (List.mem_cons_of_mem _ hz)
    rw [join_more]
    simp only [List.length_append, List.length_cons, List.length_nil] at h2 ⊢
    omega
theorem p1_len (b : Int) : (p1 b).length ≤ 1 ∧ ∀ x ∈ p1 b, x.length ≤ 30 := by
  unfold p1
  split
  · exact ⟨by simp, by simp [ripS]⟩
  · split
    · have := (nameOf_len b size8).1
      exact ⟨by simp, by simp; omega⟩
    · simp
theorem p2_len {i s : Int} (hs : I64 s) : (p2 i s).length ≤ 1 ∧ ∀ x ∈ p2 i s, x.length ≤ 30 := by
  unfold p2
  split
  · have := (nameOf_len i size8).1
    have := itoa_len hs
    exact ⟨by simp, by simp; omega⟩
  · simp
theorem p3_len {d : Int} (hd : I64 d) (q : List (List UInt8)) : (p3 d q).length ≤ 1 ∧ ∀ x ∈ p3 d q, x.length ≤ 30 := by
  unfold p3
  split
  · have := itoa_len hd
    exact ⟨by simp, by simp; omega⟩
  · simp
theorem pieces_len {b i s d : Int} (hs : I64 s) (hd : I64 d) : (pieces b i s d).length ≤ 3 ∧ (Go.Lib.join (pieces b i s d) [43]).length ≤ 93 := by
  have h1 := p1_len b
  have h2 := p2_len (i := i) hs
  have h3 := p3_len hd (p1 b ++ p2 i s)
  have hl : (pieces b i s d).length ≤ 3 := by unfold pieces; simp only [List.length_append]; omega
  refine ⟨hl, Nat.le_trans (join_len _ fun x hx => ?_) (by omega)⟩
  unfold pieces at hx
  rcases List.mem_append.1 hx with hx | hx
  · rcases List.mem_append.1 hx with hx | hx
    · exact h1.2 x hx
    · exact h2.2 x hx
  · exact h3.2 x hx
theorem smallF {α β : Type} {xs : List α} {ys : List β} (h1 : xs.length ≤ 1000) (h2 : ys.length ≤ 1000) : fits2 xs ys = true := fits2_t (by omega)
theorem operandText_mem {r b i s d m z : Int} (hz : sizeP z) (h : memP 2 r b i s d m) : S_impl_operandText (((2, (r, (b, (i, (s, (d, (m, ()))))))), (z, ())), ()) = some (memTxt b i s d z, ()) := by
  have hd : I64 d := by unfold memP at h; unfold I64; omega
  have hs : I64 s := by unfold memP at h; unfold I64; omega
  unfold S_impl_operandText
  dsimp only [p5, p6, d6]
  rw [br_neg (eq_f (by decide)), br_neg (eq_f (by decide)), br_pos (eq_t rfl)]
  refine (Ret.bnd (Q := fun y => y = Sum.inl ((z, ()), ((2, (r, (b, (i, (s, (d, (m, ()))))))), (p1 b, ())))) ?_ ?_).eq
  · unfold p1
    by_cases hb : b = 16
    · rw [br_pos (eq_t hb), if_pos hb]
      exact Ret.need (smallF (by simp) (by simp)) (Ret.some rfl)
    · rw [br_neg (eq_f hb), if_neg hb]
      refine Ret.bnd (Q := fun y => y = Sum.inl ((z, ()), ((2, (r, (b, (i, (s, (d, (m, ()))))))), ((if 0 ≤ b then [nameOf b 8] else []), ())))) ?_ (fun y hy => by subst hy; exact Ret.some rfl)
      by_cases h0 : 0 ≤ b
      · rw [br_pos (le_t h0), if_pos h0, RegName_eq b size8, bnd_s]
        dsimp only
        exact Ret.need (smallF (by simp) (by simp)) (Ret.some rfl)
      · rw [br_neg (le_f (by omega)), if_neg h0]
        exact Ret.some rfl
  · rintro _ rfl
    rw [sumE_l]
    dsimp only
    refine Ret.bnd (Q := fun y => y = Sum.inl ((z, ()), ((2, (r, (b, (i, (s, (d, (m, ()))))))), (p1 b ++ p2 i s, ())))) ?_ ?_
    · unfold p2
      by_cases h0 : 0 ≤ i
      · have hn := (nameOf_len i size8).1
        have hi := itoa_len hs
        have h1 := (p1_len b).1
        rw [br_pos (le_t h0), if_pos h0, RegName_eq i size8, bnd_s]
        dsimp only
        rw [br_pos (smallF (by omega) (by simp)), itoa_eq hs, bnd_s]
        dsimp only
        rw [br_pos (smallF (by simp [appL]; omega) (by omega)), br_pos (smallF (by omega) (by simp))]
        exact Ret.some rfl
      · rw [br_neg (le_f (by omega)), if_neg h0, List.append_nil]
        exact Ret.some rfl
    · rintro _ rfl
      rw [sumE_l]
      dsimp only
      have hq1 := (p1_len b).1
      have hq2 := (p2_len (i := i) hs).1
      have hq : (p1 b ++ p2 i s).length ≤ 2 := by simp only [List.length_append]; omega
      rw [br_or, bnd_s]
      refine Ret.bnd (Q := fun y => y = Sum.inl ((z, ()), (pieces b i s d, ()))) ?_ ?_
      · unfold pieces p3
        generalize p1 b ++ p2 i s = q at hq
        by_cases hc : d ≠ 0 ∨ q = []
        · have e : (notB (eqI d 0) || eqI (lenL q) 0) = true := by
            rcases hc with hc | hc
            · rw [eq_f hc]; rfl
            · subst hc; simp [eqI, lenL]
          rw [e, br_pos rfl, if_pos hc, itoa_eq hd, bnd_s]
          dsimp only
          rw [br_pos (smallF (by omega) (by simp))]
          exact Ret.some rfl
        · have e : (notB (eqI d 0) || eqI (lenL q) 0) = false := by
            have hd0 : d = 0 := by apply Classical.byContradiction; intro h; exact hc (.inl h)
            have hqn : q ≠ [] := fun h => hc (.inr h)
            rw [eq_t hd0]
            have : 0 < q.length := List.length_pos_iff.2 hqn
            simp [notB, eqI, lenL]; omega
          rw [e, br_neg rfl, if_neg hc, List.append_nil]
          exact Ret.some rfl
      · rintro _ rfl
        rw [sumE_l]
        dsimp only
        have hp := pieces_len (b := b) (i := i) hs hd
        have hw := wordOf_len z
        rw [sizeWord_eq hz, bnd_s]
        dsimp only
        rw [br_pos (smallF (by omega) (by simp)), br_pos (by unfold joinLim; exact decide_eq_true ⟨by omega, by omega⟩), br_pos (smallF (by simp [appL]; omega) (by unfold joinS; omega)), br_pos (smallF (by simp [appL, joinS]; omega) (by simp))]
        exact Ret.some rfl
def ne (q : List (List UInt8)) : Prop := ∀ y ∈ q, y ≠ []
theorem join_snoc (x p : List UInt8) : ∀ q : List (List UInt8), Go.Lib.join (q ++ [x]) p = if q = [] then x else Go.Lib.join q p ++ p ++ x
  | [] => by rw [List.nil_append, Go.Lib.join_one, if_pos rfl]
  | [y] => by rw [if_neg (by simp), List.singleton_append, join_more, Go.Lib.join_one, Go.Lib.join_one]; simp
  | y :: z :: r => by
    have := join_snoc x p (z :: r)
    rw [if_neg (by simp)] at this
    rw [if_neg (by simp), List.cons_append, List.cons_append, join_more, ← List.cons_append, this, join_more]
    simp
theorem join_none (p : List UInt8) {q : List (List UInt8)} (h : ne q) : Go.Lib.join q p = [] ↔ q = [] := by
  cases q with
  | nil => simp [Go.Lib.join_nil]
  | cons y r =>
    refine ⟨fun e => ?_, fun e => by cases e⟩
    exfalso
    have hy := h y (by simp)
    cases r with
    | nil => rw [Go.Lib.join_one] at e; exact hy e
    | cons z r => rw [join_more] at e; exact hy (List.append_eq_nil_iff.1 e).1
theorem eqS_iff {a b : List UInt8} : eqS a b = true ↔ a = b := by unfold eqS; simp
theorem eqS_nf {a b : List UInt8} : eqS a b = false ↔ a ≠ b := by unfold eqS; simp
theorem l16Memory_eq {r b i s d m : Int} (h : memP 2 r b i s d m) : S_spec_l16Memory (((2, (r, (b, (i, (s, (d, (m, ()))))))), ()), ()) = some ([91] ++ Go.Lib.join (pieces b i s d) [43] ++ [93], ()) := by
  have hd : I64 d := by unfold memP at h; unfold I64; omega
  have hs : I64 s := by unfold memP at h; unfold I64; omega
  have n1 : ne (p1 b) := by
    unfold p1
    split
    · intro y hy; rw [List.mem_singleton.1 hy]; decide
    · split
      · rename_i h1 h2
        intro y hy
        rw [List.mem_singleton.1 hy]
        have := (nameOf_len b size8).2 ((regP_iff size8).1 (.inl (by unfold memP at h; omega)))
        intro e; rw [e] at this; simp at this
      · intro y hy; cases hy
  have n2 : ne (p1 b ++ p2 i s) := by
    intro y hy
    rcases List.mem_append.1 hy with hy | hy
    · exact n1 y hy
    · unfold p2 at hy
      split at hy
      · rw [List.mem_singleton.1 hy]; simp
      · cases hy
  have l1 := p1_len b
  have l2 := p2_len (i := i) hs
  have j1 : (Go.Lib.join (p1 b) [43]).length ≤ 31 := Nat.le_trans (join_len _ l1.2) (by omega)
  have j2 : (Go.Lib.join (p1 b ++ p2 i s) [43]).length ≤ 62 := Nat.le_trans (join_len _ fun x hx => (List.mem_append.1 hx).elim (l1.2 x) (l2.2 x)) (by simp only [List.length_append]; omega)
  have j3 := pieces_len (b := b) (i := i) hs hd
  unfold S_spec_l16Memory
  dsimp only [p5, p6, d6]
  refine (Ret.bnd (Q := fun y => y = Sum.inl ((Go.Lib.join (p1 b) [43], ()), ((2, (r, (b, (i, (s, (d, (m, ()))))))), ()))) ?_ ?_).eq
  · unfold p1
    by_cases hb : b = 16
    · rw [br_pos (eq_t hb), if_pos hb, Go.Lib.join_one]
      exact Ret.some rfl
    · rw [br_neg (eq_f hb), if_neg hb]
      by_cases h0 : 0 ≤ b
      · rw [br_pos (le_t h0), if_pos h0, Go.Lib.join_one, sRegName_eq b size8, bnd_s]
        exact Ret.some rfl
      · rw [br_neg (le_f (by omega)), if_neg h0, Go.Lib.join_nil]
        exact Ret.some rfl
  · rintro _ rfl
    rw [sumE_l]
    dsimp only
    refine Ret.bnd (Q := fun y => y = Sum.inl ((Go.Lib.join (p1 b ++ p2 i s) [43], ()), ((2, (r, (b, (i, (s, (d, (m, ()))))))), ()))) ?_ ?_
    · unfold p2
      by_cases h0 : 0 ≤ i
      · have hn := (nameOf_len i size8).1
        have hi := itoa_len hs
        rw [br_pos (le_t h0), if_pos h0, join_snoc]
        refine Ret.bnd (Q := fun y => y = Sum.inl (((if p1 b = [] then [] else Go.Lib.join (p1 b) [43] ++ [43]), ()), ((2, (r, (b, (i, (s, (d, (m, ()))))))), ()))) ?_ ?_
        · by_cases hq : p1 b = []
          · rw [if_pos hq, eqS_iff.2 ((join_none _ n1).2 hq), notB_t, br_neg rfl, (join_none _ n1).2 hq]
            exact Ret.some rfl
          · rw [if_neg hq, eqS_nf.2 (fun e => hq ((join_none _ n1).1 e)), notB_f, br_pos rfl, br_pos (smallF (by omega) (by simp))]
            exact Ret.some rfl
        · rintro _ rfl
          rw [sumE_l]
          dsimp only
          rw [sRegName_eq i size8, bnd_s]
          dsimp only
          have hx : (if p1 b = [] then [] else Go.Lib.join (p1 b) [43] ++ [43]).length ≤ 40 := by split <;> simp; omega
          rw [br_pos (smallF (by omega) (by simp)), l00Digits_eq hs, bnd_s]
          dsimp only
          rw [br_pos (smallF (by simp [appL]; omega) (by omega)), br_pos (smallF (by omega) (by simp [appL]; omega))]
          refine Ret.some ?_
          congr 2
          by_cases hq : p1 b = []
          · simp [hq, appL]
          · simp [hq, appL]
      · rw [br_neg (le_f (by omega)), if_neg h0, List.append_nil]
        exact Ret.some rfl
    · rintro _ rfl
      rw [sumE_l]
      dsimp only
      rw [br_or, bnd_s]
      refine Ret.bnd (Q := fun y => y = Sum.inl ((Go.Lib.join (pieces b i s d) [43], ()), ())) ?_ ?_
      · unfold pieces p3
        revert n2 j2
        generalize p1 b ++ p2 i s = q
        intro n2 j2
        by_cases hc : d ≠ 0 ∨ q = []
        · have e : (notB (eqI d 0) || eqS (Go.Lib.join q [43]) []) = true := by
            rcases hc with hc | hc
            · rw [eq_f hc]; rfl
            · rw [eqS_iff.2 ((join_none _ n2).2 hc)]; simp
          rw [e, br_pos rfl, if_pos hc, join_snoc]
          have hi := itoa_len hd
          refine Ret.bnd (Q := fun y => y = Sum.inl (((if q = [] then [] else Go.Lib.join q [43] ++ [43]), ()), ((2, (r, (b, (i, (s, (d, (m, ()))))))), ()))) ?_ ?_
          · by_cases hq : q = []
            · rw [if_pos hq, eqS_iff.2 ((join_none _ n2).2 hq), notB_t, br_neg rfl, (join_none _ n2).2 hq]
              exact Ret.some rfl
            · rw [if_neg hq, eqS_nf.2 (fun e => hq ((join_none _ n2).1 e)), notB_f, br_pos rfl, br_pos (smallF (by omega) (by simp))]
              exact Ret.some rfl
          · rintro _ rfl
            rw [sumE_l]
            dsimp only
            have hx : (if q = [] then [] else Go.Lib.join q [43] ++ [43]).length ≤ 70 := by split <;> simp; omega
            rw [l00Digits_eq hd, bnd_s]
            dsimp only
            rw [br_pos (smallF (by omega) (by omega))]
            refine Ret.some ?_
            congr 2
            by_cases hq : q = []
            · simp [hq, appL]
            · simp [hq, appL]
        · have e : (notB (eqI d 0) || eqS (Go.Lib.join q [43]) []) = false := by
            have hd0 : d = 0 := by apply Classical.byContradiction; intro h; exact hc (.inl h)
            have hqn : q ≠ [] := fun h => hc (.inr h)
            rw [eq_t hd0, eqS_nf.2 fun e => hqn ((join_none _ n2).1 e)]; rfl
          rw [e, br_neg rfl, if_neg hc, List.append_nil]
          exact Ret.some rfl
      · rintro _ rfl
        rw [sumE_l]
        dsimp only
        rw [br_pos (smallF (by simp) (by omega)), br_pos (smallF (by simp [appL]; omega) (by simp))]
        exact Ret.some rfl
/-- The text of an operand that is right. -/
def opTxt (k r b i s d m z : Int) : List UInt8 := if k = 1 then nameOf r z else if k = 2 then memTxt b i s d z else if k = 3 then Go.Lib.itoa m else []
theorem operandText_eq {k r b i s d m z : Int} (hm : I64 m) (h : opOK k r b i s d m z) : S_impl_operandText (((k, (r, (b, (i, (s, (d, (m, ()))))))), (z, ())), ()) = some (opTxt k r b i s d m z, ()) := by
  obtain ⟨hz, h⟩ := h
  unfold opTxt
  by_cases h2 : k = 2
  · subst h2
    rw [if_neg (by decide), if_pos rfl]
    exact operandText_mem hz (by rcases h with h | h | h | h <;> first | exact h | exact absurd h.1 (by decide))
  · unfold S_impl_operandText
    dsimp only [p5, p6, d6]
    by_cases h1 : k = 1
    · rw [br_pos (eq_t h1), if_pos h1, RegName_eq r hz]; rfl
    · rw [br_neg (eq_f h1), if_neg h1, if_neg h2]
      by_cases h3 : k = 3
      · rw [br_pos (eq_t h3), if_pos h3, itoa_eq hm]; rfl
      · rw [br_neg (eq_f h3), br_neg (eq_f h2), if_neg h3]
theorem l16Operand_eq {k r b i s d m z : Int} (hm : I64 m) (h : opOK k r b i s d m z) : S_spec_l16Operand (((k, (r, (b, (i, (s, (d, (m, ()))))))), (z, ())), ()) = some (opTxt k r b i s d m z, ()) := by
  obtain ⟨hz, h⟩ := h
  unfold opTxt S_spec_l16Operand
  dsimp only [p5, p6, d6]
  by_cases h1 : k = 1
  · rw [br_pos (eq_t h1), if_pos h1, sRegName_eq r hz]; rfl
  · rw [br_neg (eq_f h1), if_neg h1]
    by_cases h2 : k = 2
    · subst h2
      have hmem : memP 2 r b i s d m := by rcases h with h | h | h | h <;> first | exact h | exact absurd h.1 (by decide)
      have hw := wordOf_len z
      have hj := pieces_len (b := b) (i := i) (s := s) (d := d) (by unfold memP at hmem; unfold I64; omega) (by unfold memP at hmem; unfold I64; omega)
      rw [br_pos (eq_t rfl), if_pos rfl, l16Size_eq hz, bnd_s]
      dsimp only
      rw [br_pos (smallF (by omega) (by simp)), l16Memory_eq hmem, bnd_s]
      dsimp only
      rw [br_pos (smallF (by simp [appL]; omega) (by simp; omega))]
      unfold memTxt appL
      simp
    · rw [br_neg (eq_f h2), if_neg h2]
      by_cases h3 : k = 3
      · rw [br_pos (eq_t h3), if_pos h3, l00Digits_eq hm]; rfl
      · rw [br_neg (eq_f h3), if_neg h3]
end Go.Den.G
namespace Go.Den.G
open Go.Den
/-- The law: OperandText returns what the reference's returns. -/
theorem pure_OperandText (y : VTL.Ty [.agg [.int .i64, .int .i64, .int .i64, .int .i64, .int .i64, .int .i64, .int .i64], .int .i64]) (h : VTL.wf [.agg [.int .i64, .int .i64, .int .i64, .int .i64, .int .i64, .int .i64, .int .i64], .int .i64] y) :
    S_laws_FnExactOperandText (y, ()) = some (true, ()) := by
  obtain ⟨⟨k, r, b, i, s, d, m, _⟩, z, _⟩ := y
  obtain ⟨⟨hk, hr, hb, hi, hs, hd, hm, _⟩, hz, _⟩ := h
  have hd : I64 d := wf64 hd
  have hm : I64 m := wf64 hm
  unfold S_laws_FnExactOperandText S_laws_toOperand
  dsimp only
  simp only [bnd_s]
  unfold S_spec_OperandText S_impl_OperandText
  rw [sOperandOK_eq, OperandOK_eq hd, bnd_s, bnd_s]
  dsimp only
  by_cases ho : opOK k r b i s d m z
  · rw [decide_eq_true ho, notB_t, br_neg rfl, br_neg rfl, l16Operand_eq hm ho, operandText_eq hm ho]
    simp only [bnd_s, eqS_iff.2 rfl, eq_t (rfl : (0 : Int) = 0), notB_t]
    rfl
  · rw [decide_eq_false ho, notB_f]
    rfl
end Go.Den.G
