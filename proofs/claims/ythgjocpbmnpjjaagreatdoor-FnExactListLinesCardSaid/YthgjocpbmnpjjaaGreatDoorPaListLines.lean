/- Theory for the proofs of this claim: see its last text. -/
import Derived.Test.YthgjocpbmnpjjaaGreatDoorFnListLines
import Derived.Test.YthgjocpbmnpjjaaGreatDoorDenF
import Derived.KernelRfl
section
set_option linter.unusedVariables false
noncomputable section
namespace Go.Den.G
def S_impl_formsOf (x1 : ((Int × Unit) × Unit)) : Option (((List Int) × ((List UInt8) × Unit)) × Unit) :=
  (bnd (S_impl_within ((x1.1.1, (1, (9, ()))), ())) (fun (x2 : (Bool × Unit)) => (br x2.1 (some (((1 :: (2 :: (4 :: (8 :: ([] : List Int))))), ((114 :: (114 :: (32 :: (109 :: (114 :: (32 :: (114 :: (109 :: (32 :: (114 :: (105 :: (32 :: (109 :: (105 :: ([] : List UInt8))))))))))))))), ())), ())) (bnd (br (eqI x1.1.1 10) (some Bool.true) (bnd (S_impl_isShift x1) (fun (x3 : (Bool × Unit)) => (some x3.1)))) (fun (x4 : Bool) => (br x4 (some (((1 :: (2 :: (4 :: (8 :: ([] : List Int))))), ((114 :: (114 :: (32 :: (109 :: (114 :: (32 :: (114 :: (105 :: (32 :: (109 :: (105 :: ([] : List UInt8)))))))))))), ())), ())) (br (eqI x1.1.1 28) (some (((1 :: (2 :: (4 :: (8 :: ([] : List Int))))), ((114 :: (114 :: (32 :: (109 :: (114 :: ([] : List UInt8)))))), ())), ())) (bnd (br (eqI x1.1.1 11) (some (Sum.inl ((x1.1.1, ((eqI x1.1.1 11), ())), ((1 :: (2 :: (4 :: (8 :: ([] : List Int))))), ((2 :: (4 :: (8 :: ([] : List Int)))), ((8 :: ([] : List Int)), ((0 :: ([] : List Int)), ()))))))) (bnd (br (eqI x1.1.1 12) (some (Sum.inl ((x1.1.1, ((eqI x1.1.1 12), ())), ((1 :: (2 :: (4 :: (8 :: ([] : List Int))))), ((2 :: (4 :: (8 :: ([] : List Int)))), ((8 :: ([] : List Int)), ((0 :: ([] : List Int)), ()))))))) (bnd (br (eqI x1.1.1 18) (some (Sum.inl ((x1.1.1, ((eqI x1.1.1 18), ())), ((1 :: (2 :: (4 :: (8 :: ([] : List Int))))), ((2 :: (4 :: (8 :: ([] : List Int)))), ((8 :: ([] : List Int)), ((0 :: ([] : List Int)), ()))))))) (some (Sum.inl ((x1.1.1, ((eqI x1.1.1 19), ())), ((1 :: (2 :: (4 :: (8 :: ([] : List Int))))), ((2 :: (4 :: (8 :: ([] : List Int)))), ((8 :: ([] : List Int)), ((0 :: ([] : List Int)), ())))))))) (fun (x5 : (Sum ((Int × (Bool × Unit)) × ((List Int) × ((List Int) × ((List Int) × ((List Int) × Unit))))) (Sum ((Int × (Bool × Unit)) × ((List Int) × ((List Int) × ((List Int) × ((List Int) × Unit))))) (Sum ((Int × (Bool × Unit)) × ((List Int) × ((List Int) × ((List Int) × ((List Int) × Unit))))) (((List Int) × ((List UInt8) × Unit)) × Unit))))) => (sumE x5 (fun (x6 : ((Int × (Bool × Unit)) × ((List Int) × ((List Int) × ((List Int) × ((List Int) × Unit)))))) => (some (Sum.inl x6))) some)))) (fun (x7 : (Sum ((Int × (Bool × Unit)) × ((List Int) × ((List Int) × ((List Int) × ((List Int) × Unit))))) (Sum ((Int × (Bool × Unit)) × ((List Int) × ((List Int) × ((List Int) × ((List Int) × Unit))))) (((List Int) × ((List UInt8) × Unit)) × Unit)))) => (sumE x7 (fun (x8 : ((Int × (Bool × Unit)) × ((List Int) × ((List Int) × ((List Int) × ((List Int) × Unit)))))) => (some (Sum.inl x8))) some)))) (fun (x9 : (Sum ((Int × (Bool × Unit)) × ((List Int) × ((List Int) × ((List Int) × ((List Int) × Unit))))) (((List Int) × ((List UInt8) × Unit)) × Unit))) => (sumE x9 (fun (x10 : ((Int × (Bool × Unit)) × ((List Int) × ((List Int) × ((List Int) × ((List Int) × Unit)))))) => (br x10.1.2.1 (some ((x10.2.1, ((114 :: (45 :: (32 :: (109 :: (45 :: ([] : List UInt8)))))), ())), ())) (bnd (br (eqI x10.1.1 13) (some (Sum.inl ((x10.1.1, ((eqI x10.1.1 13), ())), x10.2))) (bnd (br (eqI x10.1.1 14) (some (Sum.inl ((x10.1.1, ((eqI x10.1.1 14), ())), x10.2))) (bnd (br (eqI x10.1.1 15) (some (Sum.inl ((x10.1.1, ((eqI x10.1.1 15), ())), x10.2))) (some (Sum.inl ((x10.1.1, ((eqI x10.1.1 16), ())), x10.2)))) (fun (x11 : (Sum ((Int × (Bool × Unit)) × ((List Int) × ((List Int) × ((List Int) × ((List Int) × Unit))))) (Sum ((Int × (Bool × Unit)) × ((List Int) × ((List Int) × ((List Int) × ((List Int) × Unit))))) (Sum ((Int × (Bool × Unit)) × ((List Int) × ((List Int) × ((List Int) × ((List Int) × Unit))))) (((List Int) × ((List UInt8) × Unit)) × Unit))))) => (sumE x11 (fun (x12 : ((Int × (Bool × Unit)) × ((List Int) × ((List Int) × ((List Int) × ((List Int) × Unit)))))) => (some (Sum.inl x12))) some)))) (fun (x13 : (Sum ((Int × (Bool × Unit)) × ((List Int) × ((List Int) × ((List Int) × ((List Int) × Unit))))) (Sum ((Int × (Bool × Unit)) × ((List Int) × ((List Int) × ((List Int) × ((List Int) × Unit))))) (((List Int) × ((List UInt8) × Unit)) × Unit)))) => (sumE x13 (fun (x14 : ((Int × (Bool × Unit)) × ((List Int) × ((List Int) × ((List Int) × ((List Int) × Unit)))))) => (some (Sum.inl x14))) some)))) (fun (x15 : (Sum ((Int × (Bool × Unit)) × ((List Int) × ((List Int) × ((List Int) × ((List Int) × Unit))))) (((List Int) × ((List UInt8) × Unit)) × Unit))) => (sumE x15 (fun (x16 : ((Int × (Bool × Unit)) × ((List Int) × ((List Int) × ((List Int) × ((List Int) × Unit)))))) => (br x16.1.2.1 (some ((x16.2.1, ((45 :: (114 :: (32 :: (45 :: (109 :: ([] : List UInt8)))))), ())), ())) (bnd (br (eqI x16.1.1 17) (some (Sum.inl ((x16.1.1, ((eqI x16.1.1 17), ())), x16.2.2))) (bnd (br (eqI x16.1.1 36) (some (Sum.inl ((x16.1.1, ((eqI x16.1.1 36), ())), x16.2.2))) (bnd (br (eqI x16.1.1 26) (some (Sum.inl ((x16.1.1, ((eqI x16.1.1 26), ())), x16.2.2))) (some (Sum.inl ((x16.1.1, ((eqI x16.1.1 27), ())), x16.2.2)))) (fun (x17 : (Sum ((Int × (Bool × Unit)) × ((List Int) × ((List Int) × ((List Int) × Unit)))) (Sum ((Int × (Bool × Unit)) × ((List Int) × ((List Int) × ((List Int) × Unit)))) (Sum ((Int × (Bool × Unit)) × ((List Int) × ((List Int) × ((List Int) × Unit)))) (((List Int) × ((List UInt8) × Unit)) × Unit))))) => (sumE x17 (fun (x18 : ((Int × (Bool × Unit)) × ((List Int) × ((List Int) × ((List Int) × Unit))))) => (some (Sum.inl x18))) some)))) (fun (x19 : (Sum ((Int × (Bool × Unit)) × ((List Int) × ((List Int) × ((List Int) × Unit)))) (Sum ((Int × (Bool × Unit)) × ((List Int) × ((List Int) × ((List Int) × Unit)))) (((List Int) × ((List UInt8) × Unit)) × Unit)))) => (sumE x19 (fun (x20 : ((Int × (Bool × Unit)) × ((List Int) × ((List Int) × ((List Int) × Unit))))) => (some (Sum.inl x20))) some)))) (fun (x21 : (Sum ((Int × (Bool × Unit)) × ((List Int) × ((List Int) × ((List Int) × Unit)))) (((List Int) × ((List UInt8) × Unit)) × Unit))) => (sumE x21 (fun (x22 : ((Int × (Bool × Unit)) × ((List Int) × ((List Int) × ((List Int) × Unit))))) => (br x22.1.2.1 (some ((x22.2.1, ((114 :: (114 :: (32 :: (114 :: (109 :: ([] : List UInt8)))))), ())), ())) (br (eqI x22.1.1 25) (some ((x22.2.1, ((114 :: (109 :: ([] : List UInt8))), ())), ())) (bnd (br (eqI x22.1.1 29) (some (Sum.inl ((x22.1.1, ((eqI x22.1.1 29), ())), x22.2))) (bnd (br (eqI x22.1.1 31) (some (Sum.inl ((x22.1.1, ((eqI x22.1.1 31), ())), x22.2))) (some (Sum.inl ((x22.1.1, ((eqI x22.1.1 32), ())), x22.2)))) (fun (x23 : (Sum ((Int × (Bool × Unit)) × ((List Int) × ((List Int) × ((List Int) × Unit)))) (Sum ((Int × (Bool × Unit)) × ((List Int) × ((List Int) × ((List Int) × Unit)))) (((List Int) × ((List UInt8) × Unit)) × Unit)))) => (sumE x23 (fun (x24 : ((Int × (Bool × Unit)) × ((List Int) × ((List Int) × ((List Int) × Unit))))) => (some (Sum.inl x24))) some)))) (fun (x25 : (Sum ((Int × (Bool × Unit)) × ((List Int) × ((List Int) × ((List Int) × Unit)))) (((List Int) × ((List UInt8) × Unit)) × Unit))) => (sumE x25 (fun (x26 : ((Int × (Bool × Unit)) × ((List Int) × ((List Int) × ((List Int) × Unit))))) => (br x26.1.2.1 (some ((x26.2.2.1, ((45 :: (114 :: (32 :: (45 :: (109 :: (32 :: (45 :: (105 :: ([] : List UInt8))))))))), ())), ())) (br (eqI x26.1.1 30) (some ((x26.2.2.1, ((114 :: (45 :: (32 :: (109 :: (45 :: ([] : List UInt8)))))), ())), ())) (bnd (br (eqI x26.1.1 33) (some (Sum.inl ((x26.1.1, ((eqI x26.1.1 33), ())), (x26.2.1, x26.2.2.2)))) (some (Sum.inl ((x26.1.1, ((eqI x26.1.1 44), ())), (x26.2.1, x26.2.2.2))))) (fun (x27 : (Sum ((Int × (Bool × Unit)) × ((List Int) × ((List Int) × Unit))) (((List Int) × ((List UInt8) × Unit)) × Unit))) => (sumE x27 (fun (x28 : ((Int × (Bool × Unit)) × ((List Int) × ((List Int) × Unit)))) => (br x28.1.2.1 (some ((x28.2.2.1, ((45 :: (105 :: ([] : List UInt8))), ())), ())) (br (eqI x28.1.1 35) (some (((1 :: ([] : List Int)), ((114 :: (45 :: (32 :: (109 :: (45 :: ([] : List UInt8)))))), ())), ())) (bnd (br (eqI x28.1.1 39) (some (Sum.inl ((x28.1.1, ((eqI x28.1.1 39), ())), x28.2))) (some (Sum.inl ((x28.1.1, ((eqI x28.1.1 40), ())), x28.2)))) (fun (x29 : (Sum ((Int × (Bool × Unit)) × ((List Int) × ((List Int) × Unit))) (((List Int) × ((List UInt8) × Unit)) × Unit))) => (sumE x29 (fun (x30 : ((Int × (Bool × Unit)) × ((List Int) × ((List Int) × Unit)))) => (br x30.1.2.1 (some ((x30.2.1, ((45 :: (45 :: ([] : List UInt8))), ())), ())) (bnd (br (eqI x30.1.1 41) (some (Sum.inl (((eqI x30.1.1 41), ()), x30.2.2))) (some (Sum.inl (((eqI x30.1.1 42), ()), x30.2.2)))) (fun (x31 : (Sum ((Bool × Unit) × ((List Int) × Unit)) (((List Int) × ((List UInt8) × Unit)) × Unit))) => (sumE x31 (fun (x32 : ((Bool × Unit) × ((List Int) × Unit))) => (bnd (br x32.1.1 (some (Sum.inr (((1 :: ([] : List Int)), ((45 :: (45 :: ([] : List UInt8))), ())), ()))) (some (Sum.inl x32))) (fun (x33 : (Sum ((Bool × Unit) × ((List Int) × Unit)) (((List Int) × ((List UInt8) × Unit)) × Unit))) => (sumE x33 (fun (x34 : ((Bool × Unit) × ((List Int) × Unit))) => (some ((x34.2.1, ((45 :: (45 :: ([] : List UInt8))), ())), ()))) some)))) some))))) some)))))) some)))))) some)))))) some))))) some))))) some))))))))))
end Go.Den.G
end
end
namespace Go.Den.G
open Go.Den

/-! ### digits -/
theorem dec_small {u : Nat} (h : u < 10) : Go.Lib.decDigits u = [UInt8.ofNat (48 + u)] := by rw [Go.Lib.decDigits, dif_pos h]
theorem dec_step {u : Nat} (h : ¬ u < 10) : Go.Lib.decDigits u = Go.Lib.decDigits (u / 10) ++ [UInt8.ofNat (48 + u % 10)] := by rw [Go.Lib.decDigits, dif_neg h]
theorem dec_len : ∀ (k u : Nat), u < 10 ^ (k + 1) → (Go.Lib.decDigits u).length ≤ k + 1
  | 0, u, h => by rw [dec_small (by omega)]; simp
  | k + 1, u, h => by
    by_cases hu : u < 10
    · rw [dec_small hu]; simp
    · rw [dec_step hu, List.length_append]
      have := dec_len k (u / 10) (by rw [Nat.pow_succ] at h; omega)
      simp; omega
theorem byte1 {n : Int} (h0 : 0 ≤ n) (h1 : n < 10) : toStr [wrapI .u8 (addI .i64 48 n)] = [UInt8.ofNat (48 + n.toNat)] := by
  have e : wrapI .u8 (addI .i64 48 n) = 48 + n := by
    rw [add_id (by unfold I64; omega)]
    unfold wrapI
    simp only [IntKind.wrap, IntKind.bits, IntKind.signed, Bool.false_and, Bool.false_eq_true, if_false]
    exact Int.emod_eq_of_lt (by omega) (by omega)
  rw [e]
  unfold toStr
  rw [List.map_singleton, show (48 + n).toNat = 48 + n.toNat by omega]
theorem digits_nat : ∀ (k : Nat) (u : Nat), k ≤ 100 → u < 10 ^ (k + 1) → u < 9223372036854775808 → RS_spec_l00Digits (k + 1) (((u : Int), ()), ()) = some (Go.Lib.decDigits u, ())
  | k, u, hk, hu, h64 => by
    rw [RS_spec_l00Digits]
    dsimp only
    rw [br_neg (eq_f (by omega)), br_neg (lt_f (by omega))]
    by_cases h : u < 10
    · rw [br_pos (lt_t (by omega)), byte1 (by omega) (by omega), dec_small h]; rfl
    · rw [br_neg (lt_f (by omega))]
      cases k with
      | zero => exact absurd hu (by simpa using h)
      | succ k =>
        have hq : quoI .i64 (u : Int) 10 = ((u / 10 : Nat) : Int) := by
          unfold quoI
          rw [show ((u : Int).tdiv 10) = ((u / 10 : Nat) : Int) by rw [Int.tdiv_eq_ediv_of_nonneg (by omega)]; simp]
          exact wrap64_id (by unfold I64; omega)
        have hr : remI (u : Int) 10 = ((u % 10 : Nat) : Int) := by unfold remI; rw [Int.tmod_eq_emod_of_nonneg (by omega)]; simp
        rw [hq, digits_nat k (u / 10) (by omega) (by rw [Nat.pow_succ] at hu; omega) (by omega), bnd_s, hr]
        dsimp only
        rw [byte1 (by omega) (by omega), dec_step h]
        have hl := dec_len k (u / 10) (by rw [Nat.pow_succ] at hu; omega)
        rw [br_pos (by unfold fits2 lim; simp; omega), show (((u % 10 : Nat) : Int)).toNat = u % 10 from rfl]
        rfl
theorem itoa_len {n : Int} (h : I64 n) : (Go.Lib.itoa n).length ≤ 20 := by
  unfold I64 at h
  unfold Go.Lib.itoa
  split
  · have := dec_len 18 n.natAbs (by omega)
    simp; omega
  · have := dec_len 18 n.toNat (by omega)
    omega
theorem l00Digits_eq {n : Int} (h : I64 n) : S_spec_l00Digits ((n, ()), ()) = some (Go.Lib.itoa n, ()) := by
  unfold S_spec_l00Digits
  unfold I64 at h
  by_cases hm : n = -9223372036854775808
  · subst hm
    rw [RS_spec_l00Digits]
    dsimp only
    rw [br_pos (eq_t rfl)]
    unfold Go.Lib.itoa
    rw [if_pos (by decide)]
    congr 2
    show _ = 45 :: Go.Lib.decDigits 9223372036854775808
    simp [Go.Lib.decDigits]
  · by_cases h0 : 0 ≤ n
    · obtain ⟨u, rfl⟩ := Int.eq_ofNat_of_zero_le h0
      rw [digits_nat 99 u (by decide) (Nat.lt_of_lt_of_le (show u < 10 ^ 20 by omega) (Nat.pow_le_pow_right (by decide) (by decide))) (by omega)]
      unfold Go.Lib.itoa
      rw [if_neg (by omega)]
      simp
    · rw [RS_spec_l00Digits]
      dsimp only
      rw [br_neg (eq_f hm), br_pos (lt_t (by omega)), sub_id (by unfold I64; omega)]
      obtain ⟨u, hu⟩ := Int.eq_ofNat_of_zero_le (show 0 ≤ 0 - n by omega)
      rw [hu, digits_nat 98 u (by decide) (Nat.lt_of_lt_of_le (show u < 10 ^ 20 by omega) (Nat.pow_le_pow_right (by decide) (by decide))) (by omega), bnd_s]
      dsimp only
      have hl := dec_len 19 u (by omega)
      rw [br_pos (by unfold fits2 lim; simp; omega)]
      unfold Go.Lib.itoa
      rw [if_pos (by omega), show n.natAbs = u by omega]
      simp [appL]
end Go.Den.G
namespace Go.Den.G
open Go.Den
set_option maxRecDepth 100000

/-! ### sizes and ranges -/
theorem isSize_dec (n : Int) : S_impl_isSize ((n, ()), ()) = some (decide (n = 1 ∨ n = 2 ∨ n = 4 ∨ n = 8), ()) := by
  unfold S_impl_isSize
  simp only [br_or, bnd_s, eqI, ← Bool.decide_or, or_assoc]
theorem l01Size_isSize : S_spec_l01Size = S_impl_isSize := rfl
theorem within_dec (n a b : Int) : S_impl_within ((n, (a, (b, ()))), ()) = some (decide (a ≤ n ∧ n ≤ b), ()) := by
  unfold S_impl_within
  simp only [br_and, bnd_s, leI, Bool.decide_and]
theorem l01In_within : S_spec_l01In = S_impl_within := rfl

/-! ### the names of the registers -/
def regL1 : List (List UInt8) := [[97, 108], [99, 108], [100, 108], [98, 108], [115, 112, 108], [98, 112, 108], [115, 105, 108], [100, 105, 108], [114, 56, 98], [114, 57, 98], [114, 49, 48, 98], [114, 49, 49, 98], [114, 49, 50, 98], [114, 49, 51, 98], [114, 49, 52, 98], [114, 49, 53, 98], [97, 104], [99, 104], [100, 104], [98, 104]]
def regL2 : List (List UInt8) := [[97, 120], [99, 120], [100, 120], [98, 120], [115, 112], [98, 112], [115, 105], [100, 105], [114, 56, 119], [114, 57, 119], [114, 49, 48, 119], [114, 49, 49, 119], [114, 49, 50, 119], [114, 49, 51, 119], [114, 49, 52, 119], [114, 49, 53, 119]]
def regL4 : List (List UInt8) := [[101, 97, 120], [101, 99, 120], [101, 100, 120], [101, 98, 120], [101, 115, 112], [101, 98, 112], [101, 115, 105], [101, 100, 105], [114, 56, 100], [114, 57, 100], [114, 49, 48, 100], [114, 49, 49, 100], [114, 49, 50, 100], [114, 49, 51, 100], [114, 49, 52, 100], [114, 49, 53, 100]]
def regL8 : List (List UInt8) := [[114, 97, 120], [114, 99, 120], [114, 100, 120], [114, 98, 120], [114, 115, 112], [114, 98, 112], [114, 115, 105], [114, 100, 105], [114, 56], [114, 57], [114, 49, 48], [114, 49, 49], [114, 49, 50], [114, 49, 51], [114, 49, 52], [114, 49, 53]]
theorem regNames1 : S_impl_regNames ((1, ()), ()) = some (regL1, ()) := by kernel_rfl
theorem l03Regs1 : S_spec_l03Regs ((1, ()), ()) = some (regL1, ()) := by kernel_rfl
theorem regNames2 : S_impl_regNames ((2, ()), ()) = some (regL2, ()) := by kernel_rfl
theorem l03Regs2 : S_spec_l03Regs ((2, ()), ()) = some (regL2, ()) := by kernel_rfl
theorem regNames4 : S_impl_regNames ((4, ()), ()) = some (regL4, ()) := by kernel_rfl
theorem l03Regs4 : S_spec_l03Regs ((4, ()), ()) = some (regL4, ()) := by kernel_rfl
theorem regNames8 : S_impl_regNames ((8, ()), ()) = some (regL8, ()) := by kernel_rfl
theorem l03Regs8 : S_spec_l03Regs ((8, ()), ()) = some (regL8, ()) := by kernel_rfl
def regL (s : Int) : List (List UInt8) := if s = 1 then regL1 else if s = 2 then regL2 else if s = 4 then regL4 else regL8
def sizeP (s : Int) : Prop := s = 1 ∨ s = 2 ∨ s = 4 ∨ s = 8
instance (s : Int) : Decidable (sizeP s) := by unfold sizeP; infer_instance
def regP (r s : Int) : Prop := 0 ≤ r ∧ r < (regL s).length
instance (r s : Int) : Decidable (regP r s) := by unfold regP; infer_instance
def nameOf (r s : Int) : List UInt8 := if regP r s then (regL s).getD r.toNat [] else []
theorem regNames_eq {s : Int} (h : sizeP s) : S_impl_regNames ((s, ()), ()) = some (regL s, ()) := by
  rcases h with rfl | rfl | rfl | rfl
  · exact regNames1
  · exact regNames2
  · exact regNames4
  · exact regNames8
theorem l03Regs_eq {s : Int} (h : sizeP s) : S_spec_l03Regs ((s, ()), ()) = some (regL s, ()) := by
  rcases h with rfl | rfl | rfl | rfl
  · exact l03Regs1
  · exact l03Regs2
  · exact l03Regs4
  · exact l03Regs8
theorem isReg_eq (r s : Int) : S_impl_isReg ((r, (s, ())), ()) = some (decide (sizeP s ∧ (0 ≤ r ∧ r ≤ 15 ∨ s = 1 ∧ 16 ≤ r ∧ r ≤ 19)), ()) := by
  unfold S_impl_isReg S_impl_isHigh
  simp only [isSize_dec, within_dec, bnd_s, br_or, br_and, eqI]
  congr 2
  rw [Bool.eq_iff_iff]
  unfold sizeP
  simp
theorem regP_iff {r s : Int} (h : sizeP s) : (0 ≤ r ∧ r ≤ 15 ∨ s = 1 ∧ 16 ≤ r ∧ r ≤ 19) ↔ regP r s := by
  unfold regP
  rcases h with rfl | rfl | rfl | rfl
  · rw [show (regL 1).length = 20 from rfl]; omega
  · rw [show (regL 2).length = 16 from rfl]; omega
  · rw [show (regL 4).length = 16 from rfl]; omega
  · rw [show (regL 8).length = 16 from rfl]; omega
theorem RegName_eq (r : Int) {s : Int} (h : sizeP s) : S_impl_RegName ((r, (s, ())), ()) = some (nameOf r s, ()) := by
  unfold S_impl_RegName nameOf
  rw [isReg_eq, bnd_s]
  dsimp only
  by_cases hr : regP r s
  · rw [if_pos hr, decide_eq_true ⟨h, (regP_iff h).2 hr⟩, notB_t, br_neg rfl, regNames_eq h, bnd_s]
    dsimp only
    rw [br_pos (by unfold regP at hr; simp [inR, lenL, hr.1, hr.2])]
    rfl
  · rw [if_neg hr, decide_eq_false (fun x => hr ((regP_iff h).1 x.2)), notB_f, br_pos rfl]
theorem sRegName_eq (r : Int) {s : Int} (h : sizeP s) : S_spec_RegName ((r, (s, ())), ()) = some (nameOf r s, ()) := by
  unfold S_spec_RegName nameOf
  rw [l01Size_isSize, isSize_dec, bnd_s]
  dsimp only
  rw [decide_eq_true (show s = 1 ∨ s = 2 ∨ s = 4 ∨ s = 8 from h), notB_t, br_neg rfl, l03Regs_eq h, bnd_s]
  dsimp only
  rw [br_or, bnd_s]
  by_cases hr : regP r s
  · rw [if_pos hr]
    unfold regP at hr
    have e : (ltI r 0 || leI (lenL (regL s)) r) = false := by unfold ltI leI lenL; simp; omega
    rw [e, br_neg rfl, br_pos (by simp [inR, lenL, hr.1, hr.2])]
    rfl
  · rw [if_neg hr]
    unfold regP at hr
    have e : (ltI r 0 || leI (lenL (regL s)) r) = true := by unfold ltI leI lenL; simp; omega
    rw [e, br_pos rfl]
theorem name_lens : (∀ i, i < 20 → 1 ≤ (regL1.getD i []).length ∧ (regL1.getD i []).length ≤ 4) ∧ (∀ i, i < 16 → 1 ≤ (regL2.getD i []).length ∧ (regL2.getD i []).length ≤ 4) ∧
    (∀ i, i < 16 → 1 ≤ (regL4.getD i []).length ∧ (regL4.getD i []).length ≤ 4) ∧ ∀ i, i < 16 → 1 ≤ (regL8.getD i []).length ∧ (regL8.getD i []).length ≤ 4 := by decide +kernel
theorem nameOf_len (r : Int) {s : Int} (h : sizeP s) : (nameOf r s).length ≤ 4 ∧ (regP r s → 1 ≤ (nameOf r s).length) := by
  unfold nameOf
  by_cases hr : regP r s
  · rw [if_pos hr]
    have hk := hr
    unfold regP at hr
    obtain ⟨n1, n2, n4, n8⟩ := name_lens
    rcases h with rfl | rfl | rfl | rfl
    · have := n1 r.toNat (by have : (regL 1).length = 20 := rfl; omega); exact ⟨this.2, fun _ => this.1⟩
    · have := n2 r.toNat (by have : (regL 2).length = 16 := rfl; omega); exact ⟨this.2, fun _ => this.1⟩
    · have := n4 r.toNat (by have : (regL 4).length = 16 := rfl; omega); exact ⟨this.2, fun _ => this.1⟩
    · have := n8 r.toNat (by have : (regL 8).length = 16 := rfl; omega); exact ⟨this.2, fun _ => this.1⟩
  · rw [if_neg hr]; exact ⟨by simp, fun h => absurd h hr⟩
end Go.Den.G
namespace Go.Den.G
open Go.Den

/-! ### which operands there are -/
/-- What makes an operand in memory. -/
def memP (k r b i s d m : Int) : Prop := k = 2 ∧ r = 0 ∧ m = 0 ∧ -1 ≤ b ∧ b ≤ 16 ∧ -1 ≤ i ∧ i ≤ 15 ∧ i ≠ 4 ∧ (s = 1 ∨ i ≠ -1 ∧ (s = 2 ∨ s = 4 ∨ s = 8)) ∧ (b ≠ 16 ∨ i = -1) ∧ -2147483648 ≤ d ∧ d ≤ 2147483647
instance (k r b i s d m : Int) : Decidable (memP k r b i s d m) := by unfold memP; infer_instance
def opOK (k r b i s d m z : Int) : Prop := sizeP z ∧
  (k = 1 ∧ b = 0 ∧ i = 0 ∧ s = 0 ∧ d = 0 ∧ m = 0 ∧ regP r z ∨ memP k r b i s d m ∨ k = 3 ∧ r = 0 ∧ b = 0 ∧ i = 0 ∧ s = 0 ∧ d = 0 ∨ k = 0 ∧ r = 0 ∧ b = 0 ∧ i = 0 ∧ s = 0 ∧ d = 0 ∧ m = 0)
instance (k r b i s d m z : Int) : Decidable (opOK k r b i s d m z) := by unfold opOK; infer_instance
end Go.Den.G
namespace Go.Den.G
open Go.Den
set_option maxRecDepth 100000

/-! ### the text of an operand -/
theorem itoa_eq {n : Int} (h : I64 n) : S_strconv_Itoa ((n, ()), ()) = some (Go.Lib.itoa n, ()) := by
  unfold I64 at h
  unfold S_strconv_Itoa pItoa
  unfold i64B
  dsimp only
  rw [le_t h.1, le_t (by omega)]; rfl
def wordOf (z : Int) : List UInt8 := if z = 1 then [98, 121, 116, 101] else if z = 2 then [119, 111, 114, 100] else if z = 4 then [100, 119, 111, 114, 100] else [113, 119, 111, 114, 100]
theorem wordOf_len (z : Int) : (wordOf z).length ≤ 5 := by unfold wordOf; split <;> (try split) <;> (try split) <;> decide
theorem sizeWord_eq {z : Int} (h : sizeP z) : S_impl_sizeWord ((z, ()), ()) = some (wordOf z, ()) := by
  rcases h with rfl | rfl | rfl | rfl <;> rfl
theorem l16Size_eq {z : Int} (h : sizeP z) : S_spec_l16Size ((z, ()), ()) = some (wordOf z, ()) := by
  rcases h with rfl | rfl | rfl | rfl <;> rfl
def ripS : List UInt8 := [114, 105, 112]
def p1 (b : Int) : List (List UInt8) := if b = 16 then [ripS] else if 0 ≤ b then [nameOf b 8] else []
def p2 (i s : Int) : List (List UInt8) := if 0 ≤ i then [nameOf i 8 ++ [42] ++ Go.Lib.itoa s] else []
def p3 (d : Int) (q : List (List UInt8)) : List (List UInt8) := if d ≠ 0 ∨ q = [] then [Go.Lib.itoa d] else []
def pieces (b i s d : Int) : List (List UInt8) := (p1 b ++ p2 i s) ++ p3 d (p1 b ++ p2 i s)
def memTxt (b i s d z : Int) : List UInt8 := wordOf z ++ [32, 91] ++ Go.Lib.join (pieces b i s d) [43] ++ [93]
theorem size8 : sizeP 8 := .inr (.inr (.inr rfl))
theorem join_more (x y p : List UInt8) (r : List (List UInt8)) : Go.Lib.join (x :: y :: r) p = x ++ (p ++ Go.Lib.join (y :: r) p) := by
  rw [Go.Lib.join_cons, Go.Lib.join_cons]
  simp [Go.Lib.joinTail]
theorem join_len : ∀ (l : List (List UInt8)), (∀ x ∈ l, x.length ≤ 30) → (Go.Lib.join l [43]).length ≤ 31 * l.length
  | [], _ => by simp [Go.Lib.join]
  | [x], h => by have := h x (by simp); rw [Go.Lib.join_one]; simp; omega
  | x :: y :: r, h => by
    have h1 := h x (by simp)
    have h2 := join_len (y :: r) fun z hz => h z (List.mem_cons_of_mem _ hz)
    rw [join_more]
    simp only [List.length_append, List.length_cons, List.length_nil] at h2 ⊢
    omega
theorem p1_len (b : Int) : (p1 b).length ≤ 1 ∧ ∀ x ∈ p1 b, x.length ≤ 30 := by
  unfold p1
  split
  · exact ⟨by simp, by simp [ripS]⟩
  · split
    · have := (nameOf_len b size8).1
      exact ⟨by simp, by simp; omega⟩
    · simp
theorem p2_len {i s : Int} (hs : I64 s) : (p2 i s).length ≤ 1 ∧ ∀ x ∈ p2 i s, x.length ≤ 30 := by
  unfold p2
  split
  · have := (nameOf_len i size8).1
    have := itoa_len hs
    exact ⟨by simp, by simp; omega⟩
  · simp
theorem p3_len {d : Int} (hd : I64 d) (q : List (List UInt8)) : (p3 d q).length ≤ 1 ∧ ∀ x ∈ p3 d q, x.length ≤ 30 := by
  unfold p3
  split
  · have := itoa_len hd
    exact ⟨by simp, by simp; omega⟩
  · simp
theorem pieces_len {b i s d : Int} (hs : I64 s) (hd : I64 d) : (pieces b i s d).length ≤ 3 ∧ (Go.Lib.join (pieces b i s d) [43]).length ≤ 93 := by
  have h1 := p1_len b
  have h2 := p2_len (i := i) hs
  have h3 := p3_len hd (p1 b ++ p2 i s)
  have hl : (pieces b i s d).length ≤ 3 := by unfold pieces; simp only [List.length_append]; omega
  refine ⟨hl, Nat.le_trans (join_len _ fun x hx => ?_) (by omega)⟩
  unfold pieces at hx
  rcases List.mem_append.1 hx with hx | hx
  · rcases List.mem_append.1 hx with hx | hx
    · exact h1.2 x hx
    · exact h2.2 x hx
  · exact h3.2 x hx
theorem smallF {α β : Type} {xs : List α} {ys : List β} (h1 : xs.length ≤ 1000) (h2 : ys.length ≤ 1000) : fits2 xs ys = true := fits2_t (by omega)
theorem operandText_mem {r b i s d m z : Int} (hz : sizeP z) (h : memP 2 r b i s d m) : S_impl_operandText (((2, (r, (b, (i, (s, (d, (m, ()))))))), (z, ())), ()) = some (memTxt b i s d z, ()) := by
  have hd : I64 d := by unfold memP at h; unfold I64; omega
  have hs : I64 s := by unfold memP at h; unfold I64; omega
  unfold S_impl_operandText
  dsimp only [p5, p6, d6]
  rw [br_neg (eq_f (by decide)), br_neg (eq_f (by decide)), br_pos (eq_t rfl)]
  refine (Ret.bnd (Q := fun y => y = Sum.inl ((z, ()), ((2, (r, (b, (i, (s, (d, (m, ()))))))), (p1 b, ())))) ?_ ?_).eq
  · unfold p1
    by_cases hb : b = 16
    · rw [br_pos (eq_t hb), if_pos hb]
      exact Ret.need (smallF (by simp) (by simp)) (Ret.some rfl)
    · rw [br_neg (eq_f hb), if_neg hb]
      refine Ret.bnd (Q := fun y => y = Sum.inl ((z, ()), ((2, (r, (b, (i, (s, (d, (m, ()))))))), ((if 0 ≤ b then [nameOf b 8] else []), ())))) ?_ (fun y hy => by subst hy; exact Ret.some rfl)
      by_cases h0 : 0 ≤ b
      · rw [br_pos (le_t h0), if_pos h0, RegName_eq b size8, bnd_s]
        dsimp only
        exact Ret.need (smallF (by simp) (by simp)) (Ret.some rfl)
      · rw [br_neg (le_f (by omega)), if_neg h0]
        exact Ret.some rfl
  · rintro _ rfl
    rw [sumE_l]
    dsimp only
    refine Ret.bnd (Q := fun y => y = Sum.inl ((z, ()), ((2, (r, (b, (i, (s, (d, (m, ()))))))), (p1 b ++ p2 i s, ())))) ?_ ?_
    · unfold p2
      by_cases h0 : 0 ≤ i
      · have hn := (nameOf_len i size8).1
        have hi := itoa_len hs
        have h1 := (p1_len b).1
        rw [br_pos (le_t h0), if_pos h0, RegName_eq i size8, bnd_s]
        dsimp only
        rw [br_pos (smallF (by omega) (by simp)), itoa_eq hs, bnd_s]
        dsimp only
        rw [br_pos (smallF (by simp [appL]; omega) (by omega)), br_pos (smallF (by omega) (by simp))]
        exact Ret.some rfl
      · rw [br_neg (le_f (by omega)), if_neg h0, List.append_nil]
        exact Ret.some rfl
    · rintro _ rfl
      rw [sumE_l]
      dsimp only
      have hq1 := (p1_len b).1
      have hq2 := (p2_len (i := i) hs).1
      have hq : (p1 b ++ p2 i s).length ≤ 2 := by simp only [List.length_append]; omega
      rw [br_or, bnd_s]
      refine Ret.bnd (Q := fun y => y = Sum.inl ((z, ()), (pieces b i s d, ()))) ?_ ?_
      · unfold pieces p3
        generalize p1 b ++ p2 i s = q at hq
        by_cases hc : d ≠ 0 ∨ q = []
        · have e : (notB (eqI d 0) || eqI (lenL q) 0) = true := by
            rcases hc with hc | hc
            · rw [eq_f hc]; rfl
            · subst hc; simp [eqI, lenL]
          rw [e, br_pos rfl, if_pos hc, itoa_eq hd, bnd_s]
          dsimp only
          rw [br_pos (smallF (by omega) (by simp))]
          exact Ret.some rfl
        · have e : (notB (eqI d 0) || eqI (lenL q) 0) = false := by
            have hd0 : d = 0 := by apply Classical.byContradiction; intro h; exact hc (.inl h)
            have hqn : q ≠ [] := fun h => hc (.inr h)
            rw [eq_t hd0]
            have : 0 < q.length := List.length_pos_iff.2 hqn
            simp [notB, eqI, lenL]; omega
          rw [e, br_neg rfl, if_neg hc, List.append_nil]
          exact Ret.some rfl
      · rintro _ rfl
        rw [sumE_l]
        dsimp only
        have hp := pieces_len (b := b) (i := i) hs hd
        have hw := wordOf_len z
        rw [sizeWord_eq hz, bnd_s]
        dsimp only
        rw [br_pos (smallF (by omega) (by simp)), br_pos (by unfold joinLim; exact decide_eq_true ⟨by omega, by omega⟩), br_pos (smallF (by simp [appL]; omega) (by unfold joinS; omega)), br_pos (smallF (by simp [appL, joinS]; omega) (by simp))]
        exact Ret.some rfl
def ne (q : List (List UInt8)) : Prop := ∀ y ∈ q, y ≠ []
theorem join_snoc (x p : List UInt8) : ∀ q : List (List UInt8), Go.Lib.join (q ++ [x]) p = if q = [] then x else Go.Lib.join q p ++ p ++ x
  | [] => by rw [List.nil_append, Go.Lib.join_one, if_pos rfl]
  | [y] => by rw [if_neg (by simp), List.singleton_append, join_more, Go.Lib.join_one, Go.Lib.join_one]; simp
  | y :: z :: r => by
    have := join_snoc x p (z :: r)
    rw [if_neg (by simp)] at this
    rw [if_neg (by simp), List.cons_append, List.cons_append, join_more, ← List.cons_append, this, join_more]
    simp
theorem join_none (p : List UInt8) {q : List (List UInt8)} (h : ne q) : Go.Lib.join q p = [] ↔ q = [] := by
  cases q with
  | nil => simp [Go.Lib.join_nil]
  | cons y r =>
    refine ⟨fun e => ?_, fun e => by cases e⟩
    exfalso
    have hy := h y (by simp)
    cases r with
    | nil => rw [Go.Lib.join_one] at e; exact hy e
    | cons z r => rw [join_more] at e; exact hy (List.append_eq_nil_iff.1 e).1
theorem eqS_iff {a b : List UInt8} : eqS a b = true ↔ a = b := by unfold eqS; simp
theorem eqS_nf {a b : List UInt8} : eqS a b = false ↔ a ≠ b := by unfold eqS; simp
theorem l16Memory_eq {r b i s d m : Int} (h : memP 2 r b i s d m) : S_spec_l16Memory (((2, (r, (b, (i, (s, (d, (m, ()))))))), ()), ()) = some ([91] ++ Go.Lib.join (pieces b i s d) [43] ++ [93], ()) := by
  have hd : I64 d := by unfold memP at h; unfold I64; omega
  have hs : I64 s := by unfold memP at h; unfold I64; omega
  have n1 : ne (p1 b) := by
    unfold p1
    split
    · intro y hy; rw [List.mem_singleton.1 hy]; decide
    · split
      · rename_i h1 h2
        intro y hy
        rw [List.mem_singleton.1 hy]
        have := (nameOf_len b size8).2 ((regP_iff size8).1 (.inl (by unfold memP at h; omega)))
        intro e; rw [e] at this; simp at this
      · intro y hy; cases hy
  have n2 : ne (p1 b ++ p2 i s) := by
    intro y hy
    rcases List.mem_append.1 hy with hy | hy
    · exact n1 y hy
    · unfold p2 at hy
      split at hy
      · rw [List.mem_singleton.1 hy]; simp
      · cases hy
  have l1 := p1_len b
  have l2 := p2_len (i := i) hs
  have j1 : (Go.Lib.join (p1 b) [43]).length ≤ 31 := Nat.le_trans (join_len _ l1.2) (by omega)
  have j2 : (Go.Lib.join (p1 b ++ p2 i s) [43]).length ≤ 62 := Nat.le_trans (join_len _ fun x hx => (List.mem_append.1 hx).elim (l1.2 x) (l2.2 x)) (by simp only [List.length_append]; omega)
  have j3 := pieces_len (b := b) (i := i) hs hd
  unfold S_spec_l16Memory
  dsimp only [p5, p6, d6]
  refine (Ret.bnd (Q := fun y => y = Sum.inl ((Go.Lib.join (p1 b) [43], ()), ((2, (r, (b, (i, (s, (d, (m, ()))))))), ()))) ?_ ?_).eq
  · unfold p1
    by_cases hb : b = 16
    · rw [br_pos (eq_t hb), if_pos hb, Go.Lib.join_one]
      exact Ret.some rfl
    · rw [br_neg (eq_f hb), if_neg hb]
      by_cases h0 : 0 ≤ b
      · rw [br_pos (le_t h0), if_pos h0, Go.Lib.join_one, sRegName_eq b size8, bnd_s]
        exact Ret.some rfl
      · rw [br_neg (le_f (by omega)), if_neg h0, Go.Lib.join_nil]
        exact Ret.some rfl
  · rintro _ rfl
    rw [sumE_l]
    dsimp only
    refine Ret.bnd (Q := fun y => y = Sum.inl ((Go.Lib.join (p1 b ++ p2 i s) [43], ()), ((2, (r, (b, (i, (s, (d, (m, ()))))))), ()))) ?_ ?_
    · unfold p2
      by_cases h0 : 0 ≤ i
      · have hn := (nameOf_len i size8).1
        have hi := itoa_len hs
        rw [br_pos (le_t h0), if_pos h0, join_snoc]
        refine Ret.bnd (Q := fun y => y = Sum.inl (((if p1 b = [] then [] else Go.Lib.join (p1 b) [43] ++ [43]), ()), ((2, (r, (b, (i, (s, (d, (m, ()))))))), ()))) ?_ ?_
        · by_cases hq : p1 b = []
          · rw [if_pos hq, eqS_iff.2 ((join_none _ n1).2 hq), notB_t, br_neg rfl, (join_none _ n1).2 hq]
            exact Ret.some rfl
          · rw [if_neg hq, eqS_nf.2 (fun e => hq ((join_none _ n1).1 e)), notB_f, br_pos rfl, br_pos (smallF (by omega) (by simp))]
            exact Ret.some rfl
        · rintro _ rfl
          rw [sumE_l]
          dsimp only
          rw [sRegName_eq i size8, bnd_s]
          dsimp only
          have hx : (if p1 b = [] then [] else Go.Lib.join (p1 b) [43] ++ [43]).length ≤ 40 := by split <;> simp; omega
          rw [br_pos (smallF (by omega) (by simp)), l00Digits_eq hs, bnd_s]
          dsimp only
          rw [br_pos (smallF (by simp [appL]; omega) (by omega)), br_pos (smallF (by omega) (by simp [appL]; omega))]
          refine Ret.some ?_
          congr 2
          by_cases hq : p1 b = []
          · simp [hq, appL]
          · simp [hq, appL]
      · rw [br_neg (le_f (by omega)), if_neg h0, List.append_nil]
        exact Ret.some rfl
    · rintro _ rfl
      rw [sumE_l]
      dsimp only
      rw [br_or, bnd_s]
      refine Ret.bnd (Q := fun y => y = Sum.inl ((Go.Lib.join (pieces b i s d) [43], ()), ())) ?_ ?_
      · unfold pieces p3
        revert n2 j2
        generalize p1 b ++ p2 i s = q
        intro n2 j2
        by_cases hc : d ≠ 0 ∨ q = []
        · have e : (notB (eqI d 0) || eqS (Go.Lib.join q [43]) []) = true := by
            rcases hc with hc | hc
            · rw [eq_f hc]; rfl
            · rw [eqS_iff.2 ((join_none _ n2).2 hc)]; simp
          rw [e, br_pos rfl, if_pos hc, join_snoc]
          have hi := itoa_len hd
          refine Ret.bnd (Q := fun y => y = Sum.inl (((if q = [] then [] else Go.Lib.join q [43] ++ [43]), ()), ((2, (r, (b, (i, (s, (d, (m, ()))))))), ()))) ?_ ?_
          · by_cases hq : q = []
            · rw [if_pos hq, eqS_iff.2 ((join_none _ n2).2 hq), notB_t, br_neg rfl, (join_none _ n2).2 hq]
              exact Ret.some rfl
            · rw [if_neg hq, eqS_nf.2 (fun e => hq ((join_none _ n2).1 e)), notB_f, br_pos rfl, br_pos (smallF (by omega) (by simp))]
              exact Ret.some rfl
          · rintro _ rfl
            rw [sumE_l]
            dsimp only
            have hx : (if q = [] then [] else Go.Lib.join q [43] ++ [43]).length ≤ 70 := by split <;> simp; omega
            rw [l00Digits_eq hd, bnd_s]
            dsimp only
            rw [br_pos (smallF (by omega) (by omega))]
            refine Ret.some ?_
            congr 2
            by_cases hq : q = []
            · simp [hq, appL]
            · simp [hq, appL]
        · have e : (notB (eqI d 0) || eqS (Go.Lib.join q [43]) []) = false := by
            have hd0 : d = 0 := by apply Classical.byContradiction; intro h; exact hc (.inl h)
            have hqn : q ≠ [] := fun h => hc (.inr h)
            rw [eq_t hd0, eqS_nf.2 fun e => hqn ((join_none _ n2).1 e)]; rfl
          rw [e, br_neg rfl, if_neg hc, List.append_nil]
          exact Ret.some rfl
      · rintro _ rfl
        rw [sumE_l]
        dsimp only
        rw [br_pos (smallF (by simp) (by omega)), br_pos (smallF (by simp [appL]; omega) (by simp))]
        exact Ret.some rfl
/-- The text of an operand that is right. -/
def opTxt (k r b i s d m z : Int) : List UInt8 := if k = 1 then nameOf r z else if k = 2 then memTxt b i s d z else if k = 3 then Go.Lib.itoa m else []
theorem operandText_eq {k r b i s d m z : Int} (hm : I64 m) (h : opOK k r b i s d m z) : S_impl_operandText (((k, (r, (b, (i, (s, (d, (m, ()))))))), (z, ())), ()) = some (opTxt k r b i s d m z, ()) := by
  obtain ⟨hz, h⟩ := h
  unfold opTxt
  by_cases h2 : k = 2
  · subst h2
    rw [if_neg (by decide), if_pos rfl]
    exact operandText_mem hz (by rcases h with h | h | h | h <;> first | exact h | exact absurd h.1 (by decide))
  · unfold S_impl_operandText
    dsimp only [p5, p6, d6]
    by_cases h1 : k = 1
    · rw [br_pos (eq_t h1), if_pos h1, RegName_eq r hz]; rfl
    · rw [br_neg (eq_f h1), if_neg h1, if_neg h2]
      by_cases h3 : k = 3
      · rw [br_pos (eq_t h3), if_pos h3, itoa_eq hm]; rfl
      · rw [br_neg (eq_f h3), br_neg (eq_f h2), if_neg h3]
theorem l16Operand_eq {k r b i s d m z : Int} (hm : I64 m) (h : opOK k r b i s d m z) : S_spec_l16Operand (((k, (r, (b, (i, (s, (d, (m, ()))))))), (z, ())), ()) = some (opTxt k r b i s d m z, ()) := by
  obtain ⟨hz, h⟩ := h
  unfold opTxt S_spec_l16Operand
  dsimp only [p5, p6, d6]
  by_cases h1 : k = 1
  · rw [br_pos (eq_t h1), if_pos h1, sRegName_eq r hz]; rfl
  · rw [br_neg (eq_f h1), if_neg h1]
    by_cases h2 : k = 2
    · subst h2
      have hmem : memP 2 r b i s d m := by rcases h with h | h | h | h <;> first | exact h | exact absurd h.1 (by decide)
      have hw := wordOf_len z
      have hj := pieces_len (b := b) (i := i) (s := s) (d := d) (by unfold memP at hmem; unfold I64; omega) (by unfold memP at hmem; unfold I64; omega)
      rw [br_pos (eq_t rfl), if_pos rfl, l16Size_eq hz, bnd_s]
      dsimp only
      rw [br_pos (smallF (by omega) (by simp)), l16Memory_eq hmem, bnd_s]
      dsimp only
      rw [br_pos (smallF (by simp [appL]; omega) (by simp; omega))]
      unfold memTxt appL
      simp
    · rw [br_neg (eq_f h2), if_neg h2]
      by_cases h3 : k = 3
      · rw [br_pos (eq_t h3), if_pos h3, l00Digits_eq hm]; rfl
      · rw [br_neg (eq_f h3), if_neg h3]
end Go.Den.G
namespace Go.Den.G
open Go.Den

/-! ### signs -/
/-- A number's lowest bits, as a number with a sign; `m`: the sign's place. -/
def sx (m : Nat) (v : Int) : Int := if (v % 2 ^ 64 / 2 ^ m) % 2 = 1 then v % 2 ^ (m + 1) - 2 ^ (m + 1) else v % 2 ^ (m + 1)

theorem wrapU_id {n : Int} (h0 : 0 ≤ n) (h1 : n < 2 ^ 64) : IntKind.wrap .u64 n = n := by
  simp only [IntKind.wrap, IntKind.bits, IntKind.signed, Bool.false_and, Bool.false_eq_true, if_false]
  exact Int.emod_eq_of_lt h0 h1
theorem wrapU_eq (n : Int) : IntKind.wrap .u64 n = n % 2 ^ 64 := by
  simp [IntKind.wrap, IntKind.bits, IntKind.signed]
theorem l01Bit_eq (v i : Int) (h0 : 0 ≤ i) (h1 : i ≤ 63) : S_spec_l01Bit ((v, (i, ())), ()) = some (v % 2 ^ 64 / 2 ^ i.toNat % 2, ()) := by
  unfold S_spec_l01Bit
  dsimp only
  have hw : wrapI IntKind.u64 i = i := wrapU_id h0 (by omega)
  rw [hw, br_pos (le_t h0)]
  have hi : min i.toNat 64 = i.toNat := by omega
  have e : remI (ishr IntKind.u64 (wrapI IntKind.u64 v) i) 2 = v % 2 ^ 64 / 2 ^ i.toNat % 2 := by
    unfold remI ishr wrapI
    rw [wrapU_eq]
    show Int.tmod (Int.fdiv (v % 2 ^ 64) (2 ^ (min i.toNat 64))) 2 = _
    rw [hi]
    have hp : (0 : Int) < 2 ^ i.toNat := Int.pow_pos (by decide)
    rw [Int.fdiv_eq_ediv_of_nonneg _ (Int.le_of_lt hp), Int.tmod_eq_emod_of_nonneg (Int.ediv_nonneg (Int.emod_nonneg _ (by decide)) (Int.le_of_lt hp))]
  rw [e]
  rcases Int.emod_two_eq (v % 2 ^ 64 / 2 ^ i.toNat) with h | h
  · rw [h, br_neg (eq_f (by decide))]
  · rw [h, br_pos (eq_t rfl)]
/-- The number with its sign spread over all bits. -/
def spread (m u : Nat) : Nat := 2 ^ (m + 1) * ((u / 2 ^ m % 2) * (2 ^ (63 - m) - 1)) + u % 2 ^ (m + 1)
theorem spread_bit (m u i : Nat) (hm : m ≤ 63) (hi : i ≤ 63) : spread m u / 2 ^ i % 2 = u / 2 ^ (min i m) % 2 := by
  have hb : ∀ a j : Nat, a / 2 ^ j % 2 = (a.testBit j).toNat := fun a j => by rw [Nat.testBit_eq_decide_div_mod_eq]; rcases Nat.mod_two_eq_zero_or_one (a / 2 ^ j) with h | h <;> simp [h]
  rw [hb, hb]
  congr 1
  unfold spread
  rw [Nat.testBit_two_pow_mul_add _ (Nat.mod_lt _ (Nat.two_pow_pos _))]
  split
  · rename_i h
    rw [Nat.testBit_mod_two_pow, show min i m = i by omega]
    simp [h]
  · rename_i h
    rw [show min i m = m by omega, hb]
    cases hs : u.testBit m with
    | false => simp
    | true =>
      simp only [Bool.toNat_true, Nat.one_mul]
      rw [Nat.testBit_two_pow_sub_one]
      simp; omega
theorem spread_lt (m u : Nat) (hm : m ≤ 63) : spread m u < 2 ^ 64 := by
  unfold spread
  have h1 : u % 2 ^ (m + 1) < 2 ^ (m + 1) := Nat.mod_lt _ (Nat.two_pow_pos _)
  have h2 : (u / 2 ^ m % 2) * (2 ^ (63 - m) - 1) ≤ 2 ^ (63 - m) - 1 := by
    have : u / 2 ^ m % 2 ≤ 1 := by omega
    calc _ ≤ 1 * (2 ^ (63 - m) - 1) := Nat.mul_le_mul_right _ this
      _ = _ := Nat.one_mul _
  have h3 : 2 ^ (m + 1) * 2 ^ (63 - m) = (2 : Nat) ^ 64 := by rw [← Nat.pow_add]; congr 1; omega
  have h4 : 2 ^ (m + 1) * ((u / 2 ^ m % 2) * (2 ^ (63 - m) - 1)) ≤ 2 ^ (m + 1) * (2 ^ (63 - m) - 1) := Nat.mul_le_mul_left _ h2
  have h6 : 2 ^ (m + 1) * (2 ^ (63 - m) - 1) = 2 ^ 64 - 2 ^ (m + 1) := by rw [Nat.mul_sub, Nat.mul_one, h3]
  rw [h6] at h4
  have h5 : (2 : Nat) ^ (m + 1) ≤ 2 ^ 64 := Nat.pow_le_pow_right (by decide) (by omega)
  omega
def uns (v : Int) : Nat := (v % 2 ^ 64).toNat
theorem uns_cast (v : Int) : ((uns v : Nat) : Int) = v % 2 ^ 64 := by unfold uns; have := Int.emod_nonneg v (show (2 : Int) ^ 64 ≠ 0 by decide); omega
theorem spread_sx (m : Nat) (v : Int) (hm : m ≤ 63) : IntKind.wrap .i64 (spread m (uns v) : Nat) = sx m v := by
  have hlt := spread_lt m (uns v) hm
  have hu := uns_cast v
  have hp : ((2 ^ m : Nat) : Int) = 2 ^ m := by simp
  have hp1 : ((2 ^ (m + 1) : Nat) : Int) = 2 ^ (m + 1) := by simp
  have hs : v % 2 ^ 64 / 2 ^ m % 2 = ((uns v / 2 ^ m % 2 : Nat) : Int) := by rw [← hu]; simp
  have hr : v % 2 ^ (m + 1) = ((uns v % 2 ^ (m + 1) : Nat) : Int) := by
    have h1 : v % 2 ^ (m + 1) = v % 2 ^ 64 % 2 ^ (m + 1) := by
      rw [Int.emod_emod_of_dvd]
      exact ⟨2 ^ (63 - m), by rw [← Int.pow_add]; congr 1; omega⟩
    rw [h1, ← hu]; simp
  have hmod : uns v % 2 ^ (m + 1) < 2 ^ (m + 1) := Nat.mod_lt _ (Nat.two_pow_pos _)
  have h64 : 2 ^ (m + 1) * 2 ^ (63 - m) = (2 : Nat) ^ 64 := by rw [← Nat.pow_add]; congr 1; omega
  unfold sx
  rw [hs, hr]
  have hle : (2 : Nat) ^ (m + 1) ≤ 2 ^ 64 := Nat.pow_le_pow_right (by decide) (by omega)
  have hdbl : (2 : Nat) ^ (m + 1) = 2 ^ m * 2 := Nat.pow_succ 2 m
  have hle2 : (2 : Nat) ^ m ≤ 2 ^ 63 := Nat.pow_le_pow_right (by decide) hm
  have hhi : uns v % 2 ^ (m + 1) / 2 ^ m = uns v / 2 ^ m % 2 := by rw [hdbl, Nat.mod_mul_right_div_self]
  rcases Nat.mod_two_eq_zero_or_one (uns v / 2 ^ m) with h | h
  · rw [h, if_neg (by decide)]
    have e : spread m (uns v) = uns v % 2 ^ (m + 1) := by unfold spread; rw [h]; simp
    rw [e]
    have : uns v % 2 ^ (m + 1) < 2 ^ m := by
      rw [h] at hhi
      exact (Nat.div_eq_zero_iff.1 hhi).resolve_left (by have := Nat.two_pow_pos m; omega)
    exact wrap64_id (by unfold I64; omega)
  · rw [h, if_pos (by rfl)]
    have e : spread m (uns v) + 2 ^ (m + 1) = 2 ^ 64 + uns v % 2 ^ (m + 1) := by
      unfold spread
      rw [h, Nat.one_mul, Nat.mul_sub, Nat.mul_one, h64]
      omega
    have h2 : 2 ^ m ≤ uns v % 2 ^ (m + 1) := by
      rw [h] at hhi
      have := Nat.div_mul_le_self (uns v % 2 ^ (m + 1)) (2 ^ m)
      rw [hhi] at this; omega
    have : ((spread m (uns v) : Nat) : Int) = ((uns v % 2 ^ (m + 1) : Nat) : Int) - 2 ^ (m + 1) + 2 ^ 64 := by rw [← hp1]; omega
    rw [this]
    have hw : ∀ n : Int, IntKind.wrap .i64 (n + 2 ^ 64) = IntKind.wrap .i64 n := fun n => by
      have h3 : (n + 2 ^ 64) % 2 ^ IntKind.i64.bits = n % 2 ^ IntKind.i64.bits := Int.add_emod_right ..
      simp only [IntKind.wrap, h3]
    rw [hw]
    rw [← hp1]
    exact wrap64_id (by unfold I64; omega)
/-- The reference's sign. -/
theorem l01Sign_eq (v n : Int) (h0 : 1 ≤ n) (h1 : n ≤ 8) : S_spec_l01Sign ((v, (n, ())), ()) = some (sx (8 * n - 1).toNat v, ()) := by
  unfold S_spec_l01Sign
  obtain ⟨k, hk⟩ : ∃ k : Nat, n = k := ⟨n.toNat, by omega⟩
  subst hk
  generalize hm : (8 * (k : Int) - 1).toNat = m
  have hm63 : m ≤ 63 := by omega
  refine (iter_eq (fun x => x.1.1 = v ∧ x.1.2.1 = (k : Int) ∧ -1 ≤ x.1.2.2.2.1 ∧ x.1.2.2.2.1 ≤ 63 ∧ x.1.2.2.1 = ((spread m (uns v) / 2 ^ (x.1.2.2.2.1 + 1).toNat : Nat) : Int)) (fun x => (x.1.2.2.2.1 + 1).toNat)
    (fun _ => some (sx m v, ())) ?_ F _ ⟨rfl, rfl, by show (-1 : Int) ≤ 63; decide, by show (63 : Int) ≤ 63; decide, ?_⟩ (by show ((63 : Int) + 1).toNat < F; decide)).trans rfl
  · rintro ⟨⟨v', k', acc, i, _⟩, _⟩ rec ⟨rfl, hk', h2, h3, hacc⟩ hrec
    dsimp only at hk' h2 h3 hacc hrec ⊢
    subst hk'
    by_cases hi : 0 ≤ i
    · obtain ⟨j, rfl⟩ := Int.eq_ofNat_of_zero_le hi
      rw [br_pos (le_t hi)]
      have e1 : subI .i64 (mulI .i64 8 (k : Int)) 1 = (m : Int) := by
        rw [mul_id (by unfold I64; omega), sub_id (by unfold I64; omega)]; omega
      rw [e1]
      have e2 : imin (j : Int) (m : Int) = ((min j m : Nat) : Int) := by unfold imin; split <;> omega
      rw [e2, l01Bit_eq _ _ (by omega) (by omega), bnd_s]
      dsimp only
      have e3 : v' % 2 ^ 64 / 2 ^ (((min j m : Nat) : Int)).toNat % 2 = ((spread m (uns v') / 2 ^ j % 2 : Nat) : Int) := by
        rw [spread_bit m _ j hm63 (by omega), ← uns_cast]; simp
      rw [e3]
      have hlt := spread_lt m (uns v') hm63
      have e4 : spread m (uns v') / 2 ^ (((j : Int) + 1).toNat) = spread m (uns v') / 2 ^ j / 2 := by
        rw [show ((j : Int) + 1).toNat = j + 1 by omega, Nat.pow_succ, Nat.div_div_eq_div_mul]
      rw [e4] at hacc
      generalize hq : spread m (uns v') / 2 ^ j = q at hacc ⊢
      have hq2 : q < 2 ^ 64 := by rw [← hq]; exact Nat.lt_of_le_of_lt (Nat.div_le_self _ _) hlt
      have e5 : addI .u64 (mulI .u64 2 acc) (wrapI .u64 ((q % 2 : Nat) : Int)) = (q : Int) := by
        unfold addI mulI wrapI
        rw [hacc, wrapU_id (n := 2 * ((q / 2 : Nat) : Int)) (by omega) (by omega), wrapU_id (n := ((q % 2 : Nat) : Int)) (by omega) (by omega), wrapU_id (by omega) (by omega)]
        omega
      rw [e5, sub_id (by unfold I64; omega)]
      refine hrec _ ⟨rfl, rfl, by dsimp only; omega, by dsimp only; omega, ?_⟩ (by dsimp only; omega)
      dsimp only
      rw [show ((j : Int) - 1 + 1).toNat = j by omega, hq]
    · rw [br_neg (le_f hi)]
      have : i = -1 := by omega
      subst this
      rw [hacc]
      have : spread m (uns v') / 2 ^ ((-1 : Int) + 1).toNat = spread m (uns v') := by simp
      rw [this]
      show some (IntKind.wrap .i64 _, ()) = _
      rw [spread_sx m v' hm63]
  · have hlt := spread_lt m (uns v) hm63
    show (0 : Int) = ((spread m (uns v) / 2 ^ ((63 : Int) + 1).toNat : Nat) : Int)
    rw [show ((63 : Int) + 1).toNat = 64 from rfl, Nat.div_eq_of_lt hlt]; rfl
/-- The program's sign. -/
theorem sign_eq (v n : Int) (h0 : 1 ≤ n) (h1 : n ≤ 8) : S_impl_sign ((v, (n, ())), ()) = some (sx (8 * n - 1).toNat v, ()) := by
  unfold S_impl_sign
  dsimp only
  have e : subI .i64 64 (mulI .i64 8 n) = 64 - 8 * n := by rw [mul_id (by unfold I64; omega), sub_id (by unfold I64; omega)]
  rw [e, br_pos (le_t (by omega)), br_pos (le_t (by omega))]
  congr 2
  obtain ⟨m, hm⟩ : ∃ m : Nat, 8 * n - 1 = m := ⟨(8 * n - 1).toNat, by omega⟩
  have hn : 64 - 8 * n = ((63 - m : Nat) : Int) := by omega
  rw [hm, hn]
  have hm63 : m ≤ 63 := by omega
  simp only [Int.toNat_natCast]
  unfold ishr ishl
  rw [show min (((63 - m : Nat) : Int)).toNat IntKind.i64.bits = 63 - m by simp [IntKind.bits]; omega]
  have hp : (0 : Int) < 2 ^ (63 - m) := Int.pow_pos (by decide)
  rw [Int.fdiv_eq_ediv_of_nonneg _ (Int.le_of_lt hp)]
  have h64 : (2 : Int) ^ (m + 1) * 2 ^ (63 - m) = 2 ^ 64 := by rw [← Int.pow_add]; congr 1; omega
  have h63 : (2 : Int) ^ m * 2 ^ (63 - m) = 2 ^ 63 := by rw [← Int.pow_add]; congr 1; omega
  have hr := Int.emod_nonneg v (show (2 : Int) ^ (m + 1) ≠ 0 from Int.ne_of_gt (Int.pow_pos (by decide)))
  have hr2 := Int.emod_lt_of_pos v (show (0 : Int) < 2 ^ (m + 1) from Int.pow_pos (by decide))
  -- the sign
  have hsv : v % 2 ^ 64 / 2 ^ m % 2 = v % 2 ^ (m + 1) / 2 ^ m := by
    have h1 : v % 2 ^ (m + 1) = v % 2 ^ 64 % 2 ^ (m + 1) := by
      rw [Int.emod_emod_of_dvd]
      exact ⟨2 ^ (63 - m), h64.symm⟩
    rw [h1, Int.pow_succ 2 m]
    have hu := uns_cast v
    rw [← hu]
    have : ((2 : Int) ^ m) = ((2 ^ m : Nat) : Int) := by simp
    rw [this]
    have h2 : ((2 ^ m : Nat) : Int) * 2 = ((2 ^ m * 2 : Nat) : Int) := by simp
    rw [h2]
    rw [← Int.natCast_ediv, ← Int.natCast_emod, ← Int.natCast_ediv, Nat.mod_mul_right_div_self]
    simp
  have hdm : v = v % 2 ^ (m + 1) + 2 ^ (m + 1) * (v / 2 ^ (m + 1)) := (Int.emod_add_mul_ediv ..).symm
  have hmul : v * 2 ^ (63 - m) % 2 ^ 64 = v % 2 ^ (m + 1) * 2 ^ (63 - m) := by
    rw [← h64, Int.mul_comm v, Int.mul_comm (2 ^ (m + 1)), Int.mul_emod_mul_of_pos _ _ hp, Int.mul_comm]
  unfold sx
  rw [hsv]
  generalize v % 2 ^ (m + 1) = r at *
  have hpm : (0 : Int) < 2 ^ m := Int.pow_pos (by decide)
  have hdbl : (2 : Int) ^ (m + 1) = 2 ^ m * 2 := Int.pow_succ 2 m
  simp only [IntKind.wrap, IntKind.bits, IntKind.signed, Bool.true_and, decide_eq_true_eq, ge_iff_le]
  rw [show ((64 : Nat) - 1) = 63 from rfl, hmul]
  by_cases hs : (2 : Int) ^ m ≤ r
  · have hq : r / 2 ^ m = 1 := by
      rw [Int.ediv_eq_iff_of_pos hpm]
      omega
    rw [hq, if_pos rfl]
    have hge : (2 : Int) ^ 63 ≤ r * 2 ^ (63 - m) := by rw [← h63]; exact Int.mul_le_mul_of_nonneg_right hs (Int.le_of_lt hp)
    rw [if_pos hge, ← h64, ← Int.sub_mul, Int.mul_ediv_cancel _ (Int.ne_of_gt hp)]
  · have hq : r / 2 ^ m = 0 := Int.ediv_eq_zero_of_lt hr (by omega)
    rw [hq]
    have hge : ¬ (2 : Int) ^ 63 ≤ r * 2 ^ (63 - m) := by
      rw [← h63, Int.not_le]
      exact Int.mul_lt_mul_of_pos_right (by omega) hp
    rw [if_neg hge, if_neg (by decide), Int.mul_ediv_cancel _ (Int.ne_of_gt hp)]
def fitsB (v n : Int) : Bool := eqI (sx (8 * n - 1).toNat v) v
end Go.Den.G
namespace Go.Den.G
open Go.Den
set_option maxRecDepth 100000

/-! ### kinds by letters -/
def chars : List UInt8 := [114, 109, 105, 48]
def kindP (k : Int) (c : UInt8) : Prop := k = 1 ∧ c = 114 ∨ k = 2 ∧ c = 109 ∨ k = 3 ∧ c = 105 ∨ k = 0 ∧ c = 48
instance (k : Int) (c : UInt8) : Decidable (kindP k c) := by unfold kindP; infer_instance
def pairB (kd ks : Int) (q : List UInt8) : Bool := match q with
  | [a, b] => decide (kindP kd a) && decide (kindP ks b)
  | _ => false
def okPairs (ps : List (List UInt8)) : Prop := ∀ q ∈ ps, ∃ a ∈ chars, ∃ b ∈ chars, q = [a, b]
end Go.Den.G
namespace Go.Den.G
open Go.Den
set_option maxRecDepth 100000

/-! ### the forms of an operation -/
def fz (n : Nat) : List Int × List UInt8 := match S_impl_formsOf (((n : Int), ()), ()) with
  | some x => (x.1.1, x.1.2.1)
  | none => ([], [])
/-- Which sizes: all of them, no byte, eight, one, none. -/
def szK (n : Nat) : Nat := if n ≤ 16 ∨ n = 18 ∨ n = 19 ∨ (20 ≤ n ∧ n ≤ 24) ∨ n = 28 then 0 else if n = 17 ∨ n = 25 ∨ n = 26 ∨ n = 27 ∨ n = 36 ∨ n = 39 ∨ n = 40 then 1 else if 29 ≤ n ∧ n ≤ 32 then 2 else if n = 35 ∨ n = 41 ∨ n = 42 then 3 else 4
def szL (k : Nat) : List Int := if k = 0 then [1, 2, 4, 8] else if k = 1 then [2, 4, 8] else if k = 2 then [8] else if k = 3 then [1] else [0]
/-- Which kinds of operands go together. -/
def prK (n : Nat) : List (List UInt8) :=
  if n ≤ 9 then [[114, 114], [109, 114], [114, 109], [114, 105], [109, 105]]
  else if n = 10 ∨ (20 ≤ n ∧ n ≤ 24) then [[114, 114], [109, 114], [114, 105], [109, 105]]
  else if n = 28 then [[114, 114], [109, 114]]
  else if n = 11 ∨ n = 12 ∨ n = 18 ∨ n = 19 ∨ n = 30 ∨ n = 35 then [[114, 48], [109, 48]]
  else if 13 ≤ n ∧ n ≤ 16 then [[48, 114], [48, 109]]
  else if n = 17 ∨ n = 36 ∨ n = 26 ∨ n = 27 then [[114, 114], [114, 109]]
  else if n = 25 then [[114, 109]]
  else if n = 29 ∨ n = 31 ∨ n = 32 then [[48, 114], [48, 109], [48, 105]]
  else if n = 33 ∨ n = 44 then [[48, 105]]
  else [[48, 48]]
theorem prK_ok : ∀ n, n < 45 → okPairs (prK n) := by
  intro n _
  unfold prK
  repeat' split
  all_goals
    intro q hq
    simp only [List.mem_cons, List.not_mem_nil, or_false] at hq
    rcases hq with rfl | rfl | rfl | rfl | rfl <;> exact ⟨_, by decide, _, by decide, rfl⟩
end Go.Den.G
namespace Go.Den.G
open Go.Den
set_option maxRecDepth 100000

/-! ### an operand beside its size -/
def regX (r z : Int) : Prop := 0 ≤ r ∧ r ≤ 15 ∨ z = 1 ∧ 16 ≤ r ∧ r ≤ 19
def opB (k r b i s d m z : Int) : Prop :=
  k = 1 ∧ b = 0 ∧ i = 0 ∧ s = 0 ∧ d = 0 ∧ m = 0 ∧ regX r z ∨ memP k r b i s d m ∨ k = 3 ∧ r = 0 ∧ b = 0 ∧ i = 0 ∧ s = 0 ∧ d = 0 ∨ k = 0 ∧ r = 0 ∧ b = 0 ∧ i = 0 ∧ s = 0 ∧ d = 0 ∧ m = 0
instance (r z : Int) : Decidable (regX r z) := by unfold regX; infer_instance
instance (k r b i s d m z : Int) : Decidable (opB k r b i s d m z) := by unfold opB; infer_instance
theorem opOK_iff {k r b i s d m z : Int} : opOK k r b i s d m z ↔ sizeP z ∧ opB k r b i s d m z := by
  unfold opOK opB
  constructor
  · rintro ⟨h, g⟩
    exact ⟨h, g.imp (fun ⟨a1, a2, a3, a4, a5, a6, a7⟩ => ⟨a1, a2, a3, a4, a5, a6, (regP_iff h).2 a7⟩) id⟩
  · rintro ⟨h, g⟩
    exact ⟨h, g.imp (fun ⟨a1, a2, a3, a4, a5, a6, a7⟩ => ⟨a1, a2, a3, a4, a5, a6, (regP_iff h).1 a7⟩) id⟩
end Go.Den.G
namespace Go.Den.G
open Go.Den
set_option maxRecDepth 100000
set_option maxHeartbeats 1000000
set_option linter.unusedSimpArgs false

/-! ### what the reference asks of kinds, sizes and numbers -/
theorem br_t {α : Type} {x y : α} : br true x y = x := rfl
def fitB (v z : Int) : Bool := fitsB v (imin z 4)
section
variable (x : Ins)
theorem insT_tIns : insT (tIns x ()) = x := rfl
theorem tI1 : (tIns x ()).1 = x.op := rfl
theorem tI2 : (tIns x ()).2.1 = x.size := rfl
theorem tI11 : p11 (tIns x ()) = x.src.kind := rfl
end
def numB (x : Ins) (n : Nat) : Bool :=
  if n ≤ 8 ∨ n = 10 then fitB x.src.imm x.size
  else if n = 9 then decide (x.size = 8 ∧ x.dst.kind = 1) || fitB x.src.imm x.size
  else if 20 ≤ n ∧ n ≤ 24 then decide (¬ (x.src.kind = 1 ∧ x.src.reg ≠ 1) ∧ 0 ≤ x.src.imm ∧ x.src.imm ≤ 255)
  else if n = 26 then decide (x.frm = 1 ∨ x.frm = 2 ∧ 2 < x.size)
  else if n = 27 then decide (x.frm = 1 ∨ x.frm = 2 ∧ 2 < x.size ∨ x.frm = 4 ∧ x.size = 8)
  else if n = 29 ∨ n = 31 ∨ n = 32 ∨ n = 33 then fitB x.src.imm 4
  else if n = 44 then decide (0 ≤ x.src.imm ∧ x.src.imm ≤ 255)
  else true
def shB (x : Ins) (n : Nat) : Bool := decide (x.size ∈ szL (szK n)) && ((prK n).any (pairB x.dst.kind x.src.kind) && numB x n)
end Go.Den.G
namespace Go.Den.G
open Go.Den
set_option maxRecDepth 100000

/-! ### which instructions there are: the reference -/
def rexP (k r b i z : Int) : Prop := k = 1 ∧ (8 ≤ r ∧ r ≤ 15 ∨ z = 1 ∧ 4 ≤ r ∧ r ≤ 7) ∨ k = 2 ∧ (8 ≤ b ∧ b ≤ 15 ∨ 8 ≤ i)
instance (k r b i z : Int) : Decidable (rexP k r b i z) := by unfold rexP; infer_instance
def noP (k r : Int) : Prop := k = 1 ∧ 16 ≤ r
instance (k r : Int) : Decidable (noP k r) := by unfold noP; infer_instance
def sSz (x : Ins) (n : Nat) : Int := if 20 ≤ n ∧ n ≤ 24 then 8 else if 0 < x.frm then x.frm else x.size
def opBo (o : Opd) (z : Int) : Prop := opB o.kind o.reg o.base o.index o.scale o.disp o.imm z
def rexPo (o : Opd) (z : Int) : Prop := rexP o.kind o.reg o.base o.index z
def noPo (o : Opd) : Prop := noP o.kind o.reg
instance (o : Opd) (z : Int) : Decidable (opBo o z) := by unfold opBo; infer_instance
instance (o : Opd) (z : Int) : Decidable (rexPo o z) := by unfold rexPo; infer_instance
instance (o : Opd) : Decidable (noPo o) := by unfold noPo; infer_instance
def insP (x : Ins) (n : Nat) : Prop :=
  0 ≤ x.len ∧ x.len ≤ 15 ∧ shB x n = true ∧ ((n = 26 ∨ n = 27) ∨ x.frm = 0) ∧ ((n = 33 ∨ n = 35 ∨ n = 36) ∨ x.cond = 0) ∧ 0 ≤ x.cond ∧ x.cond ≤ 15 ∧ opBo x.dst x.size ∧ opBo x.src (sSz x n) ∧
  (¬ (noPo x.dst ∨ noPo x.src) ∨ ¬ rexPo x.dst x.size ∧ ¬ rexPo x.src (sSz x n) ∧ (x.size ≠ 8 ∨ 29 ≤ n ∧ n ≤ 32))
instance (x : Ins) (n : Nat) : Decidable (insP x n) := by unfold insP; infer_instance
end Go.Den.G
namespace Go.Den.G
open Go.Den
set_option maxRecDepth 100000

/-! ### which instructions there are: the program's parts -/
def kc (k : Int) : Nat := if k = 1 then 1 else if k = 2 then 2 else if k = 3 then 3 else 0
theorem kc_eq {k : Int} (h : 0 ≤ k ∧ k ≤ 3) : (kc k : Int) = k := by unfold kc; (repeat' split) <;> omega
def fromB (x : Ins) (n : Nat) : Prop := if n = 26 then x.frm = 1 ∨ x.frm = 2 ∧ 2 < x.size else if n = 27 then x.frm = 1 ∨ x.frm = 2 ∧ 2 < x.size ∨ x.frm = 4 ∧ x.size = 8 else x.frm = 0
instance (x : Ins) (n : Nat) : Decidable (fromB x n) := by unfold fromB; infer_instance
theorem isShift_eq (n : Int) : S_impl_isShift ((n, ()), ()) = some (decide (20 ≤ n ∧ n ≤ 24), ()) := by
  unfold S_impl_isShift
  dsimp only
  rw [within_dec, bnd_s]
def iSz (x : Ins) (n : Nat) : Int := if x.frm ≠ 0 then x.frm else if (20 ≤ n ∧ n ≤ 24) ∨ x.size = 0 then 8 else x.size
theorem srcSize_eq (x : Ins) {n : Nat} (h : x.op = n) : S_impl_srcSize ((x, ()), ()) = some (iSz x n, ()) := by
  unfold S_impl_srcSize iSz
  dsimp only
  rw [h, isShift_eq]
  by_cases hf : x.frm = 0
  · rw [eq_t hf, notB_t, br_neg rfl, bnd_s, if_neg (by simp [hf])]
    dsimp only
    rw [br_or, bnd_s]
    by_cases hc : (20 ≤ n ∧ n ≤ 24) ∨ x.size = 0
    · rw [if_pos hc, br_pos (by simp only [Bool.or_eq_true, decide_eq_true_eq, eq_iff]; omega)]
    · rw [if_neg hc, br_neg (by simp only [Bool.or_eq_false_iff, decide_eq_false_iff_not, eq_nf]; omega)]
  · rw [eq_f hf, notB_f, br_pos rfl, if_pos hf]
def hiP (o : Opd) : Prop := o.kind = 1 ∧ 16 ≤ o.reg ∧ o.reg ≤ 19
instance (o : Opd) : Decidable (hiP o) := by unfold hiP; infer_instance
def askP (o : Opd) (z : Int) : Prop := o.kind = 1 ∧ (8 ≤ o.reg ∧ o.reg ≤ 15 ∨ z = 1 ∧ 4 ≤ o.reg ∧ o.reg ≤ 7) ∨ o.kind = 2 ∧ (8 ≤ o.base ∧ o.base ≤ 15 ∨ 8 ≤ o.index ∧ o.index ≤ 15)
instance (o : Opd) (z : Int) : Decidable (askP o z) := by unfold askP; infer_instance
def fixP (n : Nat) : Prop := (29 ≤ n ∧ n ≤ 34) ∨ n = 37 ∨ n = 38 ∨ n = 43 ∨ n = 44
instance (n : Nat) : Decidable (fixP n) := by unfold fixP; infer_instance
end Go.Den.G
namespace Go.Den.G
open Go.Den
set_option maxRecDepth 100000

/-! ### numbers, and all of it -/
def numI (x : Ins) (n : Nat) : Bool :=
  if (20 ≤ n ∧ n ≤ 24) ∨ n = 44 then decide (0 ≤ x.src.imm ∧ x.src.imm ≤ 255)
  else if n = 9 ∧ x.size = 8 ∧ x.dst.kind = 1 then true
  else if x.size = 0 then fitB x.src.imm 4 else fitB x.src.imm x.size
theorem cpD (x : Ins) : cp7 (tIns x ()).2.2.2.2 () = tOpd x.dst () := rfl
theorem cpS (x : Ins) : cp7 (d11 (tIns x ())) () = tOpd x.src () := rfl
/-- The program's conditions, one by one. -/
def insI (x : Ins) (n : Nat) : Prop :=
  (0 ≤ x.len ∧ x.len ≤ 15) ∧ (0 ≤ x.cond ∧ x.cond ≤ 15) ∧ (x.cond = 0 ∨ n = 33 ∨ n = 35 ∨ n = 36) ∧ x.size ∈ szL (szK n) ∧ fromB x n ∧ (prK n).any (pairB (kc x.dst.kind) (kc x.src.kind)) = true ∧
  (sizeP (imax 1 x.size) ∧ opBo x.dst (imax 1 x.size)) ∧ (sizeP (iSz x n) ∧ opBo x.src (iSz x n)) ∧ (x.src.kind = 3 → numI x n = true) ∧ (20 ≤ n ∧ n ≤ 24 → x.src.kind = 1 → x.src.reg = 1) ∧
  (¬ (hiP x.dst ∨ hiP x.src) ∨ ¬ ((x.size = 8 ∧ ¬ fixP n) ∨ askP x.dst x.size ∨ askP x.src (iSz x n)))
instance (x : Ins) (n : Nat) : Decidable (insI x n) := by unfold insI; infer_instance
theorem szL_ge {n : Nat} {z : Int} (h : z ∈ szL (szK n)) : z = 0 ∨ z = 1 ∨ z = 2 ∨ z = 4 ∨ z = 8 := by
  unfold szL at h
  repeat' split at h
  all_goals (simp only [List.mem_cons, List.not_mem_nil, or_false] at h; omega)
end Go.Den.G
namespace Go.Den.G
open Go.Den
set_option maxRecDepth 100000

/-! ### both sides are one -/
theorem opB_z {k r b i s d m z z' : Int} (h : k ≠ 1) : opB k r b i s d m z ↔ opB k r b i s d m z' := by
  unfold opB
  constructor <;> (rintro (g | g); exact absurd g.1 h; exact .inr g)
theorem opB_kind {k r b i s d m z : Int} (h : opB k r b i s d m z) : 0 ≤ k ∧ k ≤ 3 := by
  unfold opB memP at h
  rcases h with h | h | h | h <;> omega
theorem opB_imm {k r b i s d m z : Int} (h : opB k r b i s d m z) (hk : k ≠ 3) : m = 0 := by
  unfold opB memP at h
  rcases h with h | h | h | h <;> omega
theorem fitB_zero (z : Int) : fitB 0 z = true := by unfold fitB fitsB sx; simp [eqI]
theorem none_closed0 : ∀ n : Nat, n < 45 → (!((szL (szK n)).any fun z => decide (z = 0)) || decide (n = 0) || decide (prK n = [[48, 105]]) || decide (prK n = [[48, 48]])) = true := by decide +kernel
theorem none_closed (n : Nat) (h : n < 45) (h1 : 1 ≤ n) (hz : (0 : Int) ∈ szL (szK n)) : prK n = [[48, 105]] ∨ prK n = [[48, 48]] := by
  have := none_closed0 n h
  have e : ((szL (szK n)).any fun z => decide (z = 0)) = true := List.any_eq_true.2 ⟨0, hz, rfl⟩
  rw [e] at this
  simp only [Bool.not_true, Bool.false_or, Bool.or_eq_true, decide_eq_true_eq] at this
  rcases this with (h | h) | h
  · omega
  · exact .inl h
  · exact .inr h
theorem kindP48 {k : Int} (h : kindP k 48) : k = 0 := by
  unfold kindP at h
  rcases h with h | h | h | h
  · exact absurd h.2 (by decide)
  · exact absurd h.2 (by decide)
  · exact absurd h.2 (by decide)
  · exact h.1
theorem kindP105 {k : Int} (h : kindP k 105) : k = 3 := by
  unfold kindP at h
  rcases h with h | h | h | h
  · exact absurd h.2 (by decide)
  · exact absurd h.2 (by decide)
  · exact h.1
  · exact absurd h.2 (by decide)
theorem zero_kinds {n : Nat} (h2 : n < 45) (h1 : 1 ≤ n) {k l : Int} (hs : (0 : Int) ∈ szL (szK n)) (ha : (prK n).any (pairB k l) = true) : k = 0 ∧ (l = 0 ∨ l = 3) := by
  rcases none_closed n h2 h1 hs with e | e <;> rw [e] at ha <;> simp only [List.any_cons, List.any_nil, Bool.or_false, pairB, Bool.and_eq_true, decide_eq_true_eq] at ha
  · exact ⟨kindP48 ha.1, .inr (kindP105 ha.2)⟩
  · exact ⟨kindP48 ha.1, .inl (kindP48 ha.2)⟩
theorem size_closed0 : ∀ n : Nat, n < 45 → ((szL (szK n)).all fun z => decide (1 ≤ n → (n ≤ 10 → z ≠ 0) ∧ (20 ≤ n ∧ n ≤ 24 → z ≠ 0) ∧ ((n = 33 ∨ n = 34 ∨ n = 37 ∨ n = 38 ∨ n = 43 ∨ n = 44) → z = 0) ∧ (n = 26 ∨ n = 27 → z ≠ 0) ∧ (29 ≤ n ∧ n ≤ 32 → z = 8))) = true := by decide +kernel
theorem size_closed (n : Nat) (h : n < 45) (h1 : 1 ≤ n) (z : Int) (hz : z ∈ szL (szK n)) : (n ≤ 10 → z ≠ 0) ∧ (20 ≤ n ∧ n ≤ 24 → z ≠ 0) ∧ ((n = 33 ∨ n = 34 ∨ n = 37 ∨ n = 38 ∨ n = 43 ∨ n = 44) → z = 0) ∧ (n = 26 ∨ n = 27 → z ≠ 0) ∧ (29 ≤ n ∧ n ≤ 32 → z = 8) :=
  of_decide_eq_true (List.all_eq_true.1 (size_closed0 n h) z hz) h1
theorem no_imm0 : ∀ n : Nat, n < 45 → (decide (n ≤ 10) || decide (20 ≤ n ∧ n ≤ 24) || decide (n = 29 ∨ n = 31 ∨ n = 32 ∨ n = 33 ∨ n = 44) || (prK n).all fun q => !decide (q.getD 1 0 = 105)) = true := by decide +kernel
theorem no_imm {n : Nat} (h : n < 45) (hn : ¬ (n ≤ 10 ∨ (20 ≤ n ∧ n ≤ 24) ∨ n = 29 ∨ n = 31 ∨ n = 32 ∨ n = 33 ∨ n = 44)) {k l : Int} (ha : (prK n).any (pairB k l) = true) : l ≠ 3 := by
  have h0 := no_imm0 n h
  simp only [Bool.or_eq_true, decide_eq_true_eq] at h0
  have h1 : ((prK n).all fun q => !decide (q.getD 1 0 = 105)) = true := by
    rcases h0 with ((h | h) | h) | h
    · exact absurd (.inl h) hn
    · exact absurd (.inr (.inl h)) hn
    · exact absurd (.inr (.inr h)) hn
    · exact h
  obtain ⟨q, hq, hp⟩ := List.any_eq_true.1 ha
  have h2 := List.all_eq_true.1 h1 q hq
  obtain ⟨a, _, b, _, rfl⟩ := prK_ok n h q hq
  simp only [pairB, Bool.and_eq_true, decide_eq_true_eq] at hp
  have hb : b ≠ 105 := by simpa using h2
  have := hp.2
  unfold kindP at this
  rcases this with g | g | g | g
  · omega
  · omega
  · exact absurd g.2 hb
  · omega
/-- What both have in common. -/
structure Com (x : Ins) (n : Nat) : Prop where
  sz : x.size ∈ szL (szK n)
  any : (prK n).any (pairB x.dst.kind x.src.kind) = true
  frm : fromB x n
variable {x : Ins} {n : Nat}
theorem Com.dst (h : Com x n) (h1 : 1 ≤ n) (h2 : n < 45) : (sizeP (imax 1 x.size) ∧ opBo x.dst (imax 1 x.size)) ↔ opBo x.dst x.size := by
  have hs := szL_ge h.sz
  by_cases h0 : x.size = 0
  · have hk := zero_kinds h2 h1 (h0 ▸ h.sz) h.any
    have e : imax 1 x.size = 1 := by rw [h0]; rfl
    rw [e]
    have : opBo x.dst 1 ↔ opBo x.dst x.size := opB_z (by omega)
    rw [this]
    exact ⟨fun g => g.2, fun g => ⟨.inl rfl, g⟩⟩
  · have e : imax 1 x.size = x.size := imax_r (by omega)
    rw [e]
    exact ⟨fun g => g.2, fun g => ⟨by unfold sizeP; omega, g⟩⟩
theorem Com.sizes (h : Com x n) (h1 : 1 ≤ n) (h2 : n < 45) : (iSz x n = sSz x n ∧ sizeP (iSz x n)) ∨ (x.size = 0 ∧ x.src.kind ≠ 1 ∧ x.src.kind ≠ 2 ∧ sizeP (iSz x n)) := by
  have hs := szL_ge h.sz
  obtain ⟨_, c2, _, c4, _⟩ := size_closed n h2 h1 x.size h.sz
  have hf := h.frm
  unfold fromB at hf
  unfold iSz sSz sizeP
  by_cases hn : 20 ≤ n ∧ n ≤ 24
  · rw [if_neg (by omega), if_neg (by omega)] at hf
    left
    rw [if_neg (by omega), if_pos (.inl hn), if_pos hn]
    omega
  · by_cases hm : n = 26 ∨ n = 27
    · have hfr : x.frm = 1 ∨ x.frm = 2 ∨ x.frm = 4 := by
        rcases hm with hm | hm
        · rw [if_pos hm] at hf; omega
        · rw [if_neg (by omega), if_pos hm] at hf; omega
      left
      rw [if_pos (by omega), if_neg hn, if_pos (by omega)]
      omega
    · rw [if_neg (by omega), if_neg (by omega)] at hf
      by_cases h0 : x.size = 0
      · right
        have hk := zero_kinds h2 h1 (h0 ▸ h.sz) h.any
        rw [if_neg (by omega), if_pos (.inr h0)]
        omega
      · left
        rw [if_neg (by omega), if_neg (by omega), if_neg hn, if_neg (by omega)]
        omega
theorem Com.src (h : Com x n) (h1 : 1 ≤ n) (h2 : n < 45) : (sizeP (iSz x n) ∧ opBo x.src (iSz x n)) ↔ opBo x.src (sSz x n) := by
  rcases h.sizes h1 h2 with ⟨e, hz⟩ | ⟨h0, hk, _, hz⟩
  · rw [e] at hz ⊢
    exact ⟨fun g => g.2, fun g => ⟨hz, g⟩⟩
  · have : opBo x.src (iSz x n) ↔ opBo x.src (sSz x n) := opB_z hk
    rw [this]
    exact ⟨fun g => g.2, fun g => ⟨hz, g⟩⟩
theorem hi_no {o : Opd} {z : Int} (h : opBo o z) : hiP o ↔ noPo o := by
  unfold opBo opB regX at h
  unfold hiP noPo noP
  constructor
  · intro g; exact ⟨g.1, g.2.1⟩
  · intro g
    rcases h with h | h | h | h
    · exact ⟨g.1, g.2, by omega⟩
    · unfold memP at h; omega
    · omega
    · omega
theorem ask_rex {o : Opd} {z y : Int} (h : opBo o z) (hy : y = z ∨ o.kind ≠ 1) : askP o y ↔ rexPo o z := by
  unfold opBo opB regX memP at h
  unfold askP rexPo rexP
  rcases h with h | h | h | h <;> omega
theorem Com.rex (h : Com x n) (h1 : 1 ≤ n) (h2 : n < 45) (hd : opBo x.dst x.size) (hs : opBo x.src (sSz x n)) :
    (¬ (hiP x.dst ∨ hiP x.src) ∨ ¬ ((x.size = 8 ∧ ¬ fixP n) ∨ askP x.dst x.size ∨ askP x.src (iSz x n))) ↔
    (¬ (noPo x.dst ∨ noPo x.src) ∨ ¬ rexPo x.dst x.size ∧ ¬ rexPo x.src (sSz x n) ∧ (x.size ≠ 8 ∨ 29 ≤ n ∧ n ≤ 32)) := by
  obtain ⟨_, _, c3, _, _⟩ := size_closed n h2 h1 x.size h.sz
  have e : iSz x n = sSz x n ∨ x.src.kind ≠ 1 := (h.sizes h1 h2).imp (·.1) (·.2.1)
  rw [hi_no hd, hi_no hs, ask_rex hd (.inl rfl), ask_rex hs e]
  have w : (x.size = 8 ∧ ¬ fixP n) ↔ ¬ (x.size ≠ 8 ∨ 29 ≤ n ∧ n ≤ 32) := by unfold fixP; omega
  rw [w]
  refine or_congr Iff.rfl ?_
  constructor
  · intro g
    exact ⟨fun a => g (.inr (.inl a)), fun a => g (.inr (.inr a)), Classical.byContradiction fun a => g (.inl a)⟩
  · rintro ⟨g1, g2, g3⟩ (a | a | a)
    · exact a g3
    · exact g1 a
    · exact g2 a
theorem Com.num (h : Com x n) (h1 : 1 ≤ n) (h2 : n < 45) (hs : opBo x.src (sSz x n)) : numB x n = true ↔ (x.src.kind = 3 → numI x n = true) ∧ (20 ≤ n ∧ n ≤ 24 → x.src.kind = 1 → x.src.reg = 1) := by
  obtain ⟨c1, c2, c3, c4, c5⟩ := size_closed n h2 h1 x.size h.sz
  have hi : x.src.kind ≠ 3 → x.src.imm = 0 := opB_imm hs
  have hf := h.frm
  unfold fromB at hf
  have f8 : fitB x.src.imm 8 = fitB x.src.imm 4 := rfl
  have f0 : x.src.kind ≠ 3 → ∀ z, fitB x.src.imm z = true := fun hk z => by rw [hi hk]; exact fitB_zero z
  unfold numB numI
  by_cases n1 : n ≤ 8 ∨ n = 10
  · rw [if_pos n1, if_neg (by omega), if_neg (by omega), if_neg (c1 (by omega))]
    constructor
    · intro g; exact ⟨fun _ => g, fun a => by omega⟩
    · intro g
      by_cases hk : x.src.kind = 3
      · exact g.1 hk
      · exact f0 hk _
  · rw [if_neg n1]
    by_cases n2 : n = 9
    · rw [if_pos n2, if_neg (by omega), if_neg (c1 (by omega)), Bool.or_eq_true, decide_eq_true_eq]
      constructor
      · intro g
        refine ⟨fun _ => ?_, fun a => by omega⟩
        split
        · rfl
        · rename_i hn
          exact g.resolve_left fun a => hn ⟨n2, a⟩
      · intro g
        by_cases hk : x.src.kind = 3
        · have := g.1 hk
          split at this
          · rename_i hn; exact .inl hn.2
          · exact .inr this
        · exact .inr (f0 hk _)
    · rw [if_neg n2]
      by_cases n3 : 20 ≤ n ∧ n ≤ 24
      · rw [if_pos n3, if_pos (.inl n3), decide_eq_true_eq, decide_eq_true_eq]
        constructor
        · intro g; exact ⟨fun _ => g.2, fun _ a => Classical.byContradiction fun b => g.1 ⟨a, b⟩⟩
        · intro g
          refine ⟨fun a => a.2 (g.2 n3 a.1), ?_⟩
          by_cases hk : x.src.kind = 3
          · exact g.1 hk
          · rw [hi hk]; decide
      · rw [if_neg n3]
        have none : (¬ (n = 29 ∨ n = 31 ∨ n = 32 ∨ n = 33 ∨ n = 44)) → x.src.kind ≠ 3 := fun hn => no_imm h2 (by omega) h.any
        by_cases n4 : n = 26
        · rw [if_pos n4] at hf
          rw [if_pos n4, decide_eq_true_eq]
          exact ⟨fun _ => ⟨fun a => absurd a (none (by omega)), fun a => absurd a n3⟩, fun _ => hf⟩
        · rw [if_neg n4] at hf ⊢
          by_cases n5 : n = 27
          · rw [if_pos n5] at hf
            rw [if_pos n5, decide_eq_true_eq]
            exact ⟨fun _ => ⟨fun a => absurd a (none (by omega)), fun a => absurd a n3⟩, fun _ => hf⟩
          · rw [if_neg n5]
            by_cases n6 : n = 29 ∨ n = 31 ∨ n = 32 ∨ n = 33
            · have e : (if (20 ≤ n ∧ n ≤ 24) ∨ n = 44 then decide (0 ≤ x.src.imm ∧ x.src.imm ≤ 255) else if n = 9 ∧ x.size = 8 ∧ x.dst.kind = 1 then true else if x.size = 0 then fitB x.src.imm 4 else fitB x.src.imm x.size) = fitB x.src.imm 4 := by
                rw [if_neg (by omega), if_neg (by omega)]
                by_cases h0 : x.size = 0
                · rw [if_pos h0]
                · rw [if_neg h0]
                  have : x.size = 8 := by
                    rcases n6 with m | m | m | m
                    · exact c5 (by omega)
                    · exact c5 (by omega)
                    · exact c5 (by omega)
                    · exact absurd (c3 (.inl m)) h0
                  rw [this, f8]
              rw [if_pos n6, e]
              constructor
              · intro g; exact ⟨fun _ => g, fun a => absurd a n3⟩
              · intro g
                by_cases hk : x.src.kind = 3
                · exact g.1 hk
                · exact f0 hk _
            · rw [if_neg n6]
              by_cases n7 : n = 44
              · rw [if_pos n7, if_pos (.inr n7)]
                constructor
                · intro g; exact ⟨fun _ => g, fun a => absurd a n3⟩
                · intro g
                  by_cases hk : x.src.kind = 3
                  · exact g.1 hk
                  · rw [hi hk]; decide
              · rw [if_neg n7]
                exact ⟨fun _ => ⟨fun a => absurd a (none (by omega)), fun a => absurd a n3⟩, fun _ => rfl⟩
theorem ins_iff (h1 : 1 ≤ n) (h2 : n < 45) : insI x n ↔ insP x n := by
  have hkc : ∀ {o : Opd} {z : Int}, opBo o z → (kc o.kind : Int) = o.kind := fun g => kc_eq (opB_kind g)
  constructor
  · rintro ⟨⟨a1, a2⟩, ⟨a3, a4⟩, a5, a6, a7, a8, a9, a10, a11, a12, a13⟩
    rw [hkc a9.2, hkc a10.2] at a8
    have C : Com x n := ⟨a6, a8, a7⟩
    have d := (C.dst h1 h2).1 a9
    have e := (C.src h1 h2).1 a10
    have hn := (C.num h1 h2 e).2 ⟨a11, a12⟩
    refine ⟨a1, a2, by unfold shB; rw [decide_eq_true a6, a8, hn]; rfl, ?_, by omega, a3, a4, d, e, (C.rex h1 h2 d e).1 a13⟩
    unfold fromB at a7
    by_cases m : n = 26 ∨ n = 27
    · exact .inl m
    · rw [if_neg (by omega), if_neg (by omega)] at a7; exact .inr a7
  · rintro ⟨a1, a2, a3, a4, a5, a6, a7, a8, a9, a10⟩
    unfold shB at a3
    simp only [Bool.and_eq_true, decide_eq_true_eq] at a3
    obtain ⟨b1, b2, b3⟩ := a3
    have fr : fromB x n := by
      unfold fromB
      unfold numB at b3
      by_cases m : n = 26
      · rw [if_neg (by omega), if_neg (by omega), if_neg (by omega), if_pos m, decide_eq_true_eq] at b3
        rw [if_pos m]; exact b3
      · by_cases m2 : n = 27
        · rw [if_neg (by omega), if_neg (by omega), if_neg (by omega), if_neg m, if_pos m2, decide_eq_true_eq] at b3
          rw [if_neg m, if_pos m2]; exact b3
        · rw [if_neg m, if_neg m2]
          exact a4.resolve_left (by omega)
    have C : Com x n := ⟨b1, b2, fr⟩
    have q := (C.num h1 h2 a9).1 b3
    exact ⟨⟨a1, a2⟩, ⟨a6, a7⟩, by omega, b1, fr, by rw [hkc a8, hkc a9]; exact b2, (C.dst h1 h2).2 a8, (C.src h1 h2).2 a9, q.1, q.2, (C.rex h1 h2 a8 a9).2 a10⟩
end Go.Den.G
namespace Go.Den.G
open Go.Den
set_option maxRecDepth 100000

/-! ### the text of an instruction -/
theorem cond_closed : ∀ c : Nat, c < 16 → S_impl_CondName (((c : Int), ()), ()) = S_spec_CondName (((c : Int), ()), ()) ∧ (match S_impl_CondName (((c : Int), ()), ()) with | some y => decide (y.1.length ≤ 10) | none => false) = true := by decide +kernel
theorem op_closed : ∀ n : Nat, n < 45 → S_impl_OpName (((n : Int), ()), ()) = S_spec_OpName (((n : Int), ()), ()) ∧ (match S_impl_OpName (((n : Int), ()), ()) with | some y => decide (y.1.length ≤ 10) | none => false) = true := by decide +kernel
theorem cond_ex {c : Int} (h0 : 0 ≤ c) (h1 : c ≤ 15) : ∃ t : List UInt8, t.length ≤ 10 ∧ S_impl_CondName ((c, ()), ()) = some (t, ()) ∧ S_spec_CondName ((c, ()), ()) = some (t, ()) := by
  obtain ⟨k, rfl⟩ := Int.eq_ofNat_of_zero_le h0
  obtain ⟨e, hl⟩ := cond_closed k (by omega)
  split at hl
  · rename_i y hy
    exact ⟨y.1, of_decide_eq_true hl, hy, e ▸ hy⟩
  · cases hl
theorem op_ex {n : Nat} (h : n < 45) : ∃ t : List UInt8, t.length ≤ 10 ∧ S_impl_OpName (((n : Int), ()), ()) = some (t, ()) ∧ S_spec_OpName (((n : Int), ()), ()) = some (t, ()) := by
  obtain ⟨e, hl⟩ := op_closed n h
  split at hl
  · rename_i y hy
    exact ⟨y.1, of_decide_eq_true hl, hy, e ▸ hy⟩
  · cases hl
variable {x : Ins} {n : Nat}
def nameT (n : Nat) (c o : List UInt8) (z : Int) : List UInt8 := if n = 33 then appL [106] c else if n = 35 then appL [115, 101, 116] c else if n = 36 then appL [99, 109, 111, 118] c else if n = 39 ∨ n = 40 then appL (appL o [32]) (wordOf z) else o
theorem iname (h : x.op = n) {c o : List UInt8} (cl : c.length ≤ 10) (ol : o.length ≤ 10) (c1 : S_impl_CondName ((x.cond, ()), ()) = some (c, ())) (o1 : S_impl_OpName (((n : Int), ()), ()) = some (o, ())) (hz : n = 39 ∨ n = 40 → sizeP x.size) :
    S_impl_instrName ((x, ()), ()) = some (nameT n c o x.size, ()) := by
  have hw := wordOf_len x.size
  have g1 : fits2 ([106] : List UInt8) c = true := smallF (by simp) (by omega)
  have g2 : fits2 ([115, 101, 116] : List UInt8) c = true := smallF (by simp) (by omega)
  have g3 : fits2 ([99, 109, 111, 118] : List UInt8) c = true := smallF (by simp) (by omega)
  have g4 : fits2 o ([32] : List UInt8) = true := smallF (by omega) (by simp)
  have g5 : fits2 (appL o [32]) (wordOf x.size) = true := smallF (by simp [appL]; omega) (by omega)
  unfold S_impl_instrName nameT
  rw [h]
  by_cases n33 : n = 33
  · rw [br_pos (eq_t (by omega)), if_pos n33, c1, bnd_s, g1, br_t]
  · rw [br_neg (eq_f (by omega)), if_neg n33]
    by_cases n35 : n = 35
    · rw [br_pos (eq_t (by omega)), if_pos n35, c1, bnd_s, g2, br_t]
    · rw [br_neg (eq_f (by omega)), if_neg n35]
      by_cases n36 : n = 36
      · rw [br_pos (eq_t (by omega)), if_pos n36, c1, bnd_s, g3, br_t]
      · rw [br_neg (eq_f (by omega)), if_neg n36]
        by_cases n39 : n = 39 ∨ n = 40
        · rw [if_pos n39]
          refine (Ret.bnd (Q := fun y => y = Sum.inl ((true, ()), (tIns x (), ()))) ?_ ?_).eq
          · by_cases m : n = 39
            · rw [br_pos (eq_t (by omega)), eq_t (by omega)]; exact Ret.some rfl
            · rw [br_neg (eq_f (by omega)), eq_t (by omega)]; exact Ret.some rfl
          · rintro _ rfl
            rw [sumE_l]
            refine Ret.bnd (Q := fun y => y = Sum.inr (appL (appL o [32]) (wordOf x.size), ())) ?_ ?_
            · rw [br_t, tI1, h, o1, bnd_s, g4, br_t, tI2, sizeWord_eq (hz n39), bnd_s, g5, br_t]
              exact Ret.some rfl
            · rintro _ rfl
              rw [sumE_r]
              exact Ret.some rfl
        · rw [if_neg n39]
          refine (Ret.bnd (Q := fun y => y = Sum.inl ((false, ()), (tIns x (), ()))) ?_ ?_).eq
          · rw [br_neg (eq_f (by omega)), eq_f (by omega)]; exact Ret.some rfl
          · rintro _ rfl
            rw [sumE_l]
            refine Ret.bnd (Q := fun y => y = Sum.inl ((false, ()), (tIns x (), ()))) ?_ ?_
            · rw [br_f]; exact Ret.some rfl
            · rintro _ rfl
              rw [sumE_l, tI1, h, o1, bnd_s]
              exact Ret.some rfl
theorem sname (h : x.op = n) {c o : List UInt8} (cl : c.length ≤ 10) (ol : o.length ≤ 10) (c1 : S_spec_CondName ((x.cond, ()), ()) = some (c, ())) (o1 : S_spec_OpName (((n : Int), ()), ()) = some (o, ())) (hz : n = 39 ∨ n = 40 → sizeP x.size) :
    S_spec_l16Name ((x, ()), ()) = some (nameT n c o x.size, ()) := by
  have hw := wordOf_len x.size
  have g1 : fits2 ([106] : List UInt8) c = true := smallF (by simp) (by omega)
  have g2 : fits2 ([115, 101, 116] : List UInt8) c = true := smallF (by simp) (by omega)
  have g3 : fits2 ([99, 109, 111, 118] : List UInt8) c = true := smallF (by simp) (by omega)
  have g4 : fits2 o ([32] : List UInt8) = true := smallF (by omega) (by simp)
  have g5 : fits2 (appL o [32]) (wordOf x.size) = true := smallF (by simp [appL]; omega) (by omega)
  unfold S_spec_l16Name nameT
  rw [h]
  by_cases n33 : n = 33
  · rw [br_pos (eq_t (by omega)), if_pos n33, c1, bnd_s, g1, br_t]
  · rw [br_neg (eq_f (by omega)), if_neg n33]
    by_cases n35 : n = 35
    · rw [br_pos (eq_t (by omega)), if_pos n35, c1, bnd_s, g2, br_t]
    · rw [br_neg (eq_f (by omega)), if_neg n35]
      by_cases n36 : n = 36
      · rw [br_pos (eq_t (by omega)), if_pos n36, c1, bnd_s, g3, br_t]
      · rw [br_neg (eq_f (by omega)), if_neg n36]
        by_cases n39 : n = 39 ∨ n = 40
        · rw [if_pos n39]
          refine (Ret.bnd (Q := fun y => y = Sum.inl ((true, ()), (tIns x (), ()))) ?_ ?_).eq
          · by_cases m : n = 39
            · rw [br_pos (eq_t (by omega)), eq_t (by omega)]; exact Ret.some rfl
            · rw [br_neg (eq_f (by omega)), eq_t (by omega)]; exact Ret.some rfl
          · rintro _ rfl
            rw [sumE_l]
            refine Ret.bnd (Q := fun y => y = Sum.inr (appL (appL o [32]) (wordOf x.size), ())) ?_ ?_
            · rw [br_t, tI1, h, o1, bnd_s, g4, br_t, tI2, l16Size_eq (hz n39), bnd_s, g5, br_t]
              exact Ret.some rfl
            · rintro _ rfl
              rw [sumE_r]
              exact Ret.some rfl
        · rw [if_neg n39]
          refine (Ret.bnd (Q := fun y => y = Sum.inl ((false, ()), (tIns x (), ()))) ?_ ?_).eq
          · rw [br_neg (eq_f (by omega)), eq_f (by omega)]; exact Ret.some rfl
          · rintro _ rfl
            rw [sumE_l]
            refine Ret.bnd (Q := fun y => y = Sum.inl ((false, ()), (tIns x (), ()))) ?_ ?_
            · rw [br_f]; exact Ret.some rfl
            · rintro _ rfl
              rw [sumE_l, tI1, h, o1, bnd_s]
              exact Ret.some rfl
theorem name_ex (h2 : n < 45) (h : x.op = n) (hc : 0 ≤ x.cond ∧ x.cond ≤ 15) (hz : n = 39 ∨ n = 40 → sizeP x.size) :
    ∃ t : List UInt8, t.length ≤ 30 ∧ S_impl_instrName ((x, ()), ()) = some (t, ()) ∧ S_spec_l16Name ((x, ()), ()) = some (t, ()) := by
  obtain ⟨c, cl, c1, c2⟩ := cond_ex hc.1 hc.2
  obtain ⟨o, ol, o1, o2⟩ := op_ex h2
  refine ⟨nameT n c o x.size, ?_, iname h cl ol c1 o1 hz, sname h cl ol c2 o2 hz⟩
  have hw := wordOf_len x.size
  unfold nameT appL
  (repeat' split) <;> simp <;> omega
def oT (o : Opd) (z : Int) : List UInt8 := opTxt o.kind o.reg o.base o.index o.scale o.disp o.imm z
theorem opd_txt {o : Opd} {z : Int} (hm : I64 o.imm) (hz : sizeP z) (hb : opBo o z) : S_impl_operandText ((tOpd o (), (z, ())), ()) = some (oT o z, ()) ∧ S_spec_l16Operand ((tOpd o (), (z, ())), ()) = some (oT o z, ()) :=
  ⟨operandText_eq hm (opOK_iff.2 ⟨hz, hb⟩), l16Operand_eq hm (opOK_iff.2 ⟨hz, hb⟩)⟩
theorem opd_imm {o : Opd} {z z' : Int} (hm : I64 o.imm) (hk : o.kind = 3) : S_impl_operandText ((tOpd o (), (z, ())), ()) = some (Go.Lib.itoa o.imm, ()) ∧ S_spec_l16Operand ((tOpd o (), (z', ())), ()) = some (Go.Lib.itoa o.imm, ()) := by
  unfold S_impl_operandText S_spec_l16Operand
  dsimp only [tOpd, d6]
  rw [hk, br_neg (eq_f (by decide)), br_pos (eq_t rfl), br_neg (eq_f (by decide)), br_neg (eq_f (by decide)), br_pos (eq_t rfl), itoa_eq hm, l00Digits_eq hm]
  exact ⟨rfl, rfl⟩
theorem oT_len {o : Opd} {z : Int} (hm : I64 o.imm) (hz : sizeP z) (hb : opBo o z) : (oT o z).length ≤ 130 := by
  unfold oT opTxt
  split
  · have := (nameOf_len o.reg hz).1; omega
  · split
    · rename_i hk
      have hmem : memP o.kind o.reg o.base o.index o.scale o.disp o.imm := by
        unfold opBo opB at hb
        rcases hb with g | g | g | g
        · omega
        · exact g
        · omega
        · omega
      have hw := wordOf_len z
      have hj := (pieces_len (b := o.base) (i := o.index) (s := o.scale) (d := o.disp) (by unfold memP at hmem; unfold I64; omega) (by unfold memP at hmem; unfold I64; omega)).2
      unfold memTxt
      simp; omega
    · split
      · have := itoa_len hm; omega
      · simp
end Go.Den.G
namespace Go.Den.G
open Go.Den
set_option maxRecDepth 100000
variable {x : Ins} {n : Nat}
theorem insP_com (h1 : 1 ≤ n) (h2 : n < 45) (hP : insP x n) : Com x n := by
  have hI := (ins_iff h1 h2).2 hP
  have h3 := hP.2.2.1
  unfold shB at h3
  simp only [Bool.and_eq_true, decide_eq_true_eq] at h3
  exact ⟨h3.1, h3.2.1, hI.2.2.2.2.1⟩
def fSz (x : Ins) : Int := if 0 < x.frm then x.frm else x.size
theorem l05From_eq (x : Ins) : S_spec_l05From ((x, ()), ()) = some (fSz x, ()) := by
  unfold S_spec_l05From fSz
  dsimp only
  by_cases h : 0 < x.frm
  · rw [br_pos (lt_t h), if_pos h]
  · rw [br_neg (lt_f h), if_neg h]
def zI (x : Ins) (n : Nat) : Int := if 20 ≤ n ∧ n ≤ 24 then 1 else iSz x n
def zS (x : Ins) (n : Nat) : Int := if 20 ≤ n ∧ n ≤ 24 then 1 else fSz x
theorem src_ex (h1 : 1 ≤ n) (h2 : n < 45) (hP : insP x n) (hm : I64 x.src.imm) (hk : x.src.kind ≠ 0) :
    ∃ t : List UInt8, t.length ≤ 130 ∧ S_impl_operandText ((tOpd x.src (), (zI x n, ())), ()) = some (t, ()) ∧ S_spec_l16Operand ((tOpd x.src (), (zS x n, ())), ()) = some (t, ()) := by
  have C := insP_com h1 h2 hP
  have hb := hP.2.2.2.2.2.2.2.2.1
  by_cases k3 : x.src.kind = 3
  · obtain ⟨a, b⟩ := opd_imm (z := zI x n) (z' := zS x n) hm k3
    exact ⟨_, by have := itoa_len hm; omega, a, b⟩
  · have hkr := opB_kind hb
    rcases C.sizes h1 h2 with ⟨e, hz⟩ | ⟨_, g1, g2, _⟩
    · by_cases hn : 20 ≤ n ∧ n ≤ 24
      · have b1 : opBo x.src 1 := by
          unfold sSz at hb
          rw [if_pos hn] at hb
          unfold opBo opB regX at hb ⊢
          rcases hb with g | g | g | g
          · exact .inl ⟨g.1, g.2.1, g.2.2.1, g.2.2.2.1, g.2.2.2.2.1, g.2.2.2.2.2.1, by have := g.2.2.2.2.2.2; omega⟩
          · exact .inr (.inl g)
          · exact .inr (.inr (.inl g))
          · exact .inr (.inr (.inr g))
        unfold zI zS
        rw [if_pos hn, if_pos hn]
        obtain ⟨a, b⟩ := opd_txt hm (.inl rfl) b1
        exact ⟨_, oT_len hm (.inl rfl) b1, a, b⟩
      · have e2 : sSz x n = fSz x := by unfold sSz fSz; rw [if_neg hn]
        rw [← e] at hb
        unfold zI zS
        rw [if_neg hn, if_neg hn, ← e2, ← e]
        obtain ⟨a, b⟩ := opd_txt hm hz hb
        exact ⟨_, oT_len hm hz hb, a, b⟩
    · omega
theorem dst_ex (h1 : 1 ≤ n) (h2 : n < 45) (hP : insP x n) (hm : I64 x.dst.imm) (hk : x.dst.kind ≠ 0) :
    ∃ t : List UInt8, t.length ≤ 130 ∧ S_impl_operandText ((tOpd x.dst (), (x.size, ())), ()) = some (t, ()) ∧ S_spec_l16Operand ((tOpd x.dst (), (x.size, ())), ()) = some (t, ()) := by
  have C := insP_com h1 h2 hP
  have hb := hP.2.2.2.2.2.2.2.1
  have hs := szL_ge C.sz
  have h0 : x.size ≠ 0 := fun e => hk (zero_kinds h2 h1 (e ▸ C.sz) C.any).1
  have hz : sizeP x.size := by unfold sizeP; omega
  obtain ⟨a, b⟩ := opd_txt hm hz hb
  exact ⟨_, oT_len hm hz hb, a, b⟩
theorem text_ex (h1 : 1 ≤ n) (h2 : n < 45) (h : x.op = n) (hP : insP x n) (hmd : I64 x.dst.imm) (hms : I64 x.src.imm) :
    ∃ t : List UInt8, t.length ≤ 400 ∧ S_impl_instrText ((x, ()), ()) = some (t, ()) ∧ S_spec_l16Instr ((x, ()), ()) = some (t, ()) := by
  have C := insP_com h1 h2 hP
  have hs := szL_ge C.sz
  have hdk := opB_kind hP.2.2.2.2.2.2.2.1
  have hsk := opB_kind hP.2.2.2.2.2.2.2.2.1
  obtain ⟨t, tl, t1, t2⟩ := name_ex h2 h ⟨hP.2.2.2.2.2.1, hP.2.2.2.2.2.2.1⟩ (fun m => by
    have hsz := C.sz
    have e : szK n = 1 := by rcases m with rfl | rfl <;> rfl
    rw [e] at hsz
    have : x.size = 2 ∨ x.size = 4 ∨ x.size = 8 := by simpa [szL] using hsz
    unfold sizeP; omega)
  obtain ⟨D, Dl, hD⟩ : ∃ D : List UInt8, D.length ≤ 130 ∧ (x.dst.kind ≠ 0 → S_impl_operandText ((tOpd x.dst (), (x.size, ())), ()) = some (D, ()) ∧ S_spec_l16Operand ((tOpd x.dst (), (x.size, ())), ()) = some (D, ())) := by
    by_cases hk : x.dst.kind = 0
    · exact ⟨[], by simp, fun g => absurd hk g⟩
    · obtain ⟨D, Dl, e1, e2⟩ := dst_ex h1 h2 hP hmd hk
      exact ⟨D, Dl, fun _ => ⟨e1, e2⟩⟩
  obtain ⟨S, Sl, hS⟩ : ∃ S : List UInt8, S.length ≤ 130 ∧ (x.src.kind ≠ 0 → S_impl_operandText ((tOpd x.src (), (zI x n, ())), ()) = some (S, ()) ∧ S_spec_l16Operand ((tOpd x.src (), (zS x n, ())), ()) = some (S, ())) := by
    by_cases hk : x.src.kind = 0
    · exact ⟨[], by simp, fun g => absurd hk g⟩
    · obtain ⟨D, Dl, e1, e2⟩ := src_ex h1 h2 hP hms hk
      exact ⟨D, Dl, fun _ => ⟨e1, e2⟩⟩
  have f1 : fits2 ([32] : List UInt8) D = true := smallF (by simp) (by omega)
  have f2 : fits2 t (appL [32] D) = true := smallF (by omega) (by simp [appL]; omega)
  obtain ⟨T, hT⟩ : ∃ T : List UInt8, T = if x.dst.kind = 0 then t else appL t (appL [32] D) := ⟨_, rfl⟩
  have Tl : T.length ≤ 200 := by
    rw [hT]; split
    · omega
    · simp [appL]; omega
  obtain ⟨U, hU⟩ : ∃ U : List UInt8, U = if x.dst.kind = 0 then T else appL T [44] := ⟨_, rfl⟩
  have Ul : U.length ≤ 201 := by
    rw [hU]; split
    · omega
    · simp [appL]; omega
  have f3 : fits2 T ([44] : List UInt8) = true := smallF (by omega) (by simp)
  have f4 : fits2 U ([32] : List UInt8) = true := smallF (by omega) (by simp)
  have f5 : fits2 (appL U [32]) S = true := smallF (by simp [appL]; omega) (by omega)
  have f6 : fits2 ([32] : List UInt8) S = true := smallF (by simp) (by omega)
  have f7 : fits2 U (appL [32] S) = true := smallF (by omega) (by simp [appL]; omega)
  refine ⟨if x.src.kind = 0 then T else appL (appL U [32]) S, ?_, ?_, ?_⟩
  · split
    · omega
    · simp [appL]; omega
  · unfold S_impl_instrText
    rw [t1, bnd_s]
    refine (Ret.bnd (Q := fun y => y = Sum.inl ((T, ()), (tIns x (), ()))) ?_ ?_).eq
    · dsimp only
      by_cases hk : x.dst.kind = 0
      · rw [eq_t hk, notB_t, br_f]
        exact Ret.some (by rw [hT, if_pos hk])
      · rw [eq_f hk, notB_f, br_t, (hD hk).1, bnd_s]
        simp only [f1, f2, br_t]
        exact Ret.some (by rw [hT, if_neg hk])
    · rintro _ rfl
      rw [sumE_l, tI11]
      by_cases hk : x.src.kind = 0
      · rw [eq_t hk, br_t, if_pos hk]
        exact Ret.some rfl
      · rw [eq_f hk, br_f, if_neg hk]
        refine Ret.bnd (Q := fun y => y = Sum.inl ((U, ()), (tIns x (), ()))) ?_ ?_
        · show Ret (br (notB (eqI x.dst.kind 0)) _ _) _
          by_cases hd : x.dst.kind = 0
          · rw [eq_t hd, notB_t, br_f]
            exact Ret.some (by rw [hU, if_pos hd])
          · rw [eq_f hd, notB_f, br_t]
            dsimp only
            rw [f3, br_t]
            exact Ret.some (by rw [hU, if_neg hd])
        · rintro _ rfl
          rw [sumE_l, insT_tIns, srcSize_eq x h, bnd_s, tI1, h, isShift_eq, bnd_s]
          refine Ret.bnd (Q := fun y => y = Sum.inl ((U, (zI x n, ())), (tIns x (), ()))) ?_ ?_
          · unfold zI
            by_cases hn : 20 ≤ n ∧ n ≤ 24
            · rw [if_pos hn, decide_eq_true (by omega), br_t]; exact Ret.some rfl
            · rw [if_neg hn, decide_eq_false (by omega), br_f]; exact Ret.some rfl
          · rintro _ rfl
            rw [sumE_l, cpS, (hS hk).1]
            dsimp only
            rw [f4, br_t, bnd_s, f5, br_t]
            exact Ret.some rfl
  · unfold S_spec_l16Instr
    rw [t2, bnd_s, l05From_eq, bnd_s]
    dsimp only
    rw [l01In_within, h, within_dec, bnd_s]
    refine (Ret.bnd (Q := fun y => y = Sum.inl ((t, (zS x n, ())), (tIns x (), ()))) ?_ ?_).eq
    · unfold zS
      by_cases hn : 20 ≤ n ∧ n ≤ 24
      · rw [if_pos hn, decide_eq_true (by omega), br_t]; exact Ret.some rfl
      · rw [if_neg hn, decide_eq_false (by omega), br_f]; exact Ret.some rfl
    · rintro _ rfl
      rw [sumE_l, cpD, tI2]
      refine Ret.bnd (Q := fun y => y = Sum.inl ((T, (zS x n, ())), (tIns x (), ()))) ?_ ?_
      · show Ret (br (ltI 0 x.dst.kind) _ _) _
        by_cases hk : x.dst.kind = 0
        · rw [lt_f (by omega), br_f]
          exact Ret.some (by rw [hT, if_pos hk])
        · rw [lt_t (by omega), br_t, (hD hk).2, bnd_s]
          dsimp only
          rw [f1, br_t, f2, br_t]
          exact Ret.some (by rw [hT, if_neg hk])
      · rintro _ rfl
        rw [sumE_l, tI11]
        by_cases hk : x.src.kind = 0
        · rw [lt_f (by omega), br_f, if_pos hk]
          exact Ret.some rfl
        · rw [lt_t (by omega), br_t, if_neg hk]
          refine Ret.bnd (Q := fun y => y = Sum.inl ((U, (zS x n, ())), (tIns x (), ()))) ?_ ?_
          · show Ret (br (ltI 0 x.dst.kind) _ _) _
            by_cases hd : x.dst.kind = 0
            · rw [lt_f (by omega), br_f]
              exact Ret.some (by rw [hU, if_pos hd])
            · rw [lt_t (by omega), br_t]
              dsimp only
              rw [f3, br_t]
              exact Ret.some (by rw [hU, if_neg hd])
          · rintro _ rfl
            rw [sumE_l, cpS, (hS hk).2, bnd_s]
            dsimp only
            rw [f6, br_t, f7, br_t]
            exact Ret.some (by simp [appL])
end Go.Den.G
namespace Go.Den.G
open Go.Den

def pg (m : List Page) (i : Int) : Page := getL m i (dflt .page)
def inB (a b c : Int) : Bool := decide (b ≤ a) && decide (a ≤ c)
def isBase (b : Int) : Bool := inB b 0 65535 && eqI (remI b 256) 0
def isPerm (p : Int) : Bool := inB p 0 7
/-- Is the page right, behind the one ahead of it? -/
def good (m : List Page) (i : Int) : Bool :=
  isBase (pg m i).base && (isPerm (pg m i).perm && (eqI ((pg m i).data.length : Int) 256 && (!decide (0 < i) || ltI (pg m (i - 1)).base (pg m i).base)))
def okFrom (m : List Page) (i : Nat) : Bool := (List.range' i (m.length - i)).all fun j => good m j
def memOK (m : List Page) : Bool := decide ((m.length : Int) ≤ 32) && okFrom m 0
end Go.Den.G
namespace Go.Den.G
open Go.Den
/-- The number that bytes are, the lowest first. -/
def leN : List UInt8 → Nat
  | [] => 0
  | b :: r => b.toNat + 256 * leN r
theorem leN_lt : ∀ (t : List UInt8), leN t < 256 ^ t.length
  | [] => by simp [leN]
  | b :: r => by
    have := leN_lt r
    have hb : b.toNat < 256 := b.toNat_lt
    simp only [leN, List.length_cons, Nat.pow_succ]
    omega
theorem leN_take : ∀ (t : List UInt8) (k : Nat) (h : k < t.length), leN (t.take (k + 1)) = leN (t.take k) + t[k].toNat * 256 ^ k
  | [], k, h => by simp at h
  | b :: r, 0, _ => by simp [leN]
  | b :: r, k + 1, h => by
    have hk : k < r.length := by simpa using h
    have := leN_take r k hk
    simp only [List.take_succ_cons, leN, List.getElem_cons_succ, Nat.pow_succ] at this ⊢
    rw [this, Nat.mul_add]
    have : 256 * (r[k].toNat * 256 ^ k) = r[k].toNat * (256 ^ k * 256) := by rw [Nat.mul_left_comm, Nat.mul_comm 256 (256 ^ k)]
    omega
theorem leN_drop (t : List UInt8) (k : Nat) (h : k < t.length) : leN (t.drop k) = t[k].toNat + 256 * leN (t.drop (k + 1)) := by
  rw [List.drop_eq_getElem_cons h, leN]
theorem byteAt_nat {t : List UInt8} {k : Nat} (h : k < t.length) : byteAt t (k : Int) = (t[k].toNat : Int) := by simp [byteAt, h]
theorem ofInt_wrap (x : Int) : BitVec.ofInt 64 (IntKind.wrap .i64 x) = BitVec.ofInt 64 x := by
  apply BitVec.eq_of_toNat_eq
  simp only [BitVec.toNat_ofInt, IntKind.wrap, IntKind.bits, IntKind.signed, Bool.true_and, decide_eq_true_eq, ge_iff_le]
  simp only [show (2 : Int) ^ 64 = 18446744073709551616 from rfl, show (2 : Int) ^ (64 - 1) = 9223372036854775808 from rfl, show ((2 ^ 64 : Nat) : Int) = 18446744073709551616 from rfl]
  split <;> omega
theorem ior_disj (a c k : Nat) (ha : a < 2 ^ k) (hc : a + c * 2 ^ k < 18446744073709551616) : ior .i64 (a : Int) (IntKind.wrap .i64 ((c : Int) * 2 ^ k)) = IntKind.wrap .i64 ((a + c * 2 ^ k : Nat) : Int) := by
  unfold ior
  rw [show IntKind.i64.bits = 64 from rfl, ofInt_wrap]
  congr 1
  rw [BitVec.toNat_or]
  have e1 : (BitVec.ofInt 64 (a : Int)).toNat = a := by
    rw [BitVec.toNat_ofInt]; simp only [show ((2 ^ 64 : Nat) : Int) = 18446744073709551616 from rfl]; omega
  have e2 : (BitVec.ofInt 64 ((c : Int) * 2 ^ k)).toNat = c * 2 ^ k := by
    rw [BitVec.toNat_ofInt]; simp only [show ((2 ^ 64 : Nat) : Int) = 18446744073709551616 from rfl]
    rw [show ((c : Int) * 2 ^ k) = ((c * 2 ^ k : Nat) : Int) by simp]
    omega
  rw [e1, e2, Nat.or_comm, ← Nat.shiftLeft_eq, ← Nat.shiftLeft_add_eq_or_of_lt ha, Nat.shiftLeft_eq, Nat.add_comm]
theorem take_eq (t : List UInt8) (h8 : t.length ≤ 8) : S_impl_take ((t, ()), ()) = some (IntKind.wrap .i64 (leN t), ()) := by
  unfold S_impl_take
  simp only [lenL_nat]
  refine (iter_eq (fun x => x.1.1 = t ∧ x.1.2.2.1 = (t.length : Int) ∧ 0 ≤ x.1.2.2.2.1 ∧ x.1.2.2.2.1 ≤ (t.length : Int) ∧ x.1.2.1 = IntKind.wrap .i64 (leN (t.take x.1.2.2.2.1.toNat))) (fun x => t.length - x.1.2.2.2.1.toNat) (fun _ => some (IntKind.wrap .i64 (leN t), ())) ?_ F _ ?_ ?_)
  · rintro ⟨⟨s, acc, len, i, _⟩, _⟩ rec ⟨rfl, hz, h0, h1, h2⟩ hrec
    dsimp only at hz h0 h1 h2 hrec h8 ⊢
    subst hz
    by_cases hi : i < s.length
    · obtain ⟨n, rfl⟩ := Int.eq_ofNat_of_zero_le h0
      have hn : n < s.length := by omega
      have hlt := leN_lt (s.take n)
      rw [List.length_take, Nat.min_eq_left (by omega)] at hlt
      have hb : s[n].toNat < 256 := s[n].toNat_lt
      have hpow : 256 ^ n ≤ 256 ^ 7 := Nat.pow_le_pow_right (by decide) (by omega)
      rw [show (256 : Nat) ^ 7 = 72057594037927936 from rfl] at hpow
      have h256 : (256 : Nat) ^ n = 2 ^ (8 * n) := by rw [Nat.pow_mul]
      rw [Int.toNat_natCast] at h2
      rw [br_pos (lt_t hi), br_pos (inR_t h0 hi), mul_id (by unfold I64; omega), br_pos (le_t (by omega)), byteAt_nat hn, wrapI_id (by unfold I64; omega)]
      rw [hrec _ ⟨rfl, rfl, ?_, ?_, ?_⟩ ?_]
      · dsimp only; rw [add_id (by unfold I64; omega)]; omega
      · dsimp only; rw [add_id (by unfold I64; omega)]; omega
      · dsimp only
        rw [add_id (by unfold I64; omega), show ((n : Int) + 1).toNat = n + 1 by omega, leN_take s n hn, h2, wrap64_id (n := (leN (s.take n) : Int)) (by unfold I64; omega)]
        unfold ishl
        rw [show min (8 * (n : Int)).toNat IntKind.i64.bits = 8 * n by rw [show IntKind.i64.bits = 64 from rfl]; omega]
        have hmul : s[n].toNat * 256 ^ n ≤ 255 * 256 ^ n := Nat.mul_le_mul_right _ (by omega)
        have := ior_disj (leN (s.take n)) s[n].toNat (8 * n) (by rw [← h256]; exact hlt) (by rw [← h256]; omega)
        rw [this, h256]
      · dsimp only; rw [add_id (by unfold I64; omega)]; omega
    · obtain rfl : i = s.length := by omega
      rw [br_neg (lt_f hi), h2, Int.toNat_natCast, List.take_length]
  · refine ⟨rfl, rfl, by dsimp only; omega, by dsimp only; omega, ?_⟩
    rfl
  · simp [F]; omega
end Go.Den.G
namespace Go.Den.G
open Go.Den
end Go.Den.G
namespace Go.Den.G
open Go.Den
end Go.Den.G
namespace Go.Den.G
open Go.Den
def isSz (n : Int) : Bool := eqI n 1 || (eqI n 2 || (eqI n 4 || eqI n 8))
theorem toStr_len (xs : List Int) : (toStr xs).length = xs.length := by simp [toStr]
end Go.Den.G
namespace Go.Den.G
open Go.Den
/-- The page at a place. -/
def pgN (m : List Page) (i : Nat) : Page := m.getD i (dflt .page)
theorem pgN_pg (m : List Page) (i : Nat) : pg m (i : Int) = pgN m i := by simp [pg, pgN, getL]
/-- Right memory, whole. -/
structure MemT (m : List Page) : Prop where
  len : m.length ≤ 32
  pg : ∀ i, i < m.length → 0 ≤ (pgN m i).base ∧ (pgN m i).base ≤ 65280 ∧ (pgN m i).base % 256 = 0 ∧ 0 ≤ (pgN m i).perm ∧ (pgN m i).perm ≤ 7 ∧ (pgN m i).data.length = 256
  ord : ∀ i, i + 1 < m.length → (pgN m i).base < (pgN m (i + 1)).base
theorem isBase_t {b : Int} (h0 : 0 ≤ b) (h1 : b ≤ 65280) (h2 : b % 256 = 0) : isBase b = true := by
  simp only [isBase, inB, Bool.and_eq_true, decide_eq_true_eq, eqI]
  refine ⟨⟨h0, by omega⟩, ?_⟩
  show b.tmod 256 = 0
  rw [Int.tmod_eq_emod_of_nonneg h0]; exact h2
theorem MemT.ok {m : List Page} (h : MemT m) : memOK m = true := by
  simp only [memOK, Bool.and_eq_true, decide_eq_true_eq, okFrom, List.all_eq_true]
  refine ⟨by have := h.len; omega, fun i hi => ?_⟩
  rw [List.mem_range'] at hi
  obtain ⟨k, hk, rfl⟩ := hi
  rw [Nat.one_mul, Nat.zero_add]
  have hk : k < m.length := by omega
  obtain ⟨a, b, c, d, e, f⟩ := h.pg k hk
  unfold good
  rw [pgN_pg]
  simp only [Bool.and_eq_true, Bool.or_eq_true, Bool.not_eq_true', decide_eq_false_iff_not, lt_iff]
  refine ⟨isBase_t a b c, ?_, by rw [eq_iff]; omega, ?_⟩
  · simp only [isPerm, inB, Bool.and_eq_true, decide_eq_true_eq]; omega
  · cases k with
    | zero => exact .inl (by omega)
    | succ n => right; rw [show ((n + 1 : Nat) : Int) - 1 = (n : Int) by omega, pgN_pg]; exact h.ord n hk
theorem MemT.mono {m : List Page} (h : MemT m) {i : Nat} : ∀ {j : Nat}, i < j → j < m.length → (pgN m i).base + 256 ≤ (pgN m j).base
  | 0, hj, _ => absurd hj (Nat.not_lt_zero _)
  | j + 1, hij, hj => by
    have h1 := h.ord j hj
    have p1 := (h.pg j (by omega)).2.2.1
    have p2 := (h.pg (j + 1) hj).2.2.1
    by_cases he : i = j
    · subst he; omega
    · have := h.mono (i := i) (j := j) (by omega) (by omega)
      omega
end Go.Den.G
namespace Go.Den.G
open Go.Den
end Go.Den.G
namespace Go.Den.G
open Go.Den
theorem isSz4 {n : Int} (h : isSz n = true) : n = 1 ∨ n = 2 ∨ n = 4 ∨ n = 8 := by
  simp only [isSz, eqI, Bool.or_eq_true, decide_eq_true_eq] at h; exact h
/-- A number's low bytes, as a number. -/
def lowR (v : Int) (n : Nat) : Int := if n = 8 then v else v % 2 ^ (8 * n)
end Go.Den.G
namespace Go.Den.G
open Go.Den
set_option maxRecDepth 100000

/-! ### the reference's numbers without a sign -/
theorem l01Zero_wrap (v : Int) (k : Nat) (h0 : 1 ≤ k) (h1 : k ≤ 8) : S_spec_l01Zero ((v, ((k : Int), ())), ()) = some (IntKind.wrap .i64 ((uns v % 2 ^ (8 * k) : Nat) : Int), ()) := by
  unfold S_spec_l01Zero
  dsimp only
  rw [mulI_id (by omega) (by omega), subI_id (by omega) (by omega)]
  have hu : uns v % 2 ^ (8 * k) < 2 ^ (8 * k) := Nat.mod_lt _ (Nat.two_pow_pos _)
  have hp : (2 : Nat) ^ (8 * k) ≤ 2 ^ 64 := Nat.pow_le_pow_right (by decide) (by omega)
  generalize hw : uns v % 2 ^ (8 * k) = w at hu ⊢
  refine iter_eq (fun x => x.1.1 = v ∧ -1 ≤ x.1.2.2.1 ∧ x.1.2.2.1 ≤ 8 * (k : Int) - 1 ∧ x.1.2.1 = ((w / 2 ^ (x.1.2.2.1 + 1).toNat : Nat) : Int)) (fun x => (x.1.2.2.1 + 1).toNat)
    (fun _ => some (IntKind.wrap .i64 (w : Int), ())) ?_ F _ ⟨rfl, by dsimp only; omega, by dsimp only; omega, ?_⟩ (by unfold F; dsimp only; omega)
  · rintro ⟨⟨v', acc, i, _⟩, _⟩ rec ⟨rfl, h2, h3, hacc⟩ hrec
    dsimp only at h2 h3 hacc hrec ⊢
    by_cases hi : 0 ≤ i
    · obtain ⟨j, rfl⟩ := Int.eq_ofNat_of_zero_le hi
      rw [br_pos (le_t hi), l01Bit_eq _ _ (by omega) (by omega), bnd_s]
      dsimp only
      have e3 : v' % 2 ^ 64 / 2 ^ ((j : Int)).toNat % 2 = ((w / 2 ^ j % 2 : Nat) : Int) := by
        have hb : ∀ a j : Nat, a / 2 ^ j % 2 = (a.testBit j).toNat := fun a j => by rw [Nat.testBit_eq_decide_div_mod_eq]; rcases Nat.mod_two_eq_zero_or_one (a / 2 ^ j) with h | h <;> simp [h]
        have : w / 2 ^ j % 2 = uns v' / 2 ^ j % 2 := by
          rw [hb, hb, ← hw, Nat.testBit_mod_two_pow, decide_eq_true (by omega), Bool.true_and]
        rw [this, ← uns_cast]; simp
      rw [e3]
      have e4 : w / 2 ^ (((j : Int) + 1).toNat) = w / 2 ^ j / 2 := by
        rw [show ((j : Int) + 1).toNat = j + 1 by omega, Nat.pow_succ, Nat.div_div_eq_div_mul]
      rw [e4] at hacc
      generalize hq : w / 2 ^ j = q at hacc ⊢
      have hq2 : q < 2 ^ 64 := by rw [← hq]; exact Nat.lt_of_le_of_lt (Nat.div_le_self _ _) (by omega)
      have e5 : addI .u64 (mulI .u64 2 acc) (wrapI .u64 ((q % 2 : Nat) : Int)) = (q : Int) := by
        unfold addI mulI wrapI
        rw [hacc, wrapU_id (n := 2 * ((q / 2 : Nat) : Int)) (by omega) (by omega), wrapU_id (n := ((q % 2 : Nat) : Int)) (by omega) (by omega), wrapU_id (by omega) (by omega)]
        omega
      rw [e5, subI_id (by omega) (by omega)]
      refine hrec _ ⟨rfl, by dsimp only; omega, by dsimp only; omega, ?_⟩ (by dsimp only; omega)
      dsimp only
      rw [show ((j : Int) - 1 + 1).toNat = j by omega, hq]
    · rw [br_neg (le_f hi)]
      have : i = -1 := by omega
      subst this
      rw [hacc]
      simp
      rfl
  · dsimp only
    rw [show (8 * (k : Int) - 1 + 1).toNat = 8 * k by omega, Nat.div_eq_of_lt hu]; rfl
theorem l01Zero_eq {v : Int} (hv : I64 v) (k : Nat) (hk : isSz (k : Int) = true) : S_spec_l01Zero ((v, ((k : Int), ())), ()) = some (lowR v k, ()) := by
  obtain ⟨k1, k8⟩ : 1 ≤ k ∧ k ≤ 8 := by rcases isSz4 hk with h | h | h | h <;> omega
  rw [l01Zero_wrap v k k1 k8]
  unfold lowR
  by_cases h8 : k = 8
  · subst h8
    rw [if_pos rfl]
    have hlt : uns v < 2 ^ 64 := by have := uns_cast v; have := Int.emod_lt_of_pos v (show (0 : Int) < 2 ^ 64 by decide); omega
    rw [show 8 * 8 = 64 from rfl, Nat.mod_eq_of_lt hlt, uns_cast]
    have he : IntKind.wrap .i64 (v % 2 ^ 64) = IntKind.wrap .i64 v := by
      simp [IntKind.wrap, IntKind.bits]
    rw [he, wrap64_id hv]
  · rw [if_neg h8]
    have e : ((uns v % 2 ^ (8 * k) : Nat) : Int) = v % 2 ^ (8 * k) := by
      rw [Int.natCast_emod, uns_cast, show ((2 ^ (8 * k) : Nat) : Int) = (2 : Int) ^ (8 * k) by simp]
      refine Int.emod_emod_of_dvd v ⟨2 ^ (64 - 8 * k), ?_⟩
      rw [← Int.pow_add]; congr 1; omega
    rw [e]
    have h1 := Int.emod_nonneg v (show (2 : Int) ^ (8 * k) ≠ 0 from Int.ne_of_gt (Int.pow_pos (by decide)))
    have h2 := Int.emod_lt_of_pos v (show (0 : Int) < 2 ^ (8 * k) from Int.pow_pos (by decide))
    have h3 : (2 : Int) ^ (8 * k) ≤ 2 ^ 32 := by
      have : k = 1 ∨ k = 2 ∨ k = 4 := by rcases isSz4 hk with h | h | h | h <;> omega
      rcases this with rfl | rfl | rfl <;> decide
    generalize (2 : Int) ^ (8 * k) = q at h1 h2 h3 ⊢
    rw [wrap64_id (n := v % q) ⟨by omega, by omega⟩]
end Go.Den.G
namespace Go.Den.G
open Go.Den
set_option maxRecDepth 100000

/-! ### reading numbers of a text -/
/-- The number that `n` bytes from `a` on are. -/
def lw (t : List UInt8) (a n : Int) : Int := IntKind.wrap .i64 (leN ((t.drop a.toNat).take n.toNat))
theorem lw_byte {t : List UInt8} {a : Int} (h0 : 0 ≤ a) (h1 : a < t.length) : lw t a 1 = byteAt t a := by
  obtain ⟨k, rfl⟩ := Int.eq_ofNat_of_zero_le h0
  have hk : k < t.length := by omega
  unfold lw
  rw [Int.toNat_natCast, show (1 : Int).toNat = 0 + 1 from rfl, leN_take _ 0 (by simp; omega), byteAt_nat hk]
  have hb : t[k].toNat < 256 := t[k].toNat_lt
  simp only [List.take_zero, leN, Nat.pow_zero, List.getElem_drop, Nat.add_zero, Nat.zero_add, Nat.mul_one]
  exact wrap64_id ⟨by omega, by omega⟩
theorem slice_len {t : List UInt8} {a n : Int} (h0 : 0 ≤ a) (hn : 0 ≤ n) (h1 : a + n ≤ t.length) : ((t.drop a.toNat).take n.toNat).length = n.toNat := by
  rw [List.length_take, List.length_drop]; omega
theorem l01Take_at (t : List UInt8) (a n : Int) (hl : (t.length : Int) ≤ 1099511627776) (h0 : 0 ≤ a) (hn0 : 0 ≤ n) (hn : n ≤ 8) (h1 : a + n ≤ t.length) :
    S_spec_l01Take ((t, (a, (n, ()))), ()) = some (lw t a n, ()) := by
  unfold S_spec_l01Take
  dsimp only
  rw [subI_id (by omega) (by omega)]
  obtain ⟨m, rfl⟩ := Int.eq_ofNat_of_zero_le hn0
  obtain ⟨k, rfl⟩ := Int.eq_ofNat_of_zero_le h0
  obtain ⟨s, hs⟩ : ∃ s, s = (t.drop k).take m := ⟨_, rfl⟩
  have hsl : s.length = m := by rw [hs, List.length_take, List.length_drop]; omega
  have hg : ∀ j : Nat, (h : j < s.length) → byteAt t ((k : Int) + (j : Nat)) = (s[j].toNat : Int) := fun j h => by
    rw [show (k : Int) + (j : Nat) = ((k + j : Nat) : Int) by omega, byteAt_nat (by omega)]
    simp [hs]
  have hlw : lw t k m = IntKind.wrap .i64 (leN s) := by unfold lw; rw [hs]; rfl
  rw [hlw]
  refine iter_eq (fun x => x.1.1 = t ∧ x.1.2.1 = (k : Int) ∧ -1 ≤ x.1.2.2.2.1 ∧ x.1.2.2.2.1 < (m : Int) ∧ x.1.2.2.1 = (leN (s.drop (x.1.2.2.2.1 + 1).toNat) : Int)) (fun x => (x.1.2.2.2.1 + 1).toNat) (fun _ => some (IntKind.wrap .i64 (leN s), ())) ?_ F _ ?_ ?_
  · rintro ⟨⟨u, z, v, i, _⟩, _⟩ rec ⟨h2, hz, h3, h4, h5⟩ hrec
    dsimp only at hz h2 h3 h4 h5 hrec ⊢
    subst hz h2
    by_cases hi : 0 ≤ i
    · obtain ⟨j, rfl⟩ := Int.eq_ofNat_of_zero_le hi
      have hj : j < s.length := by omega
      have hlt := leN_lt (s.drop (j + 1))
      have hb : s[j].toNat < 256 := s[j].toNat_lt
      have hpow : 256 ^ (s.drop (j + 1)).length ≤ 256 ^ 7 := Nat.pow_le_pow_right (by decide) (by rw [List.length_drop]; omega)
      rw [show (256 : Nat) ^ 7 = 72057594037927936 from rfl] at hpow
      rw [show ((j : Int) + 1).toNat = j + 1 by omega] at h5
      rw [br_pos (le_t hi), addI_id (by omega) (by omega), br_pos (inR_t (by omega) (by rw [lenL_nat]; omega)), hg j hj]
      rw [hrec _ ⟨rfl, rfl, ?_, ?_, ?_⟩ ?_]
      · dsimp only; rw [subI_id (by omega) (by omega)]; omega
      · dsimp only; rw [subI_id (by omega) (by omega)]; omega
      · dsimp only
        rw [subI_id (by omega) (by omega), show ((j : Int) - 1 + 1).toNat = j by omega, leN_drop s j hj, h5]
        rw [mulIU_id (by omega) (by omega), wrapIU_id (by omega) (by omega), addIU_id (by omega) (by omega)]
        omega
      · dsimp only; rw [subI_id (by omega) (by omega)]; omega
    · obtain rfl : i = -1 := by omega
      rw [br_neg (le_f hi), h5]
      rfl
  · refine ⟨rfl, rfl, by dsimp only; omega, by dsimp only; omega, ?_⟩
    dsimp only
    rw [show ((m : Int) - 1 + 1).toNat = s.length by omega, List.drop_length]
    rfl
  · simp [F]; omega

/-- A state of a decoder: where it stands, or what is wrong. -/
abbrev Pos := Except Int Int
def posOf (at' code : Int) : Pos := if code = 0 then .ok at' else .error code
def Pos.In (p : Pos) (t : List UInt8) : Prop := ∀ a, p = .ok a → 0 ≤ a ∧ a ≤ t.length
def exb {α β : Type} (x : Except Int α) (f : α → Except Int β) : Except Int β := match x with
  | .ok a => f a
  | .error c => .error c
/-- So many bytes more. -/
def adv (t : List UInt8) (n : Int) (p : Pos) : Pos := exb p fun a => if a + n ≤ t.length then .ok (a + n) else .error 9
/-- Their number, without a sign; 0 if there are none. -/
def rdU (t : List UInt8) (n : Int) (p : Pos) : Int := match p with
  | .ok a => if a + n ≤ t.length then lw t a n else 0
  | .error _ => 0
/-- .. and with it. -/
def rdS (t : List UInt8) (n : Int) (p : Pos) : Int := sx (8 * n - 1).toNat (rdU t n p)
theorem posOf_ok {a : Int} : posOf a 0 = .ok a := rfl
theorem posOf_bad {a c : Int} (h : c ≠ 0) : posOf a c = .error c := if_neg h
theorem Pos.In.adv {t : List UInt8} {n : Int} {p : Pos} (h : p.In t) (hn : 0 ≤ n) : (Go.Den.G.adv t n p).In t := by
  intro a ha
  unfold Go.Den.G.adv exb at ha
  cases p with
  | error c => cases ha
  | ok b =>
    dsimp only at ha
    obtain ⟨h0, h1⟩ := h b rfl
    split at ha
    · cases ha; omega
    · cases ha
theorem sx_0 (m : Nat) : sx m 0 = 0 := by
  unfold sx
  rw [show (0 : Int) % 2 ^ 64 = 0 from rfl, Int.zero_ediv, if_neg (by decide), Int.zero_emod]
theorem lw_range (t : List UInt8) (a n : Int) : I64 (lw t a n) := wrap64_range _
end Go.Den.G
namespace Go.Den.G
open Go.Den
set_option maxRecDepth 100000

/-! ### the reader's small steps: the program -/
section
variable {t : List UInt8} {a c : Int}
theorem byte_bitsI : ∀ n : Nat, n < 256 → ishr .i64 (n : Int) 6 = (n : Int) / 64 ∧ iand .i64 (ishr .i64 (n : Int) 3) 7 = (n : Int) / 8 % 8 ∧ iand .i64 (n : Int) 7 = (n : Int) % 8 ∧ iand .i64 (n : Int) 15 = (n : Int) % 16 := by decide +kernel
theorem bI {b : Int} (h0 : 0 ≤ b) (h1 : b < 256) : ishr .i64 b 6 = b / 64 ∧ iand .i64 (ishr .i64 b 3) 7 = b / 8 % 8 ∧ iand .i64 b 7 = b % 8 ∧ iand .i64 b 15 = b % 16 := by
  obtain ⟨n, rfl⟩ := Int.eq_ofNat_of_zero_le h0
  exact byte_bitsI n (by omega)
theorem byteAt_range (t : List UInt8) (a : Int) : 0 ≤ byteAt t a ∧ byteAt t a < 256 := by
  unfold byteAt
  have := (t.getD a.toNat 0).toNat_lt
  omega
theorem rdU1_range (t : List UInt8) (p : Pos) (hp : p.In t) : 0 ≤ rdU t 1 p ∧ rdU t 1 p < 256 := by
  unfold rdU
  cases p with
  | error _ => simp
  | ok b =>
    obtain ⟨h0, h1⟩ := hp b rfl
    dsimp only
    split
    · rw [lw_byte h0 (by omega)]; exact byteAt_range t b
    · simp
theorem dwrong_eq (b : Bool) (k : Int) (r : _) : S_impl_decoder_wrong ((b, (k, ())), ((t, (a, (c, r))), ())) = some ((), ((t, (a, ((if b = true ∧ c = 0 then k else c), r))), ())) := by
  unfold S_impl_decoder_wrong
  dsimp only
  cases b with
  | false => rw [br_f, bnd_s, br_f]; simp
  | true =>
    rw [br_t, bnd_s]
    by_cases h : c = 0
    · rw [br_pos (eq_t h)]; simp [h]
    · rw [br_neg (eq_f h)]; simp [h]
theorem wrong_pos {b : Bool} {k : Int} (hk : k ≠ 0) : posOf a (if b = true ∧ c = 0 then k else c) = exb (posOf a c) fun x => if b = true then .error k else .ok x := by
  unfold posOf
  by_cases h : c = 0
  · subst h
    cases b with
    | false => simp [exb]
    | true => simp [exb, hk]
  · rw [if_neg (show ¬ (b = true ∧ c = 0) from fun g => h g.2), if_neg h]; rfl
theorem take_lw {t : List UInt8} {a n : Int} (h0 : 0 ≤ a) (hn0 : 1 ≤ n) (hn : n ≤ 8) (h1 : a + n ≤ t.length) : S_impl_take ((dropL (takeL t (a + n)) a, ()), ()) = some (lw t a n, ()) := by
  have e : dropL (takeL t (a + n)) a = (t.drop a.toNat).take n.toNat := by
    unfold dropL takeL
    rw [List.drop_take]
    congr 1; omega
  rw [e, take_eq _ (by rw [slice_len h0 (by omega) h1]; omega)]
  rfl
theorem dnext_eq (n : Int) (r : _) (h1 : 1 ≤ n) (h8 : n ≤ 8) (hl : (t.length : Int) ≤ 1099511627776) (hp : (posOf a c).In t) :
    ∃ a' c', S_impl_decoder_next ((n, ()), ((t, (a, (c, r))), ())) = some (rdU t n (posOf a c), ((t, (a', (c', r))), ())) ∧ posOf a' c' = adv t n (posOf a c) := by
  unfold S_impl_decoder_next
  dsimp only
  rw [dwrong_eq, bnd_s]
  dsimp only
  by_cases hc : c = 0
  · subst hc
    obtain ⟨p0, p1⟩ := hp a posOf_ok
    rw [posOf_ok, addI_id (by omega) (by omega)]
    unfold rdU adv exb
    dsimp only
    by_cases hn : a + n ≤ t.length
    · rw [lt_f (by rw [lenL_nat]; omega)]
      rw [if_neg (by simp), show notB (eqI 0 0) = false from rfl, br_f, br_pos (inC_t (by omega) (by rw [lenL_nat]; omega)), subI_id (by omega) (by omega), show a + n - n = a by omega, br_pos (inC_t (by omega) (by omega)), take_lw p0 h1 h8 hn, bnd_s]
      exact ⟨a + n, 0, by rw [if_pos hn], by rw [if_pos hn]; rfl⟩
    · rw [lt_t (by rw [lenL_nat]; omega)]
      rw [if_pos ⟨rfl, rfl⟩, show notB (eqI 9 0) = true from rfl, br_t]
      exact ⟨a, 9, by rw [if_neg hn], by rw [if_neg hn]; rfl⟩
  · rw [if_neg (fun g => hc g.2), eq_f hc, notB_f, br_t, posOf_bad hc]
    exact ⟨a, c, rfl, by rw [posOf_bad hc]; rfl⟩
theorem dnumber_eq (n : Int) (r : _) (h1 : 1 ≤ n) (h8 : n ≤ 8) (hl : (t.length : Int) ≤ 1099511627776) (hp : (posOf a c).In t) :
    ∃ a' c', S_impl_decoder_number ((n, ()), ((t, (a, (c, r))), ())) = some (rdS t n (posOf a c), ((t, (a', (c', r))), ())) ∧ posOf a' c' = adv t n (posOf a c) := by
  obtain ⟨a', c', e, h⟩ := dnext_eq n r h1 h8 hl hp
  unfold S_impl_decoder_number
  rw [e, bnd_s]
  dsimp only
  rw [sign_eq _ _ h1 h8, bnd_s]
  exact ⟨a', c', rfl, h⟩
end
end Go.Den.G
namespace Go.Den.G
open Go.Den
set_option maxRecDepth 100000

/-! ### registers and places: the model -/
def rexOK (x : Int) : Prop := x = 0 ∨ 64 ≤ x ∧ x ≤ 79
def extM (x : Int) (k : Nat) : Int := 8 * (x / 2 ^ k % 2)
def regNo (x r z : Int) : Int := if z = 1 ∧ x = 0 ∧ 4 ≤ r then r + 12 else r
def regD (r : Int) : Opd := ⟨1, r, 0, 0, 0, 0, 0⟩
def immD (n : Int) : Opd := ⟨3, 0, 0, 0, 0, 0, n⟩
def memD (b i s d : Int) : Opd := ⟨2, 0, b, i, s, d, 0⟩
/-- How many bytes a distance has. -/
def dspW (mod rm b : Int) : Int := if mod = 2 then 4 else if mod = 1 then 1 else if mod = 0 ∧ (rm = 4 ∧ b % 8 = 5 ∨ rm = 5) then 4 else 0
def dspV (t : List UInt8) (w : Int) (p : Pos) : Int := if w = 0 then 0 else rdS t w p
def dspP (t : List UInt8) (w : Int) (p : Pos) : Pos := if w = 0 then p else adv t w p
def memM (t : List UInt8) (x mod rm : Int) (p : Pos) : Opd × Pos :=
  if rm = 4 then
    (memD (if mod = 0 ∧ rdU t 1 p % 8 = 5 then -1 else rdU t 1 p % 8 + extM x 0)
      (if rdU t 1 p / 8 % 8 + extM x 1 = 4 then -1 else rdU t 1 p / 8 % 8 + extM x 1)
      (if rdU t 1 p / 8 % 8 + extM x 1 = 4 then 1 else 2 ^ (rdU t 1 p / 64).toNat)
      (dspV t (dspW mod rm (rdU t 1 p)) (adv t 1 p)), dspP t (dspW mod rm (rdU t 1 p)) (adv t 1 p))
  else if rm = 5 ∧ mod = 0 then (memD 16 (-1) 1 (dspV t 4 p), dspP t 4 p)
  else (memD (rm + extM x 0) (-1) 1 (dspV t (dspW mod rm 0) p), dspP t (dspW mod rm 0) p)
def plM (t : List UInt8) (x m z : Int) (p : Pos) : Opd × Pos :=
  if m / 64 = 3 then (regD (regNo x (m % 8 + extM x 0) z), p) else memM t x (m / 64) (m % 8) p
theorem rex_bits : ∀ n : Nat, n < 16 → ∀ k : Nat, k < 4 → ishl .i64 (iand .i64 (ishr .i64 (n : Int) (k : Int)) 1) 3 = 8 * ((n : Int) / 2 ^ k % 2) := by decide +kernel
theorem ext_mod {x : Int} {k : Nat} (hk : k < 4) : 8 * (x % 16 / 2 ^ k % 2) = extM x k := by
  unfold extM
  have : k = 0 ∨ k = 1 ∨ k = 2 ∨ k = 3 := by omega
  rcases this with rfl | rfl | rfl | rfl
  · rw [show (2 : Int) ^ 0 = 1 from rfl]; omega
  · rw [show (2 : Int) ^ 1 = 2 from rfl]; omega
  · rw [show (2 : Int) ^ 2 = 4 from rfl]; omega
  · rw [show (2 : Int) ^ 3 = 8 from rfl]; omega
theorem ext_range {x : Int} {k : Nat} (hk : k < 4) : extM x k = 0 ∧ (x ≠ 0 ∨ x = 0) ∨ extM x k = 8 ∧ x ≠ 0 := by
  unfold extM
  have : k = 0 ∨ k = 1 ∨ k = 2 ∨ k = 3 := by omega
  rcases this with rfl | rfl | rfl | rfl
  · rw [show (2 : Int) ^ 0 = 1 from rfl]; omega
  · rw [show (2 : Int) ^ 1 = 2 from rfl]; omega
  · rw [show (2 : Int) ^ 2 = 4 from rfl]; omega
  · rw [show (2 : Int) ^ 3 = 8 from rfl]; omega
section
variable {t : List UInt8} {a c : Int}
theorem dbit_eq {x : Int} (k : Nat) (hk : k < 4) (nw hr : Bool) (r : _) :
    S_impl_decoder_bit (((k : Int), ()), ((t, (a, (c, (nw, (x % 16, (hr, r)))))), ())) = some (extM x k, ((t, (a, (c, (nw, (x % 16, (hr, r)))))), ())) := by
  unfold S_impl_decoder_bit
  dsimp only
  rw [br_pos (le_t (by omega))]
  have h16 : 0 ≤ x % 16 ∧ x % 16 < 16 := by omega
  have := rex_bits (x % 16).toNat (by omega) k hk
  rw [Int.toNat_of_nonneg h16.1] at this
  rw [this, ext_mod hk]
theorem dreg_eq {x : Int} {n z : Int} (hn : 0 ≤ n) (hn15 : n ≤ 15) (h7 : x = 0 → n ≤ 7) (nw : Bool) (r : _) :
    S_impl_decoder_register ((n, (z, ())), ((t, (a, (c, (nw, (x % 16, (decide (x ≠ 0), r)))))), ())) = some (tOpd (regD (regNo x n z)) (), ((t, (a, (c, (nw, (x % 16, (decide (x ≠ 0), r)))))), ())) := by
  unfold S_impl_decoder_register S_impl_regOf
  dsimp only [p5]
  simp only [within_dec, bnd_s]
  have key : ∀ u : Bool, (u = true ↔ (z = 1 ∧ x = 0 ∧ 4 ≤ n)) → (br u (some (n + 12)) (some n)) = some (regNo x n z) := fun u hu => by
    unfold regNo
    cases u with
    | true => rw [if_pos (hu.1 rfl)]; rfl
    | false => rw [if_neg (fun g => by have := hu.2 g; cases this)]; rfl
  by_cases h1 : z = 1
  · rw [br_pos (eq_t h1), bnd_s]
    by_cases h2 : x = 0
    · rw [show notB (decide (x ≠ 0)) = true by simp [h2, notB], br_t]
      by_cases h3 : 4 ≤ n
      · rw [decide_eq_true (show 4 ≤ n ∧ n ≤ 7 from ⟨h3, h7 h2⟩), bnd_s, br_t, bnd_s, sumE_l, addI_id (by omega) (by omega)]
        unfold regNo
        rw [if_pos ⟨h1, h2, h3⟩]; rfl
      · rw [decide_eq_false (show ¬ (4 ≤ n ∧ n ≤ 7) from fun g => h3 g.1), bnd_s, br_f, bnd_s, sumE_l]
        unfold regNo
        rw [if_neg (fun g => h3 g.2.2)]; rfl
    · rw [show notB (decide (x ≠ 0)) = false by simp [h2, notB], br_f, bnd_s, br_f, bnd_s, sumE_l]
      unfold regNo
      rw [if_neg (fun g => h2 g.2.1)]; rfl
  · rw [br_neg (eq_f h1), bnd_s, br_f, bnd_s, br_f, bnd_s, sumE_l]
    unfold regNo
    rw [if_neg (fun g => h1 g.1)]; rfl
end
end Go.Den.G
namespace Go.Den.G
open Go.Den
set_option maxRecDepth 100000

/-! ### the reader's small steps: the reference -/
section
variable {t : List UInt8} {a c x : Int} {w : Bool}
theorem sfail_eq (k : Int) : S_spec_l04In_fail ((k, ()), ((t, (a, (x, (w, (c, ()))))), ())) = some ((), ((t, (a, (x, (w, (if c = 0 then k else c, ()))))), ())) := by
  unfold S_spec_l04In_fail
  dsimp only
  by_cases h : c = 0
  · rw [br_pos (eq_t h), if_pos h]
  · rw [br_neg (eq_f h), if_neg h]
theorem snumber_eq (n : Int) (h1 : 1 ≤ n) (h8 : n ≤ 8) (hl : (t.length : Int) ≤ 1099511627776) (hp : (posOf a c).In t) :
    ∃ a' c', S_spec_l04In_number ((n, ()), ((t, (a, (x, (w, (c, ()))))), ())) = some (rdS t n (posOf a c), ((t, (a', (x, (w, (c', ()))))), ())) ∧ posOf a' c' = adv t n (posOf a c) := by
  unfold S_spec_l04In_number
  dsimp only
  by_cases hc : c = 0
  · subst hc
    obtain ⟨p0, p1⟩ := hp a posOf_ok
    rw [show notB (eqI 0 0) = false from rfl, br_f, posOf_ok, subI_id (by rw [lenL_nat]; omega) (by rw [lenL_nat]; omega)]
    unfold rdS rdU adv exb
    dsimp only
    by_cases hn : a + n ≤ t.length
    · rw [br_neg (lt_f (by rw [lenL_nat]; omega)), addI_id (by omega) (by omega), subI_id (by omega) (by omega), show a + n - n = a by omega, l01Take_at t a n hl p0 (by omega) h8 hn, bnd_s]
      dsimp only
      rw [l01Sign_eq _ _ h1 h8, bnd_s]
      exact ⟨a + n, 0, by rw [if_pos hn], by rw [if_pos hn]; rfl⟩
    · rw [br_pos (lt_t (by rw [lenL_nat]; omega)), sfail_eq, bnd_s]
      rw [if_pos rfl]
      exact ⟨a, 9, by rw [if_neg hn, sx_0], by rw [if_neg hn]; rfl⟩
  · rw [eq_f hc, notB_f, br_t, posOf_bad hc]
    exact ⟨a, c, by unfold rdS rdU; dsimp only; rw [sx_0], by rw [posOf_bad hc]; rfl⟩
theorem sx_byte {b : Int} (h0 : 0 ≤ b) (h1 : b < 256) : lowR (sx 7 b) 1 = b := by
  unfold lowR sx
  rw [if_neg (by decide)]
  rw [show (2 : Int) ^ (7 + 1) = 256 from rfl]
  split <;> omega
theorem sx_range (m : Nat) (hm : m ≤ 63) (v : Int) : I64 (sx m v) := by
  unfold sx
  have hp : (0 : Int) < 2 ^ (m + 1) := Int.pow_pos (by decide)
  have h1 := Int.emod_nonneg v (Int.ne_of_gt hp)
  have h2 := Int.emod_lt_of_pos v hp
  have hd : (2 : Int) ^ (m + 1) = 2 ^ m * 2 := Int.pow_succ 2 m
  have hm3 : (2 : Int) ^ m ≤ 2 ^ 63 := by
    have h := Nat.pow_le_pow_right (show 0 < 2 by decide) hm
    have e1 : ((2 ^ m : Nat) : Int) = (2 : Int) ^ m := by simp
    have e2 : ((2 ^ 63 : Nat) : Int) = (2 : Int) ^ 63 := by simp
    rw [← e1, ← e2]; exact Int.ofNat_le.2 h
  have hb : v % 2 ^ 64 / 2 ^ m % 2 = v % 2 ^ (m + 1) / 2 ^ m := by
    have h64 : (2 : Int) ^ (m + 1) * 2 ^ (63 - m) = 2 ^ 64 := by rw [← Int.pow_add]; congr 1; omega
    have h1 : v % 2 ^ (m + 1) = v % 2 ^ 64 % 2 ^ (m + 1) := by
      rw [Int.emod_emod_of_dvd]
      exact ⟨2 ^ (63 - m), h64.symm⟩
    rw [h1, Int.pow_succ 2 m]
    have hu := uns_cast v
    rw [← hu]
    have : ((2 : Int) ^ m) = ((2 ^ m : Nat) : Int) := by simp
    rw [this]
    have h2 : ((2 ^ m : Nat) : Int) * 2 = ((2 ^ m * 2 : Nat) : Int) := by simp
    rw [h2]
    rw [← Int.natCast_ediv, ← Int.natCast_emod, ← Int.natCast_ediv, Nat.mod_mul_right_div_self]
    simp
  rw [hb]
  have hpm : (0 : Int) < 2 ^ m := Int.pow_pos (by decide)
  generalize v % 2 ^ (m + 1) = r at *
  unfold I64
  by_cases hs : (2 : Int) ^ m ≤ r
  · have hq : r / 2 ^ m = 1 := by
      rw [Int.ediv_eq_iff_of_pos hpm]; omega
    rw [hq, if_pos rfl]; omega
  · have hq : r / 2 ^ m = 0 := Int.ediv_eq_zero_of_lt h1 (by omega)
    rw [hq, if_neg (by decide)]; omega
theorem sbyte_eq (hl : (t.length : Int) ≤ 1099511627776) (hp : (posOf a c).In t) :
    ∃ a' c', S_spec_l04In_byte ((), ((t, (a, (x, (w, (c, ()))))), ())) = some (rdU t 1 (posOf a c), ((t, (a', (x, (w, (c', ()))))), ())) ∧ posOf a' c' = adv t 1 (posOf a c) := by
  obtain ⟨a', c', e, h⟩ := snumber_eq (x := x) (w := w) 1 (by decide) (by decide) hl hp
  have hr := rdU1_range t (posOf a c) hp
  unfold S_spec_l04In_byte
  dsimp only
  rw [e, bnd_s]
  dsimp only
  rw [show rdS t 1 (posOf a c) = sx 7 (rdU t 1 (posOf a c)) from rfl]
  have hz := l01Zero_eq (sx_range 7 (by decide) (rdU t 1 (posOf a c))) 1 rfl
  rw [sx_byte hr.1 hr.2] at hz
  rw [show ((1 : Nat) : Int) = 1 from rfl] at hz
  rw [hz, bnd_s]
  exact ⟨a', c', rfl, h⟩
theorem sext_eq (hx : rexOK x) (k : Nat) (hk : k < 4) : S_spec_l04In_ext (((k : Int), ()), ((t, (a, (x, (w, (c, ()))))), ())) = some (extM x k, ((t, (a, (x, (w, (c, ()))))), ())) := by
  unfold S_spec_l04In_ext
  dsimp only
  rw [l01Bit_eq _ _ (by omega) (by omega), bnd_s]
  have h1 : x % 2 ^ 64 = x := Int.emod_eq_of_lt (by unfold rexOK at hx; omega) (by unfold rexOK at hx; omega)
  rw [h1, Int.toNat_natCast]
  have h2 := ext_range (x := x) hk
  unfold extM at h2
  unfold extM
  rw [mulI_id (by omega) (by omega)]
theorem sreg_eq {n z : Int} (hn : 0 ≤ n) (hn15 : n ≤ 15) : S_spec_l04In_reg ((n, (z, ())), ((t, (a, (x, (w, (c, ()))))), ())) = some (tOpd (regD (regNo x n z)) (), ((t, (a, (x, (w, (c, ()))))), ())) := by
  unfold S_spec_l04In_reg
  dsimp only
  by_cases h1 : z = 1
  · rw [br_pos (eq_t h1), bnd_s]
    by_cases h2 : x = 0
    · rw [br_pos (eq_t h2), bnd_s]
      by_cases h3 : 4 ≤ n
      · rw [br_pos (le_t h3), bnd_s, sumE_l, addI_id (by omega) (by omega)]
        unfold regNo
        rw [if_pos ⟨h1, h2, h3⟩]; rfl
      · rw [br_neg (le_f h3), bnd_s, sumE_l]
        unfold regNo
        rw [if_neg (fun g => h3 g.2.2)]; rfl
    · rw [br_neg (eq_f h2), bnd_s, br_f, bnd_s, sumE_l]
      unfold regNo
      rw [if_neg (fun g => h2 g.2.1)]; rfl
  · rw [br_neg (eq_f h1), bnd_s, br_f, bnd_s, br_f, bnd_s, sumE_l]
    unfold regNo
    rw [if_neg (fun g => h1 g.1)]; rfl
end
end Go.Den.G
namespace Go.Den.G
open Go.Den
set_option maxRecDepth 100000

/-! ### tables -/
abbrev Shz := Int × Int × Int × Bool × Int × Unit
def shz (sec : Bool) (n : Nat) : Shz := match S_spec_l03Shape ((sec, ((n : Int), ())), ()) with
  | some x => x.1
  | none => (0, 0, 0, false, 0, ())
theorem sh_some : ∀ n : Nat, n < 256 → (S_spec_l03Shape ((false, ((n : Int), ())), ())).isSome = true ∧ (S_spec_l03Shape ((true, ((n : Int), ())), ())).isSome = true := by decide +kernel
theorem l03Shape_eq (sec : Bool) {n : Nat} (h : n < 256) : S_spec_l03Shape ((sec, ((n : Int), ())), ()) = some (shz sec n, ()) := by
  have h2 : (S_spec_l03Shape ((sec, ((n : Int), ())), ())).isSome = true := by cases sec; exact (sh_some n h).1; exact (sh_some n h).2
  unfold shz
  cases hx : S_spec_l03Shape ((sec, ((n : Int), ())), ()) with
  | none => rw [hx] at h2; cases h2
  | some x => rfl
def shR (z : Shz) : (Shz × Int × Unit) × Unit := ((if z.2.1 = 0 then (0, 0, 0, false, 0, ()) else z, (if z.2.1 = 0 then 11 else 0, ())), ())
instance decShz : DecidableEq (Int × Int × Int × Bool × Int × Unit) := inferInstance
instance decShz2 : DecidableEq ((Int × Int × Int × Bool × Int × Unit) × Int × Unit) := inferInstance
def okSh (sec : Bool) (n : Nat) : Bool := decide (S_impl_ShapeOf ((sec, ((n : Int), ())), ()) = some (shR (shz sec n)))
theorem sh_implF : ∀ n : Nat, n < 256 → okSh false n = true := by decide +kernel
theorem sh_implT : ∀ n : Nat, n < 256 → okSh true n = true := by decide +kernel
theorem ShapeOf_eq (sec : Bool) {n : Nat} (h : n < 256) : S_impl_ShapeOf ((sec, ((n : Int), ())), ()) = some (shR (shz sec n)) := by
  cases sec
  · exact of_decide_eq_true (sh_implF n h)
  · exact of_decide_eq_true (sh_implT n h)
def hasMB (f : Int) : Bool := decide (f = 1 ∨ f = 2 ∨ f = 4 ∨ f = 5 ∨ f = 6 ∨ f = 11 ∨ f = 12 ∨ f = 13 ∨ f = 17)
theorem hasM_impl : ∀ n : Nat, n < 18 → S_impl_hasModrm (((n : Int), ()), ()) = some (hasMB n, ()) := by decide +kernel
theorem hasM_spec : ∀ n : Nat, n < 18 → S_spec_l04HasModRM (((n : Int), ()), ()) = some (hasMB n, ()) := by decide +kernel
/-- What holds of each shape. -/
def shP (z : Shz) : Bool := decide (0 ≤ z.1 ∧ z.1 ≤ 44 ∧ 0 ≤ z.2.1 ∧ z.2.1 < 18 ∧ 0 ≤ z.2.2.1 ∧ z.2.2.1 ≤ 7 ∧ (z.2.2.2.2.1 = 0 ∨ z.2.1 = 17 ∧ (z.2.2.2.2.1 = 1 ∨ z.2.2.2.2.1 = 2 ∨ z.2.2.2.2.1 = 4)) ∧ (z.2.1 = 17 → z.2.2.2.2.1 ≠ 0) ∧ (0 < z.2.2.1 → hasMB z.2.1 = true ∧ z.2.1 ≠ 17 ∧ z.1 = 0) ∧ (z.1 = 25 → z.2.1 = 2) ∧ (z.2.1 ≠ 0 → z.2.2.1 = 0 → 1 ≤ z.1))
theorem sh_factF : ∀ n : Nat, n < 256 → shP (shz false n) = true := by decide +kernel
theorem sh_factT : ∀ n : Nat, n < 256 → shP (shz true n) = true := by decide +kernel
theorem sh_facts (sec : Bool) {n : Nat} (h : n < 256) : shP (shz sec n) = true := by
  cases sec
  · exact sh_factF n h
  · exact sh_factT n h
def grp (g d : Nat) : Int := match S_spec_l03Group (((g : Int), ((d : Int), ())), ()) with
  | some x => x.1
  | none => 0
theorem l03Group_eq : ∀ g : Nat, g < 8 → 1 ≤ g → ∀ d : Nat, d < 8 → S_spec_l03Group (((g : Int), ((d : Int), ())), ()) = some (grp g d, ()) := by decide +kernel
def gpR (o : Int) : (Int × Int × Unit) × Unit := ((o, (if o = 0 then 11 else 0, ())), ())
def okGp (g d : Nat) : Bool := decide (S_impl_GroupOp (((g : Int), ((d : Int), ())), ()) = some (gpR (grp g d)))
theorem gp_impl : ∀ g : Nat, g < 8 → 1 ≤ g → ∀ d : Nat, d < 8 → okGp g d = true := by decide +kernel
theorem GroupOp_eq {g d : Nat} (h : g < 8) (h1 : 1 ≤ g) (k : d < 8) : S_impl_GroupOp (((g : Int), ((d : Int), ())), ()) = some (gpR (grp g d)) := of_decide_eq_true (gp_impl g h h1 d k)
theorem grp_range : ∀ g : Nat, g < 8 → ∀ d : Nat, d < 8 → 0 ≤ grp g d ∧ grp g d ≤ 44 := by decide +kernel
def eightB (op : Int) : Bool := decide (op = 29 ∨ op = 30 ∨ op = 31 ∨ op = 32)
def zeroB (op : Int) : Bool := decide (op = 33 ∨ op = 34 ∨ op = 37 ∨ op = 38 ∨ op = 43 ∨ op = 44)
theorem fixed_impl : ∀ n : Nat, n < 45 → S_impl_fixedSize (((n : Int), ()), ()) = some ((if eightB n = true then (8, (true, ())) else if zeroB n = true then (0, (true, ())) else (0, (false, ()))), ()) := by decide +kernel
def szM (by' : Bool) (op : Int) (w : Bool) (x : Int) : Int := if eightB op = true then 8 else if zeroB op = true then 0 else if by' = true then 1 else if x / 8 % 2 = 1 then 8 else if w = true then 2 else 4
def pfxL : List Int := [38, 46, 54, 62, 100, 101, 102, 103, 240, 242, 243]
theorem pfx_spec : ∀ n : Nat, n < 256 → S_spec_l04Prefix (((n : Int), ()), ()) = some (decide ((n : Int) ∈ pfxL ∧ n ≠ 102), ()) := by decide +kernel
end Go.Den.G
namespace Go.Den.G
open Go.Den
set_option maxRecDepth 100000

/-! ### places: the program -/
section
variable {t : List UInt8} {a c : Int}
theorem dbit0 {x : Int} (nw hr : Bool) (r : _) : S_impl_decoder_bit ((0, ()), ((t, (a, (c, (nw, (x % 16, (hr, r)))))), ())) = some (extM x 0, ((t, (a, (c, (nw, (x % 16, (hr, r)))))), ())) := dbit_eq 0 (by decide) nw hr r
theorem dbit1 {x : Int} (nw hr : Bool) (r : _) : S_impl_decoder_bit ((1, ()), ((t, (a, (c, (nw, (x % 16, (hr, r)))))), ())) = some (extM x 1, ((t, (a, (c, (nw, (x % 16, (hr, r)))))), ())) := dbit_eq 1 (by decide) nw hr r
theorem dbit2 {x : Int} (nw hr : Bool) (r : _) : S_impl_decoder_bit ((2, ()), ((t, (a, (c, (nw, (x % 16, (hr, r)))))), ())) = some (extM x 2, ((t, (a, (c, (nw, (x % 16, (hr, r)))))), ())) := dbit_eq 2 (by decide) nw hr r
theorem dbit3 {x : Int} (nw hr : Bool) (r : _) : S_impl_decoder_bit ((3, ()), ((t, (a, (c, (nw, (x % 16, (hr, r)))))), ())) = some (extM x 3, ((t, (a, (c, (nw, (x % 16, (hr, r)))))), ())) := dbit_eq 3 (by decide) nw hr r
theorem ext_le {x : Int} {k : Nat} (hk : k < 4) : 0 ≤ extM x k ∧ extM x k ≤ 8 ∧ (x = 0 → extM x k = 0) := by
  rcases ext_range (x := x) hk with h | h <;> omega
theorem shl_small {b : Int} (h0 : 0 ≤ b) (h1 : b < 256) : ishl .i64 1 (b / 64) = 2 ^ (b / 64).toNat := by
  have : b / 64 = 0 ∨ b / 64 = 1 ∨ b / 64 = 2 ∨ b / 64 = 3 := by omega
  rcases this with h | h | h | h <;> rw [h] <;> decide
theorem ex_ret {α : Type} {o : Option α} {f : Int → Int → α} {p : Int → Int → Prop} (h : Ret o fun y => ∃ a c, y = f a c ∧ p a c) : ∃ a c, o = some (f a c) ∧ p a c := by
  obtain ⟨y, e, a, c, rfl, h⟩ := h
  exact ⟨a, c, e, h⟩
theorem dplace_eq {x m z : Int} (hm0 : 0 ≤ m) (hm : m < 256) (nw : Bool) (op z0 z1 z2 : Int) (z3 : Bool) (z4 rg : Int) (r : _)
    (hl : (t.length : Int) ≤ 1099511627776) (hp : (posOf a c).In t) :
    ∃ a' c', S_impl_decoder_place ((z, ()), (t, a, c, nw, x % 16, decide (x ≠ 0), op, z0, z1, z2, z3, z4, m / 64, rg, m % 8, r), ()) =
      some (tOpd (plM t x m z (posOf a c)).1 (), (t, a', c', nw, x % 16, decide (x ≠ 0), op, z0, z1, z2, z3, z4, m / 64, rg, m % 8, r), ()) ∧ posOf a' c' = (plM t x m z (posOf a c)).2 := by
  have hmd : 0 ≤ m / 64 ∧ m / 64 ≤ 3 := by omega
  have hrm : 0 ≤ m % 8 ∧ m % 8 ≤ 7 := by omega
  unfold S_impl_decoder_place plM
  dsimp only [p12, p14]
  generalize m / 64 = md at hmd ⊢
  generalize m % 8 = rm at hrm ⊢
  obtain ⟨e0, e8, ez⟩ := ext_le (x := x) (k := 0) (by decide)
  have ⟨f0, f8, _⟩ := ext_le (x := x) (k := 1) (by decide)
  by_cases h3 : md = 3
  · rw [br_pos (eq_t h3), if_pos h3, dbit0, bnd_s]
    dsimp only
    rw [addI_id (by omega) (by omega), dreg_eq (by omega) (by omega) (by omega), bnd_s]
    exact ⟨a, c, rfl, rfl⟩
  · rw [br_neg (eq_f h3), if_neg h3, dbit0, bnd_s]
    dsimp only
    unfold memM
    by_cases h4 : rm = 4
    · rw [br_pos (eq_t h4), if_pos h4]
      obtain ⟨a1, c1, hn, hq⟩ := dnext_eq 1 (nw, x % 16, decide (x ≠ 0), op, z0, z1, z2, z3, z4, md, rg, rm, r)  (by decide) (by decide) hl hp
      rw [hn, bnd_s]
      dsimp only
      rw [dbit0, bnd_s, dbit1, bnd_s]
      dsimp only
      rw [← hq]
      have hb := rdU1_range t (posOf a c) hp
      generalize rdU t 1 (posOf a c) = b at hb ⊢
      obtain ⟨b6, b3, b0, _⟩ := bI hb.1 hb.2
      rw [b6, b3, b0, addI_id (by omega) (by omega), addI_id (by omega) (by omega), shl_small hb.1 hb.2]
      refine ex_ret (Ret.bnd (Q := fun y => y = Sum.inl ((decide (md = 2 ∨ md = 0 ∧ b % 8 = 5), ()), (t, a1, c1, nw, x % 16, decide (x ≠ 0), op, z0, z1, z2, z3, z4, md, rg, rm, r), (0, 0, 0, 0, 0, 0, 0, ()),
        (2, 0, (if md = 0 ∧ b % 8 = 5 then -1 else b % 8 + extM x 0), (if b / 8 % 8 + extM x 1 = 4 then -1 else b / 8 % 8 + extM x 1), (if b / 8 % 8 + extM x 1 = 4 then 1 else 2 ^ (b / 64).toNat), 0, 0, ()), ())) ?_ ?_)
      · have hle : leI 0 (b / 64) = true := le_t (by omega)
        by_cases hA : b / 8 % 8 + extM x 1 = 4 <;> by_cases hB : md = 0 <;> by_cases hC : b % 8 = 5 <;>
          simp [b0, hle, hA, hB, hC, eqI, notB, br, bnd, sumE, Ret]
      · rintro _ rfl
        rw [sumE_l]
        dsimp only [p12, d6]
        have hin : (posOf a1 c1).In t := by rw [hq]; exact hp.adv (by decide)
        by_cases hW : md = 2 ∨ md = 0 ∧ b % 8 = 5
        · rw [br_pos (decide_eq_true hW)]
          obtain ⟨a2, c2, hn2, hq2⟩ := dnumber_eq 4 (nw, x % 16, decide (x ≠ 0), op, z0, z1, z2, z3, z4, md, rg, rm, r) (by decide) (by decide) hl hin
          have hd : dspW md rm b = 4 := by unfold dspW; repeat' split
                                           all_goals omega
          rw [hn2, bnd_s, hd]
          exact Ret.some ⟨a2, c2, rfl, hq2⟩
        · rw [br_neg (decide_eq_false hW)]
          by_cases h1 : md = 1
          · rw [br_pos (eq_t h1)]
            obtain ⟨a2, c2, hn2, hq2⟩ := dnumber_eq 1 (nw, x % 16, decide (x ≠ 0), op, z0, z1, z2, z3, z4, md, rg, rm, r) (by decide) (by decide) hl hin
            have hd : dspW md rm b = 1 := by unfold dspW; repeat' split
                                             all_goals omega
            rw [hn2, bnd_s, hd]
            exact Ret.some ⟨a2, c2, rfl, hq2⟩
          · rw [br_neg (eq_f h1)]
            have hd : dspW md rm b = 0 := by unfold dspW; repeat' split
                                             all_goals omega
            rw [hd]
            exact Ret.some ⟨a1, c1, rfl, rfl⟩
    · rw [br_neg (eq_f h4), if_neg h4]
      refine ex_ret (Ret.bnd (Q := fun y => y = Sum.inl ((decide (md = 2 ∨ md = 0 ∧ rm = 5), ()), (t, a, c, nw, x % 16, decide (x ≠ 0), op, z0, z1, z2, z3, z4, md, rg, rm, r), (0, 0, 0, 0, 0, 0, 0, ()),
        (2, 0, (if md = 0 ∧ rm = 5 then 16 else rm + extM x 0), -1, 1, 0, 0, ()), ())) ?_ ?_)
      · rw [addI_id (by omega) (by omega)]
        by_cases hB : md = 0 <;> by_cases hC : rm = 5 <;>
          simp [hB, hC, eqI, br, bnd, sumE, Ret]
      · rintro _ rfl
        rw [sumE_l]
        dsimp only [p12, d6]
        by_cases hR : rm = 5 ∧ md = 0
        · rw [br_pos (decide_eq_true (.inr ⟨hR.2, hR.1⟩)), if_pos ⟨hR.2, hR.1⟩, if_pos hR]
          obtain ⟨a2, c2, hn2, hq2⟩ := dnumber_eq 4 (nw, x % 16, decide (x ≠ 0), op, z0, z1, z2, z3, z4, md, rg, rm, r) (by decide) (by decide) hl hp
          rw [hn2, bnd_s]
          exact Ret.some ⟨a2, c2, rfl, hq2⟩
        · rw [if_neg (fun g => hR ⟨g.2, g.1⟩), if_neg hR]
          by_cases hW : md = 2
          · rw [br_pos (decide_eq_true (.inl hW))]
            obtain ⟨a2, c2, hn2, hq2⟩ := dnumber_eq 4 (nw, x % 16, decide (x ≠ 0), op, z0, z1, z2, z3, z4, md, rg, rm, r) (by decide) (by decide) hl hp
            have hd : dspW md rm 0 = 4 := by unfold dspW; rw [if_pos hW]
            rw [hn2, bnd_s, hd]
            exact Ret.some ⟨a2, c2, rfl, hq2⟩
          · rw [br_neg (decide_eq_false (fun g => g.elim hW fun g => hR ⟨g.2, g.1⟩))]
            by_cases h1 : md = 1
            · rw [br_pos (eq_t h1)]
              obtain ⟨a2, c2, hn2, hq2⟩ := dnumber_eq 1 (nw, x % 16, decide (x ≠ 0), op, z0, z1, z2, z3, z4, md, rg, rm, r) (by decide) (by decide) hl hp
              have hd : dspW md rm 0 = 1 := by unfold dspW; rw [if_neg hW, if_pos h1]
              rw [hn2, bnd_s, hd]
              exact Ret.some ⟨a2, c2, rfl, hq2⟩
            · rw [br_neg (eq_f h1)]
              have hd : dspW md rm 0 = 0 := by unfold dspW; repeat' split
                                               all_goals omega
              rw [hd]
              exact Ret.some ⟨a, c, rfl, rfl⟩
end
end Go.Den.G
namespace Go.Den.G
open Go.Den
set_option maxRecDepth 100000

/-! ### operands: the model, and the program -/
def noD : Opd := ⟨0, 0, 0, 0, 0, 0, 0⟩
def srcB (op : Int) : Bool := decide (op = 13 ∨ op = 14 ∨ op = 15 ∨ op = 16 ∨ op = 31 ∨ op = 32 ∨ op = 29)
def oneM (t : List UInt8) (op z : Int) (q : Opd × Pos) : Opd × Opd × Pos :=
  if srcB op = true then (noD, q.1, q.2) else if op = 10 then (q.1, immD (rdS t (imin 4 z) q.2), adv t (imin 4 z) q.2) else (q.1, noD, q.2)
def opsM (t : List UInt8) (f frm op z x b m : Int) (p : Pos) : Opd × Opd × Pos :=
  if f = 1 then ((plM t x m z p).1, regD (regNo x (m / 8 % 8 + extM x 2) z), (plM t x m z p).2)
  else if f = 2 then (regD (regNo x (m / 8 % 8 + extM x 2) z), (plM t x m z p).1, (plM t x m z p).2)
  else if f = 17 then (regD (regNo x (m / 8 % 8 + extM x 2) z), (plM t x m frm p).1, (plM t x m frm p).2)
  else if f = 3 then (regD 0, immD (rdS t (imin 4 z) p), adv t (imin 4 z) p)
  else if f = 4 then ((plM t x m z p).1, immD (rdS t 1 (plM t x m z p).2), adv t 1 (plM t x m z p).2)
  else if f = 5 then ((plM t x m z p).1, immD (rdS t (imin 4 z) (plM t x m z p).2), adv t (imin 4 z) (plM t x m z p).2)
  else if f = 6 then oneM t op z (plM t x m z p)
  else if f = 7 then (if op = 29 then (noD, regD (b % 8 + extM x 0), p) else (regD (b % 8 + extM x 0), noD, p))
  else if f = 8 then (regD (regNo x (b % 8 + extM x 0) z), immD (rdS t z p), adv t z p)
  else if f = 9 then (noD, immD (rdS t 1 p), adv t 1 p)
  else if f = 15 then (noD, immD (if op = 44 then rdU t 1 p else rdS t 1 p), adv t 1 p)
  else if f = 10 ∨ f = 16 then (noD, immD (rdS t 4 p), adv t 4 p)
  else if f = 11 then ((plM t x m z p).1, immD (rdU t 1 (plM t x m z p).2), adv t 1 (plM t x m z p).2)
  else if f = 12 then ((plM t x m z p).1, immD 1, (plM t x m z p).2)
  else if f = 13 then ((plM t x m z p).1, regD 1, (plM t x m z p).2)
  else (noD, noD, p)
section
variable {t : List UInt8} {a c : Int}
theorem dspP_in {w : Int} {p : Pos} (h : p.In t) (hw : 0 ≤ w) : (dspP t w p).In t := by
  unfold dspP; split
  · exact h
  · exact h.adv hw
theorem dspW_pos (mod rm b : Int) : 0 ≤ dspW mod rm b := by unfold dspW; (repeat' split) <;> decide
theorem plM_in {x m z : Int} {p : Pos} (h : p.In t) : (plM t x m z p).2.In t := by
  unfold plM memM
  split
  · exact h
  · split
    · exact dspP_in (h.adv (by decide)) (dspW_pos ..)
    · split
      · exact dspP_in h (show (0 : Int) ≤ 4 by decide)
      · exact dspP_in h (dspW_pos ..)
theorem imin_sz {z : Int} (h : sizeP z) : 1 ≤ imin 4 z ∧ imin 4 z ≤ 8 := by
  unfold sizeP at h
  rcases h with rfl | rfl | rfl | rfl <;> decide
theorem dimm_eq {nw : Bool} {rx : Int} {hr : Bool} {q6 q7 q8 q9 : Int} {q10 : Bool} {q11 q12 q13 q14 q15 : Int} {z : Int} (r : _) (hz : sizeP z) (hl : (t.length : Int) ≤ 1099511627776) (hp : (posOf a c).In t) :
    ∃ a' c', S_impl_decoder_immediate ((), (t, a, c, nw, rx, hr, q6, q7, q8, q9, q10, q11, q12, q13, q14, q15, z, r), ()) =
      some (tOpd (immD (rdS t (imin 4 z) (posOf a c))) (), (t, a', c', nw, rx, hr, q6, q7, q8, q9, q10, q11, q12, q13, q14, q15, z, r), ()) ∧ posOf a' c' = adv t (imin 4 z) (posOf a c) := by
  obtain ⟨a', c', e, h⟩ := dnumber_eq (imin 4 z) (nw, rx, hr, q6, q7, q8, q9, q10, q11, q12, q13, q14, q15, z, r) (imin_sz hz).1 (imin_sz hz).2 hl hp
  unfold S_impl_decoder_immediate S_impl_immOf
  dsimp only [p16]
  rw [e, bnd_s, bnd_s]
  exact ⟨a', c', rfl, h⟩
theorem sw1 {α β : Type} {a b : Bool} {r : α} : br a (some (Sum.inl ((a, ()), r) : Sum ((Bool × Unit) × α) β)) (some (Sum.inl ((b, ()), r))) = some (Sum.inl ((a || b, ()), r)) := by cases a <;> rfl
theorem sw2 {α β γ : Type} {a b : Bool} {r : α} {y : γ} : br a (some (Sum.inl ((y, a, ()), r) : Sum ((γ × Bool × Unit) × α) β)) (some (Sum.inl ((y, b, ()), r))) = some (Sum.inl ((y, a || b, ()), r)) := by cases a <;> rfl
theorem srcB_eq (op : Int) : (eqI op 13 || (eqI op 14 || (eqI op 15 || (eqI op 16 || (eqI op 31 || (eqI op 32 || eqI op 29)))))) = srcB op := by
  rw [Bool.eq_iff_iff]; simp [srcB, eqI]
theorem done_eq {x m z : Int} (hm0 : 0 ≤ m) (hm : m < 256) (nw : Bool) (q6 q7 q8 q9 : Int) (q10 : Bool) (q11 q13 op : Int) (hz : sizeP z) (hl : (t.length : Int) ≤ 1099511627776) (hp : (posOf a c).In t) :
    ∃ a' c', S_impl_decoder_onePlace ((), (t, a, c, nw, x % 16, decide (x ≠ 0), q6, q7, q8, q9, q10, q11, m / 64, q13, m % 8, op, z, 0, 0, 0, 0, 0, 0, 0, 0, 0, 0, 0, 0, 0, 0, 0, 0, 0, ()), ()) =
      some ((), (t, a', c', nw, x % 16, decide (x ≠ 0), q6, q7, q8, q9, q10, q11, m / 64, q13, m % 8, op, z, 0, 0, tOpd (oneM t op z (plM t x m z (posOf a c))).1 (tOpd (oneM t op z (plM t x m z (posOf a c))).2.1 (0, ()))), ()) ∧
      posOf a' c' = (oneM t op z (plM t x m z (posOf a c))).2.2 := by
  obtain ⟨a1, c1, e, h⟩ := dplace_eq (x := x) (z := z) hm0 hm nw q6 q7 q8 q9 q10 q11 q13 (op, z, 0, 0, 0, 0, 0, 0, 0, 0, 0, 0, 0, 0, 0, 0, 0, 0, 0, ()) hl hp
  have hin : (posOf a1 c1).In t := by rw [h]; exact plM_in hp
  unfold S_impl_decoder_onePlace
  dsimp only [p16, p15]
  rw [e, bnd_s]
  dsimp only
  simp only [sw1, bnd_s, sumE_l, srcB_eq]
  unfold oneM
  cases hs : srcB op with
  | true =>
    rw [br_t, bnd_s, sumE_r, if_pos rfl]
    exact ⟨a1, c1, rfl, h⟩
  | false =>
    rw [br_f, bnd_s, sumE_l, if_neg (by decide)]
    by_cases h10 : op = 10
    · rw [br_pos (eq_t h10), if_pos h10]
      obtain ⟨a2, c2, e2, h2⟩ := dimm_eq (nw := nw) (rx := x % 16) (hr := decide (x ≠ 0)) (q6 := q6) (q7 := q7) (q8 := q8) (q9 := q9) (q10 := q10) (q11 := q11) (q12 := m / 64) (q13 := q13) (q14 := m % 8) (q15 := op) (0, 0, tOpd (plM t x m z (posOf a c)).1 (0, 0, 0, 0, 0, 0, 0, 0, ())) hz hl hin
      refine ex_ret (Ret.bnd (Q := fun y => y = _) (Ret.of_eq e2 rfl) ?_)
      rintro _ rfl
      rw [← h]
      exact Ret.some ⟨a2, c2, rfl, h2⟩
    · rw [br_neg (eq_f h10), if_neg h10]
      exact ⟨a1, c1, rfl, h⟩
end
end Go.Den.G
namespace Go.Den.G
open Go.Den
set_option maxRecDepth 100000
section
variable {t : List UInt8} {a c : Int}
theorem bI7 (b : Int) (h0 : 0 ≤ b) (h1 : b < 256) : iand .i64 b 7 = b % 8 := (bI h0 h1).2.2.1
theorem sz18 {z : Int} (h : sizeP z) : 1 ≤ z ∧ z ≤ 8 := by unfold sizeP at h; omega
theorem doperands_eq {x m z f frm b op : Int} (hm0 : 0 ≤ m) (hm : m < 256) (hb0 : 0 ≤ b) (hb : b < 256) (nw : Bool) (z0 z2 : Int) (z3 : Bool) (hz : (f = 3 ∨ f = 5 ∨ f = 6 ∨ f = 8) → sizeP z) (hl : (t.length : Int) ≤ 1099511627776) (hp : (posOf a c).In t) :
    ∃ a' c', S_impl_decoder_operands ((), (t, a, c, nw, x % 16, decide (x ≠ 0), b, z0, f, z2, z3, frm, m / 64, m / 8 % 8, m % 8, op, z, 0, 0, 0, 0, 0, 0, 0, 0, 0, 0, 0, 0, 0, 0, 0, 0, 0, ()), ()) =
      some ((), (t, a', c', nw, x % 16, decide (x ≠ 0), b, z0, f, z2, z3, frm, m / 64, m / 8 % 8, m % 8, op, z, 0, (if f = 17 then frm else 0), tOpd (opsM t f frm op z x b m (posOf a c)).1 (tOpd (opsM t f frm op z x b m (posOf a c)).2.1 (0, ()))), ()) ∧
      posOf a' c' = (opsM t f frm op z x b m (posOf a c)).2.2 := by
  obtain ⟨e0, e8, ez⟩ := ext_le (x := x) (k := 0) (by decide)
  obtain ⟨g0, g8, gz⟩ := ext_le (x := x) (k := 2) (by decide)
  unfold S_impl_decoder_operands opsM
  dsimp only [p13, p16, p8, p15, p11, p6]
  rw [dbit2, bnd_s]
  dsimp only
  rw [addI_id (by omega) (by omega), dreg_eq (by omega) (by omega) (by omega), bnd_s]
  dsimp only
  by_cases f1 : f = 1
  · rw [br_pos (eq_t f1), if_pos f1, if_neg (by omega)]
    obtain ⟨a1, c1, e, h⟩ := dplace_eq (x := x) (z := z) hm0 hm nw b z0 f z2 z3 frm (m / 8 % 8) (op, z, 0, 0, 0, 0, 0, 0, 0, 0, 0, 0, 0, 0, 0, 0, 0, 0, 0, ()) hl hp
    rw [e, bnd_s]
    exact ⟨a1, c1, rfl, h⟩
  rw [br_neg (eq_f f1), if_neg f1]
  by_cases f2 : f = 2
  · rw [br_pos (eq_t f2), if_pos f2, if_neg (by omega)]
    obtain ⟨a1, c1, e, h⟩ := dplace_eq (x := x) (z := z) hm0 hm nw b z0 f z2 z3 frm (m / 8 % 8) (op, z, 0, 0, 0, 0, 0, 0, 0, 0, 0, 0, 0, 0, 0, 0, 0, 0, 0, ()) hl hp
    rw [e, bnd_s]
    exact ⟨a1, c1, rfl, h⟩
  rw [br_neg (eq_f f2), if_neg f2]
  by_cases f17 : f = 17
  · rw [br_pos (eq_t f17), if_pos f17, if_pos f17]
    obtain ⟨a1, c1, e, h⟩ := dplace_eq (x := x) (z := frm) hm0 hm nw b z0 f z2 z3 frm (m / 8 % 8) (op, z, 0, frm, 0, 0, 0, 0, 0, 0, 0, 0, 0, 0, 0, 0, 0, 0, 0, ()) hl hp
    rw [e, bnd_s]
    exact ⟨a1, c1, rfl, h⟩
  rw [br_neg (eq_f f17), if_neg f17, if_neg f17]
  by_cases f3 : f = 3
  · rw [br_pos (eq_t f3), if_pos f3]
    obtain ⟨a2, c2, e2, h2⟩ := dimm_eq (nw := nw) (rx := x % 16) (hr := decide (x ≠ 0)) (q6 := b) (q7 := z0) (q8 := f) (q9 := z2) (q10 := z3) (q11 := frm) (q12 := m / 64) (q13 := m / 8 % 8) (q14 := m % 8) (q15 := op) (0, 0, tOpd (regD 0) (0, 0, 0, 0, 0, 0, 0, 0, ())) (hz (by omega)) hl hp
    refine ex_ret (Ret.bnd (Q := fun y => y = (tOpd (regD 0) (), ())) (Ret.some rfl) ?_)
    rintro _ rfl
    refine Ret.bnd (Q := fun y => y = _) (Ret.of_eq e2 rfl) ?_
    rintro _ rfl
    exact Ret.some ⟨a2, c2, rfl, h2⟩
  rw [br_neg (eq_f f3), if_neg f3]
  by_cases f4 : f = 4
  · rw [br_pos (eq_t f4), if_pos f4]
    obtain ⟨a1, c1, e, h⟩ := dplace_eq (x := x) (z := z) hm0 hm nw b z0 f z2 z3 frm (m / 8 % 8) (op, z, 0, 0, 0, 0, 0, 0, 0, 0, 0, 0, 0, 0, 0, 0, 0, 0, 0, ()) hl hp
    have hin : (posOf a1 c1).In t := by rw [h]; exact plM_in hp
    obtain ⟨a2, c2, e2, h2⟩ := dnumber_eq 1 (nw, x % 16, decide (x ≠ 0), b, z0, f, z2, z3, frm, m / 64, m / 8 % 8, m % 8, op, z, 0, 0, tOpd (plM t x m z (posOf a c)).1 (0, 0, 0, 0, 0, 0, 0, 0, ())) (by decide) (by decide) hl hin
    rw [e, bnd_s]
    refine ex_ret (Ret.bnd (Q := fun y => y = _) (Ret.of_eq e2 rfl) ?_)
    rintro _ rfl
    rw [← h]
    exact Ret.some ⟨a2, c2, rfl, h2⟩
  rw [br_neg (eq_f f4), if_neg f4]
  by_cases f5 : f = 5
  · rw [br_pos (eq_t f5), if_pos f5]
    obtain ⟨a1, c1, e, h⟩ := dplace_eq (x := x) (z := z) hm0 hm nw b z0 f z2 z3 frm (m / 8 % 8) (op, z, 0, 0, 0, 0, 0, 0, 0, 0, 0, 0, 0, 0, 0, 0, 0, 0, 0, ()) hl hp
    have hin : (posOf a1 c1).In t := by rw [h]; exact plM_in hp
    obtain ⟨a2, c2, e2, h2⟩ := dimm_eq (nw := nw) (rx := x % 16) (hr := decide (x ≠ 0)) (q6 := b) (q7 := z0) (q8 := f) (q9 := z2) (q10 := z3) (q11 := frm) (q12 := m / 64) (q13 := m / 8 % 8) (q14 := m % 8) (q15 := op) (0, 0, tOpd (plM t x m z (posOf a c)).1 (0, 0, 0, 0, 0, 0, 0, 0, ())) (hz (by omega)) hl hin
    rw [e, bnd_s]
    refine ex_ret (Ret.bnd (Q := fun y => y = _) (Ret.of_eq e2 rfl) ?_)
    rintro _ rfl
    rw [← h]
    exact Ret.some ⟨a2, c2, rfl, h2⟩
  rw [br_neg (eq_f f5), if_neg f5]
  by_cases f6 : f = 6
  · rw [br_pos (eq_t f6), if_pos f6]
    obtain ⟨a1, c1, e, h⟩ := done_eq (x := x) (z := z) hm0 hm nw b z0 f z2 z3 frm (m / 8 % 8) op (hz (by omega)) hl hp
    rw [e, bnd_s]
    exact ⟨a1, c1, rfl, h⟩
  rw [br_neg (eq_f f6), if_neg f6]
  by_cases f7 : f = 7
  · rw [br_pos (eq_t f7), if_pos f7, dbit0, bnd_s, bI7 b hb0 hb]
    dsimp only
    rw [addI_id (by omega) (by omega)]
    by_cases ho : op = 29
    · rw [if_pos ho, eq_t ho]
      exact ⟨a, c, rfl, rfl⟩
    · rw [if_neg ho, eq_f ho]
      exact ⟨a, c, rfl, rfl⟩
  rw [br_neg (eq_f f7), if_neg f7]
  by_cases f8 : f = 8
  · rw [br_pos (eq_t f8), if_pos f8, dbit0, bnd_s, bI7 b hb0 hb]
    dsimp only
    rw [addI_id (by omega) (by omega), dreg_eq (by omega) (by omega) (by omega), bnd_s]
    obtain ⟨s1, s8⟩ := sz18 (hz (by omega))
    obtain ⟨a2, c2, e2, h2⟩ := dnumber_eq z (nw, x % 16, decide (x ≠ 0), b, z0, f, z2, z3, frm, m / 64, m / 8 % 8, m % 8, op, z, 0, 0, tOpd (regD (regNo x (b % 8 + extM x 0) z)) (0, 0, 0, 0, 0, 0, 0, 0, ())) s1 s8 hl hp
    refine ex_ret (Ret.bnd (Q := fun y => y = _) (Ret.of_eq e2 rfl) ?_)
    rintro _ rfl
    exact Ret.some ⟨a2, c2, rfl, h2⟩
  rw [br_neg (eq_f f8), if_neg f8]
  by_cases f9 : f = 9
  · rw [br_pos (eq_t f9), if_pos f9]
    obtain ⟨a2, c2, e2, h2⟩ := dnumber_eq 1 (nw, x % 16, decide (x ≠ 0), b, z0, f, z2, z3, frm, m / 64, m / 8 % 8, m % 8, op, z, 0, 0, 0, 0, 0, 0, 0, 0, 0, 0, 0, 0, 0, 0, 0, 0, 0, ()) (by decide) (by decide) hl hp
    rw [e2, bnd_s]
    exact ⟨a2, c2, rfl, h2⟩
  rw [br_neg (eq_f f9), if_neg f9]
  by_cases f15 : f = 15
  · rw [br_pos (eq_t f15), if_pos f15]
    obtain ⟨a2, c2, e2, h2⟩ := dnext_eq 1 (nw, x % 16, decide (x ≠ 0), b, z0, f, z2, z3, frm, m / 64, m / 8 % 8, m % 8, op, z, 0, 0, 0, 0, 0, 0, 0, 0, 0, 0, 0, 0, 0, 0, 0, 0, 0, ()) (by decide) (by decide) hl hp
    rw [e2, bnd_s]
    dsimp only
    by_cases ho : op = 44
    · rw [if_pos ho, eq_t ho, notB_t, br_f, bnd_s, sumE_l]
      exact ⟨a2, c2, rfl, h2⟩
    · rw [if_neg ho, eq_f ho, notB_f, br_t, sign_eq _ _ (by decide) (by decide), bnd_s, bnd_s, sumE_l]
      exact ⟨a2, c2, rfl, h2⟩
  rw [br_neg (eq_f f15), if_neg f15]
  simp only [sw2, bnd_s, sumE_l]
  by_cases f10 : f = 10 ∨ f = 16
  · rw [br_pos (by simpa [eqI] using f10), if_pos f10]
    obtain ⟨a2, c2, e2, h2⟩ := dnumber_eq 4 (nw, x % 16, decide (x ≠ 0), b, z0, f, z2, z3, frm, m / 64, m / 8 % 8, m % 8, op, z, 0, 0, 0, 0, 0, 0, 0, 0, 0, 0, 0, 0, 0, 0, 0, 0, 0, ()) (by decide) (by decide) hl hp
    rw [e2, bnd_s]
    exact ⟨a2, c2, rfl, h2⟩
  rw [br_neg (by simpa [eqI] using f10), if_neg f10]
  by_cases f11 : f = 11
  · rw [br_pos (eq_t f11), if_pos f11]
    obtain ⟨a1, c1, e, h⟩ := dplace_eq (x := x) (z := z) hm0 hm nw b z0 f z2 z3 frm (m / 8 % 8) (op, z, 0, 0, 0, 0, 0, 0, 0, 0, 0, 0, 0, 0, 0, 0, 0, 0, 0, ()) hl hp
    have hin : (posOf a1 c1).In t := by rw [h]; exact plM_in hp
    obtain ⟨a2, c2, e2, h2⟩ := dnext_eq 1 (nw, x % 16, decide (x ≠ 0), b, z0, f, z2, z3, frm, m / 64, m / 8 % 8, m % 8, op, z, 0, 0, tOpd (plM t x m z (posOf a c)).1 (0, 0, 0, 0, 0, 0, 0, 0, ())) (by decide) (by decide) hl hin
    rw [e, bnd_s]
    refine ex_ret (Ret.bnd (Q := fun y => y = _) (Ret.of_eq e2 rfl) ?_)
    rintro _ rfl
    rw [← h]
    exact Ret.some ⟨a2, c2, rfl, h2⟩
  rw [br_neg (eq_f f11), if_neg f11]
  by_cases f12 : f = 12
  · rw [br_pos (eq_t f12), if_pos f12]
    obtain ⟨a1, c1, e, h⟩ := dplace_eq (x := x) (z := z) hm0 hm nw b z0 f z2 z3 frm (m / 8 % 8) (op, z, 0, 0, 0, 0, 0, 0, 0, 0, 0, 0, 0, 0, 0, 0, 0, 0, 0, ()) hl hp
    rw [e, bnd_s]
    exact ⟨a1, c1, rfl, h⟩
  rw [br_neg (eq_f f12), if_neg f12]
  by_cases f13 : f = 13
  · rw [br_pos (eq_t f13), if_pos f13]
    obtain ⟨a1, c1, e, h⟩ := dplace_eq (x := x) (z := z) hm0 hm nw b z0 f z2 z3 frm (m / 8 % 8) (op, z, 0, 0, 0, 0, 0, 0, 0, 0, 0, 0, 0, 0, 0, 0, 0, 0, 0, ()) hl hp
    rw [e, bnd_s]
    exact ⟨a1, c1, rfl, h⟩
  rw [br_neg (eq_f f13), if_neg f13]
  exact ⟨a, c, rfl, rfl⟩
end
end Go.Den.G

