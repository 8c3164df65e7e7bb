/- Theory for the proofs of this claim: see its last text. -/
import Derived.Test.YthgjocpbmnpjjaaFnMutantOf
import Derived.Test.YthgjocpbmnpjjaaDenF
import Derived.KernelRfl
namespace Go.Den.G
open Go.Den
set_option maxRecDepth 100000
/-- Is it said: true? -/
def saysT : Option (Bool × Unit) → Bool
  | some (true, _) => true
  | _ => false
theorem saysT_eq {o : Option (Bool × Unit)} (h : saysT o = true) : o = some (true, ()) := by
  cases o with
  | none => cases h
  | some x => obtain ⟨b, _⟩ := x; cases b with
    | true => rfl
    | false => cases h
/-- Numbers from 0 on. -/
def upto (n : Nat) (p : Int → Bool) : Bool := (List.range n).all fun k => p (k : Nat)
theorem upto_spec {n : Nat} {p : Int → Bool} (h : upto n p = true) {i : Int} (h0 : 0 ≤ i) (h1 : i < n) : p i = true := by
  obtain ⟨k, rfl⟩ := Int.eq_ofNat_of_zero_le h0
  exact List.all_eq_true.1 h k (List.mem_range.2 (by omega))
/-- Is a number in a list? -/
theorem hasInt_eq (xs : List Int) (v : Int) (hx : xs.length ≤ 1000000000) : S_spec_l09HasInt ((xs, (v, ())), ()) = some (decide (v ∈ xs), ()) := by
  unfold S_spec_l09HasInt
  simp only [lenL_nat]
  refine (iter_eq (fun x => x.1.1 = xs ∧ x.1.2.1 = v ∧ 0 ≤ x.1.2.2.1 ∧ x.1.2.2.1 ≤ (xs.length : Int)) (fun x => xs.length - x.1.2.2.1.toNat) (fun x => some (decide (v ∈ xs.drop x.1.2.2.1.toNat), ())) ?_ F _ ?_ ?_).trans ?_
  · rintro ⟨⟨ys, u, i, _⟩, _⟩ rec ⟨h2, h3, h0, h1⟩ hrec
    dsimp only at h0 h1 h2 h3 hrec ⊢
    subst h2 h3
    by_cases hi : i < ys.length
    · obtain ⟨n, rfl⟩ := Int.eq_ofNat_of_zero_le h0
      have hn : n < ys.length := by omega
      rw [br_pos (lt_t hi), br_pos (inR_t h0 hi), getL_nat hn, Int.toNat_natCast, List.drop_eq_getElem_cons hn]
      by_cases e : ys[n] = u
      · rw [br_pos (eq_t e)]; simp [e]
      · rw [br_neg (eq_f e), add_id (by unfold I64; omega), hrec _ ⟨rfl, rfl, by dsimp only; omega, by dsimp only; omega⟩ (by dsimp only; omega)]
        dsimp only
        rw [show ((n : Int) + 1).toNat = n + 1 by omega]
        have e' : ¬ u = ys[n] := fun h => e h.symm
        simp only [List.mem_cons, e', false_or]
    · rw [br_neg (lt_f hi), List.drop_eq_nil_of_le (by omega)]; simp
  · exact ⟨rfl, rfl, by simp, by simp⟩
  · simp [F]; omega
  · simp
def idxI (v : Int) : List Int → Nat → Int
  | [], _ => -1
  | x :: r, i => if x = v then (i : Int) else idxI v r (i + 1)
theorem idxI_mem {v : Int} : ∀ {xs : List Int} {i : Nat}, decide (0 ≤ idxI v xs i) = decide (v ∈ xs)
  | [], _ => by simp [idxI]
  | x :: r, i => by
    rw [idxI]
    by_cases h : x = v
    · rw [if_pos h]; simp [h]
    · have h' : ¬ v = x := fun e => h e.symm
      rw [if_neg h, idxI_mem (xs := r)]; simp [h']
theorem indexInt_eq (xs : List Int) (v : Int) (hx : xs.length ≤ 1000000000) : S_slices_Index_int ((xs, (v, ())), ()) = some (idxI v xs 0, ()) := by
  unfold S_slices_Index_int
  simp only [lenL_nat]
  refine (iter_eq (fun x => x.1.1 = xs ∧ x.1.2.1 = v ∧ x.1.2.2.1 = (xs.length : Int) ∧ 0 ≤ x.1.2.2.2.1 ∧ x.1.2.2.2.1 ≤ (xs.length : Int)) (fun x => xs.length - x.1.2.2.2.1.toNat) (fun x => some (idxI v (xs.drop x.1.2.2.2.1.toNat) x.1.2.2.2.1.toNat, ())) ?_ F _ ?_ ?_).trans ?_
  · rintro ⟨⟨ys, u, l, i, _⟩, _⟩ rec ⟨h2, h3, h4, h0, h1⟩ hrec
    dsimp only at h0 h1 h2 h3 h4 hrec ⊢
    subst h2 h3 h4
    by_cases hi : i < ys.length
    · obtain ⟨n, rfl⟩ := Int.eq_ofNat_of_zero_le h0
      have hn : n < ys.length := by omega
      rw [br_pos (lt_t hi), br_pos (inR_t h0 hi), getL_nat hn, Int.toNat_natCast, List.drop_eq_getElem_cons hn, idxI]
      by_cases e : ys[n] = u
      · rw [br_pos (eq_t (by first | exact e | exact e.symm)), if_pos e]
      · rw [br_neg (eq_f (by first | exact e | exact fun h => e h.symm)), if_neg e, add_id (by unfold I64; omega), hrec _ ⟨rfl, rfl, rfl, by dsimp only; omega, by dsimp only; omega⟩ (by dsimp only; omega)]
        rfl
    · rw [br_neg (lt_f hi), List.drop_eq_nil_of_le (by omega)]; rfl
  · exact ⟨rfl, rfl, rfl, by simp, by simp⟩
  · simp [F]; omega
  · rfl
theorem contains_eq (xs : List Int) (v : Int) (hx : xs.length ≤ 1000000000) : S_slices_Contains_int ((xs, (v, ())), ()) = some (decide (v ∈ xs), ()) := by
  unfold S_slices_Contains_int
  rw [indexInt_eq xs v hx, bnd_s]
  show some (decide (0 ≤ idxI v xs 0), ()) = _
  rw [idxI_mem]
end Go.Den.G
namespace Go.Den.G
open Go.Den
set_option maxRecDepth 100000
def rules12 : List Int := [11, 19, 20, 21, 22, 23, 24, 25, 26, 27, 28, 29]
theorem specRules : S_spec_RulesList ((), ()) = some (rules12, ()) := rfl
theorem implRules : S_impl_RulesList ((), ()) = some (rules12, ()) := rfl
/-- All mutants. -/
theorem mutants_all : rules12.all (fun r => upto 16 fun n => saysT (S_laws_FnExactMutantOf ((r, (n, ())), ()))) = true := by kernel_rfl
theorem inB_eq (a b c : Int) : S_spec_l01In ((a, (b, (c, ()))), ()) = some (decide (b ≤ a) && decide (a ≤ c), ()) := by
  unfold S_spec_l01In
  dsimp only
  by_cases h : b ≤ a
  · rw [br_pos (le_t h), bnd_s]; simp [leI, h]
  · rw [br_neg (le_f h), bnd_s]; simp [h]
theorem within_eq' (a b c : Int) : S_impl_within ((a, (b, (c, ()))), ()) = some (decide (b ≤ a) && decide (a ≤ c), ()) := inB_eq a b c
theorem mutantLaw (r n : Int) : S_laws_FnExactMutantOf ((r, (n, ())), ()) = some (true, ()) := by
  by_cases hr : r ∈ rules12
  · by_cases hn : 0 ≤ n ∧ n ≤ 15
    · exact saysT_eq (upto_spec (List.all_eq_true.1 mutants_all r hr) hn.1 (by show n < ((16 : Nat) : Int); omega))
    · have e1 : S_spec_MutantOf ((r, (n, ())), ()) = some (([], (0, (4, ()))), ()) := by
        unfold S_spec_MutantOf
        rw [specRules, bnd_s, hasInt_eq _ _ (by decide), bnd_s]
        dsimp only
        rw [show decide (r ∈ rules12) = true from decide_eq_true hr, notB_not, Bool.not_true, br_f, inB_eq, bnd_s]
        dsimp only
        rw [show (decide (0 ≤ n) && decide (n ≤ 15)) = false by simp; omega]
        rfl
      have e2 : S_impl_MutantOf ((r, (n, ())), ()) = some (([], (0, (4, ()))), ()) := by
        unfold S_impl_MutantOf
        rw [implRules, bnd_s, contains_eq _ _ (by decide), bnd_s]
        dsimp only
        rw [show decide (r ∈ rules12) = true from decide_eq_true hr, notB_not, Bool.not_true, br_f, within_eq', bnd_s]
        dsimp only
        rw [show (decide (0 ≤ n) && decide (n ≤ 15)) = false by simp; omega]
        rfl
      unfold S_laws_FnExactMutantOf
      rw [e1, bnd_s, e2]
      rfl
  · have e1 : S_spec_MutantOf ((r, (n, ())), ()) = some (([], (0, (3, ()))), ()) := by
      unfold S_spec_MutantOf
      rw [specRules, bnd_s, hasInt_eq _ _ (by decide), bnd_s]
      dsimp only
      rw [show decide (r ∈ rules12) = false from decide_eq_false hr]
      rfl
    have e2 : S_impl_MutantOf ((r, (n, ())), ()) = some (([], (0, (3, ()))), ()) := by
      unfold S_impl_MutantOf
      rw [implRules, bnd_s, contains_eq _ _ (by decide), bnd_s]
      dsimp only
      rw [show decide (r ∈ rules12) = false from decide_eq_false hr]
      rfl
    unfold S_laws_FnExactMutantOf
    rw [e1, bnd_s, e2]
    rfl
/-- The law: MutantOf returns what the reference's returns. -/
theorem pure_MutantOf (y : VTL.Ty [.int .i64, .int .i64]) (h : VTL.wf [.int .i64, .int .i64] y) : S_laws_FnExactMutantOf (y, ()) = some (true, ()) :=
  mutantLaw y.1 y.2.1
end Go.Den.G
