/- Theory for the proofs of this claim: see its last text. -/
import Derived.Test.YthgjocpbmnpjjaaFnEscapeImage
import Derived.Test.YthgjocpbmnpjjaaDenF
import Derived.KernelRfl
namespace Go.Den.G
open Go.Den
set_option maxRecDepth 100000
set_option linter.unusedVariables false
/-- Is it said: true? -/
def saysT : Option (Bool × Unit) → Bool
  | some (true, _) => true
  | _ => false
theorem saysT_eq {o : Option (Bool × Unit)} (h : saysT o = true) : o = some (true, ()) := by
  cases o with
  | none => cases h
  | some x => obtain ⟨b, _⟩ := x; cases b with
    | true => rfl
    | false => cases h
/-- Numbers from 0 on. -/
def upto (n : Nat) (p : Int → Bool) : Bool := (List.range n).all fun k => p (k : Nat)
theorem upto_spec {n : Nat} {p : Int → Bool} (h : upto n p = true) {i : Int} (h0 : 0 ≤ i) (h1 : i < n) : p i = true := by
  obtain ⟨k, rfl⟩ := Int.eq_ofNat_of_zero_le h0
  exact List.all_eq_true.1 h k (List.mem_range.2 (by omega))
end Go.Den.G
namespace Go.Den.G
open Go.Den
set_option maxRecDepth 100000
set_option linter.unusedVariables false
theorem escapes1 : upto 64 (fun n => saysT (S_laws_FnExactEscapeImage ((n, ()), ()))) = true := by kernel_rfl
theorem escapes2 : upto 64 (fun n => saysT (S_laws_FnExactEscapeImage ((n + 64, ()), ()))) = true := by kernel_rfl
theorem escapes3 : upto 64 (fun n => saysT (S_laws_FnExactEscapeImage ((n + 128, ()), ()))) = true := by kernel_rfl
theorem escapes4 : upto 64 (fun n => saysT (S_laws_FnExactEscapeImage ((n + 192, ()), ()))) = true := by kernel_rfl
theorem l01In_eq0 (a b c : Int) : S_spec_l01In ((a, (b, (c, ()))), ()) = some (decide (b ≤ a) && decide (a ≤ c), ()) := by
  unfold S_spec_l01In
  dsimp only
  by_cases h : b ≤ a
  · rw [br_pos (le_t h), bnd_s]; simp [leI, h]
  · rw [br_neg (le_f h), bnd_s]; simp [h]
theorem within_eq0 (a b c : Int) : S_impl_within ((a, (b, (c, ()))), ()) = some (decide (b ≤ a) && decide (a ≤ c), ()) := l01In_eq0 a b c
theorem specOut (n : Int) (hb : (decide (0 ≤ n) && decide (n ≤ 255)) = false) : S_spec_EscapeImage ((n, ()), ()) = some (((0, ([], ())), (4, ())), ()) := by
  unfold S_spec_EscapeImage
  rw [l01In_eq0, bnd_s]
  dsimp only
  rw [hb, notB_not, Bool.not_false, br_t]
theorem implOut (n : Int) (hb : (decide (0 ≤ n) && decide (n ≤ 255)) = false) : S_impl_EscapeImage ((n, ()), ()) = some (((0, ()), (4, ())), ([], ())) := by
  unfold S_impl_EscapeImage S_impl_isByte
  dsimp only
  rw [within_eq0, bnd_s, bnd_s]
  dsimp only
  rw [hb, notB_not, Bool.not_false, br_t]
theorem law_same (n : Int) (hb : (decide (0 ≤ n) && decide (n ≤ 255)) = false) : S_laws_FnExactEscapeImage ((n, ()), ()) = S_laws_FnExactEscapeImage ((-1, ()), ()) := by
  unfold S_laws_FnExactEscapeImage
  rw [specOut n hb, implOut n hb, specOut (-1) rfl, implOut (-1) rfl]
theorem escapeOut : S_laws_FnExactEscapeImage ((-1, ()), ()) = some (true, ()) := by kernel_rfl
theorem escapeLaw (n : Int) : S_laws_FnExactEscapeImage ((n, ()), ()) = some (true, ()) := by
  by_cases hn : 0 ≤ n ∧ n ≤ 255
  · by_cases h1 : n < 64
    · exact saysT_eq (upto_spec escapes1 hn.1 (by show n < ((64 : Nat) : Int); omega))
    · by_cases h2 : n < 128
      · have := saysT_eq (upto_spec escapes2 (i := n - 64) (by omega) (by show n - 64 < ((64 : Nat) : Int); omega))
        rwa [show n - 64 + 64 = n by omega] at this
      · by_cases h3 : n < 192
        · have := saysT_eq (upto_spec escapes3 (i := n - 128) (by omega) (by show n - 128 < ((64 : Nat) : Int); omega))
          rwa [show n - 128 + 128 = n by omega] at this
        · have := saysT_eq (upto_spec escapes4 (i := n - 192) (by omega) (by show n - 192 < ((64 : Nat) : Int); omega))
          rwa [show n - 192 + 192 = n by omega] at this
  · have hb : (decide (0 ≤ n) && decide (n ≤ 255)) = false := by
      by_cases h0 : 0 ≤ n
      · have : ¬ n ≤ 255 := fun h => hn ⟨h0, h⟩
        simp [this]
      · simp [h0]
    rw [law_same n hb]
    exact escapeOut
/-- The law: EscapeImage returns what the reference's returns. -/
theorem pure_EscapeImage (y : VTL.Ty [.int .i64]) (h : VTL.wf [.int .i64] y) : S_laws_FnExactEscapeImage (y, ()) = some (true, ()) := escapeLaw y.1
end Go.Den.G
