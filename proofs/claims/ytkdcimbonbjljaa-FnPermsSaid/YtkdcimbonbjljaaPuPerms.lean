/- Theory for the proofs of this claim: see its last text. -/
import Derived.Test.YtkdcimbonbjljaaFnPerms
import Derived.Test.YtkdcimbonbjljaaDenF
import Derived.KernelRfl
import Derived.Lib.Repeat
section
set_option linter.unusedVariables false
noncomputable section
namespace Go.Den.G
def S_spec_l01In (x1 : ((Int × (Int × (Int × Unit))) × Unit)) : Option (Bool × Unit) :=
  (bnd (br (leI x1.1.2.1 x1.1.1) (some (leI x1.1.1 x1.1.2.2.1)) (some Bool.false)) (fun (x2 : Bool) => (some (x2, ()))))
def S_spec_l02Base (x1 : ((Int × Unit) × Unit)) : Option (Bool × Unit) :=
  (bnd (S_spec_l01In ((x1.1.1, (0, (65535, ()))), ())) (fun (x2 : (Bool × Unit)) => (bnd (br x2.1 (some (eqI (remI x1.1.1 256) 0)) (some Bool.false)) (fun (x3 : Bool) => (some (x3, ()))))))
def S_spec_l02Perm (x1 : ((Int × Unit) × Unit)) : Option (Bool × Unit) :=
  (bnd (S_spec_l01In ((x1.1.1, (0, (7, ()))), ())) (fun (x2 : (Bool × Unit)) => (some x2)))
def S_spec_MemoryOK (x1 : ((((List Page) × Unit) × Unit) × Unit)) : Option (Bool × Unit) :=
  (br (ltI 32 (lenL x1.1.1.1)) (some (Bool.false, ())) (iter (σ := ((Int × Unit) × (((List Page) × Unit) × Unit))) F (fun (x2 : (((Int × Unit) × (((List Page) × Unit) × Unit)) → (Option (Bool × Unit)))) => (fun (x3 : ((Int × Unit) × (((List Page) × Unit) × Unit))) => (br (ltI x3.1.1 (lenL x3.2.1.1)) (br (inR x3.1.1 (lenL x3.2.1.1)) (bnd (S_spec_l02Base (((getL x3.2.1.1 x3.1.1 (dflt .page)).base, ()), ())) (fun (x4 : (Bool × Unit)) => (br (notB x4.1) (some (Bool.false, ())) (bnd (S_spec_l02Perm (((getL x3.2.1.1 x3.1.1 (dflt .page)).perm, ()), ())) (fun (x5 : (Bool × Unit)) => (br (notB x5.1) (some (Bool.false, ())) (br (notB (eqI (lenL (getL x3.2.1.1 x3.1.1 (dflt .page)).data) 256)) (some (Bool.false, ())) (br (ltI 0 x3.1.1) (br (inR (subI IntKind.i64 x3.1.1 1) (lenL x3.2.1.1)) (br (leI (getL x3.2.1.1 x3.1.1 (dflt .page)).base (getL x3.2.1.1 (subI IntKind.i64 x3.1.1 1) (dflt .page)).base) (some (Bool.false, ())) (x2 (((addI IntKind.i64 x3.1.1 1), ()), x3.2))) none) (x2 (((addI IntKind.i64 x3.1.1 1), ()), x3.2)))))))))) none) (some (Bool.true, ()))))) ((0, ()), x1.1)))
def S_spec_l01Size (x1 : ((Int × Unit) × Unit)) : Option (Bool × Unit) :=
  (bnd (br (eqI x1.1.1 1) (some Bool.true) (some (eqI x1.1.1 2))) (fun (x2 : Bool) => (bnd (br x2 (some Bool.true) (some (eqI x1.1.1 4))) (fun (x3 : Bool) => (bnd (br x3 (some Bool.true) (some (eqI x1.1.1 8))) (fun (x4 : Bool) => (some (x4, ()))))))))
def S_spec_l02Find (x1 : ((((List Page) × Unit) × (Int × Unit)) × Unit)) : Option (Int × Unit) :=
  (iter (σ := ((Int × (Int × Unit)) × (((List Page) × Unit) × Unit))) F (fun (x2 : (((Int × (Int × Unit)) × (((List Page) × Unit) × Unit)) → (Option (Int × Unit)))) => (fun (x3 : ((Int × (Int × Unit)) × (((List Page) × Unit) × Unit))) => (br (ltI x3.1.2.1 (lenL x3.2.1.1)) (br (inR x3.1.2.1 (lenL x3.2.1.1)) (bnd (br (leI (getL x3.2.1.1 x3.1.2.1 (dflt .page)).base x3.1.1) (br (inR x3.1.2.1 (lenL x3.2.1.1)) (some (ltI (subI IntKind.i64 x3.1.1 (getL x3.2.1.1 x3.1.2.1 (dflt .page)).base) 256)) none) (some Bool.false)) (fun (x4 : Bool) => (br x4 (some x3.1.2) (x2 ((x3.1.1, ((addI IntKind.i64 x3.1.2.1 1), ())), x3.2))))) none) (some ((-1), ()))))) ((x1.1.2.1, (0, ())), (x1.1.1, ())))
def S_spec_l02Fault (x1 : ((((List Page) × Unit) × (Int × (Int × (Int × Unit)))) × Unit)) : Option (Int × Unit) :=
  (iter (σ := ((Int × (Int × (Int × (Int × Unit)))) × (((List Page) × Unit) × Unit))) F (fun (x2 : (((Int × (Int × (Int × (Int × Unit)))) × (((List Page) × Unit) × Unit)) → (Option (Int × Unit)))) => (fun (x3 : ((Int × (Int × (Int × (Int × Unit)))) × (((List Page) × Unit) × Unit))) => (br (ltI x3.1.2.2.2.1 x3.1.2.1) (bnd (S_spec_l01In ((x3.1.1, ((subI IntKind.i64 0 x3.1.2.1), (65535, ()))), ())) (fun (x4 : (Bool × Unit)) => (br (notB x4.1) (some (13, ())) (bnd (S_spec_l02Find ((x3.2.1, ((addI IntKind.i64 x3.1.1 x3.1.2.2.2.1), ())), ())) (fun (x5 : (Int × Unit)) => (br (ltI x5.1 0) (some (13, ())) (br (inR x5.1 (lenL x3.2.1.1)) (br (eqI (iand IntKind.i64 (getL x3.2.1.1 x5.1 (dflt .page)).perm x3.1.2.2.1) 0) (some (14, ())) (x2 ((x3.1.1, (x3.1.2.1, (x3.1.2.2.1, ((addI IntKind.i64 x3.1.2.2.2.1 1), ())))), x3.2))) none))))))) (some (0, ()))))) ((x1.1.2.1, (x1.1.2.2.1, (x1.1.2.2.2.1, (0, ())))), (x1.1.1, ())))
def S_spec_l01Little (x1 : ((Int × (Int × Unit)) × Unit)) : Option ((List UInt8) × Unit) :=
  (iter (σ := ((Int × (Int × (Int × Unit))) × ((List Int) × Unit))) F (fun (x2 : (((Int × (Int × (Int × Unit))) × ((List Int) × Unit)) → (Option ((List UInt8) × Unit)))) => (fun (x3 : ((Int × (Int × (Int × Unit))) × ((List Int) × Unit))) => (br (ltI x3.1.2.2.1 x3.1.2.1) (br (leI 0 (wrapI IntKind.u64 (mulI IntKind.i64 8 x3.1.2.2.1))) (br (fits2 x3.2.1 ((wrapI IntKind.u8 (ishr IntKind.u64 (wrapI IntKind.u64 x3.1.1) (wrapI IntKind.u64 (mulI IntKind.i64 8 x3.1.2.2.1)))) :: ([] : List Int))) (x2 ((x3.1.1, (x3.1.2.1, ((addI IntKind.i64 x3.1.2.2.1 1), ()))), ((appL x3.2.1 ((wrapI IntKind.u8 (ishr IntKind.u64 (wrapI IntKind.u64 x3.1.1) (wrapI IntKind.u64 (mulI IntKind.i64 8 x3.1.2.2.1)))) :: ([] : List Int))), ()))) none) none) (some ((toStr x3.2.1), ()))))) ((x1.1.1, (x1.1.2.1, (0, ()))), (([] : List Int), ())))
def S_spec_l02Own (x1 : ((((List Page) × Unit) × Unit) × Unit)) : Option (Unit × ((List Page) × Unit)) :=
  (br (fits2 ([] : List Page) x1.1.1.1) (some ((), ((appL ([] : List Page) x1.1.1.1), ()))) none)
def S_spec_l02Put (x1 : ((((List Page) × Unit) × (Int × ((List UInt8) × Unit))) × Unit)) : Option (((List Page) × Unit) × Unit) :=
  (bnd (S_spec_l02Own ((x1.1.1, ()), ())) (fun (x2 : (Unit × ((List Page) × Unit))) => (iter (σ := ((Int × ((List UInt8) × Unit)) × (Unit × ((List Page) × (Unit × Unit))))) F (fun (x3 : (((Int × ((List UInt8) × Unit)) × (Unit × ((List Page) × (Unit × Unit)))) → (Option (((List Page) × Unit) × Unit)))) => (fun (x4 : ((Int × ((List UInt8) × Unit)) × (Unit × ((List Page) × (Unit × Unit))))) => (br (ltI 0 (lenL x4.1.2.1)) (bnd (S_spec_l02Find (((x4.2.2.1, ()), (x4.1.1, ())), ())) (fun (x5 : (Int × Unit)) => (br (inR x5.1 (lenL x4.2.2.1)) (br (inR x5.1 (lenL x4.2.2.1)) (br (inC (subI IntKind.i64 x4.1.1 (getL x4.2.2.1 x5.1 (dflt .page)).base) (lenL (getL x4.2.2.1 x5.1 (dflt .page)).data)) (br (inC (imin (lenL x4.1.2.1) (subI IntKind.i64 256 (subI IntKind.i64 x4.1.1 (getL x4.2.2.1 x5.1 (dflt .page)).base))) (lenL x4.1.2.1)) (br (fits2 (takeL (getL x4.2.2.1 x5.1 (dflt .page)).data (subI IntKind.i64 x4.1.1 (getL x4.2.2.1 x5.1 (dflt .page)).base)) (takeL x4.1.2.1 (imin (lenL x4.1.2.1) (subI IntKind.i64 256 (subI IntKind.i64 x4.1.1 (getL x4.2.2.1 x5.1 (dflt .page)).base))))) (br (inC (addI IntKind.i64 (subI IntKind.i64 x4.1.1 (getL x4.2.2.1 x5.1 (dflt .page)).base) (imin (lenL x4.1.2.1) (subI IntKind.i64 256 (subI IntKind.i64 x4.1.1 (getL x4.2.2.1 x5.1 (dflt .page)).base)))) (lenL (getL x4.2.2.1 x5.1 (dflt .page)).data)) (br (fits2 (appL (takeL (getL x4.2.2.1 x5.1 (dflt .page)).data (subI IntKind.i64 x4.1.1 (getL x4.2.2.1 x5.1 (dflt .page)).base)) (takeL x4.1.2.1 (imin (lenL x4.1.2.1) (subI IntKind.i64 256 (subI IntKind.i64 x4.1.1 (getL x4.2.2.1 x5.1 (dflt .page)).base))))) (dropL (getL x4.2.2.1 x5.1 (dflt .page)).data (addI IntKind.i64 (subI IntKind.i64 x4.1.1 (getL x4.2.2.1 x5.1 (dflt .page)).base) (imin (lenL x4.1.2.1) (subI IntKind.i64 256 (subI IntKind.i64 x4.1.1 (getL x4.2.2.1 x5.1 (dflt .page)).base)))))) (br (inR x5.1 (lenL x4.2.2.1)) (br (inC (imin (lenL x4.1.2.1) (subI IntKind.i64 256 (subI IntKind.i64 x4.1.1 (getL x4.2.2.1 x5.1 (dflt .page)).base))) (lenL x4.1.2.1)) (x3 (((addI IntKind.i64 x4.1.1 (imin (lenL x4.1.2.1) (subI IntKind.i64 256 (subI IntKind.i64 x4.1.1 (getL x4.2.2.1 x5.1 (dflt .page)).base)))), ((dropL x4.1.2.1 (imin (lenL x4.1.2.1) (subI IntKind.i64 256 (subI IntKind.i64 x4.1.1 (getL x4.2.2.1 x5.1 (dflt .page)).base)))), ())), ((), ((setL x4.2.2.1 x5.1 (Page.mk (getL x4.2.2.1 x5.1 (dflt .page)).base (getL x4.2.2.1 x5.1 (dflt .page)).perm (appL (appL (takeL (getL x4.2.2.1 x5.1 (dflt .page)).data (subI IntKind.i64 x4.1.1 (getL x4.2.2.1 x5.1 (dflt .page)).base)) (takeL x4.1.2.1 (imin (lenL x4.1.2.1) (subI IntKind.i64 256 (subI IntKind.i64 x4.1.1 (getL x4.2.2.1 x5.1 (dflt .page)).base))))) (dropL (getL x4.2.2.1 x5.1 (dflt .page)).data (addI IntKind.i64 (subI IntKind.i64 x4.1.1 (getL x4.2.2.1 x5.1 (dflt .page)).base) (imin (lenL x4.1.2.1) (subI IntKind.i64 256 (subI IntKind.i64 x4.1.1 (getL x4.2.2.1 x5.1 (dflt .page)).base)))))))), ((), ()))))) none) none) none) none) none) none) none) none) none))) (some ((x4.2.2.1, ()), ()))))) (x1.1.2, ((), (x2.2.1, ((), ())))))))
def S_spec_l02Store (x1 : ((((List Page) × Unit) × (Int × (Int × (Int × Unit)))) × Unit)) : Option ((((List Page) × Unit) × (Int × Unit)) × Unit) :=
  (bnd (S_spec_l02Fault ((x1.1.1, (x1.1.2.1, (x1.1.2.2.1, (2, ())))), ())) (fun (x2 : (Int × Unit)) => (br (notB (eqI x2.1 0)) (some ((x1.1.1, x2), ())) (bnd (S_spec_l01Little ((x1.1.2.2.2.1, (x1.1.2.2.1, ())), ())) (fun (x3 : ((List UInt8) × Unit)) => (bnd (S_spec_l02Put ((x1.1.1, (x1.1.2.1, x3)), ())) (fun (x4 : (((List Page) × Unit) × Unit)) => (some ((x4.1, (0, ())), ())))))))))
def S_spec_StoreAt (x1 : ((((List Page) × Unit) × (Int × (Int × (Int × Unit)))) × Unit)) : Option ((((List Page) × Unit) × (Int × Unit)) × Unit) :=
  (bnd (S_spec_MemoryOK ((x1.1.1, ()), ())) (fun (x2 : (Bool × Unit)) => (br (notB x2.1) (some (((([] : List Page), ()), (1, ())), ())) (bnd (S_spec_l01Size ((x1.1.2.2.1, ()), ())) (fun (x3 : (Bool × Unit)) => (br (notB x3.1) (some (((([] : List Page), ()), (4, ())), ())) (bnd (S_spec_l02Store x1) (fun (x4 : ((((List Page) × Unit) × (Int × Unit)) × Unit)) => (bnd (S_spec_l02Own ((x4.1.1, ()), ())) (fun (x5 : (Unit × ((List Page) × Unit))) => (some ((x5.2, x4.1.2), ()))))))))))))
end Go.Den.G
end
end
namespace Go.Den.G
open Go.Den

def pg (m : List Page) (i : Int) : Page := getL m i (dflt .page)
def inB (a b c : Int) : Bool := decide (b ≤ a) && decide (a ≤ c)
theorem l01In_eq (a b c : Int) : S_spec_l01In ((a, (b, (c, ()))), ()) = some (inB a b c, ()) := by
  unfold S_spec_l01In inB
  dsimp only
  by_cases h : b ≤ a
  · rw [br_pos (le_t h), bnd_s]; simp [leI, h]
  · rw [br_neg (le_f h), bnd_s]; simp [h]
theorem within_eq (a b c : Int) : S_impl_within ((a, (b, (c, ()))), ()) = some (inB a b c, ()) := l01In_eq a b c
def isBase (b : Int) : Bool := inB b 0 65535 && eqI (remI b 256) 0
def isPerm (p : Int) : Bool := inB p 0 7
theorem l02Base_eq (b : Int) : S_spec_l02Base ((b, ()), ()) = some (isBase b, ()) := by
  unfold S_spec_l02Base isBase
  rw [l01In_eq, bnd_s]
  dsimp only
  cases inB b 0 65535 <;> simp [br_t, br_f, bnd_s]
theorem isBase_eq (b : Int) : S_impl_isBase ((b, ()), ()) = some (isBase b, ()) := l02Base_eq b
theorem l02Perm_eq (b : Int) : S_spec_l02Perm ((b, ()), ()) = some (isPerm b, ()) := by
  unfold S_spec_l02Perm isPerm
  rw [l01In_eq, bnd_s]
theorem isPerm_eq (b : Int) : S_impl_isPerm ((b, ()), ()) = some (isPerm b, ()) := l02Perm_eq b

/-- Is the page right, behind the one ahead of it? -/
def good (m : List Page) (i : Int) : Bool :=
  isBase (pg m i).base && (isPerm (pg m i).perm && (eqI ((pg m i).data.length : Int) 256 && (!decide (0 < i) || ltI (pg m (i - 1)).base (pg m i).base)))
def okFrom (m : List Page) (i : Nat) : Bool := (List.range' i (m.length - i)).all fun j => good m j
theorem okFrom_step {m : List Page} {i : Nat} (h : i < m.length) : okFrom m i = (good m i && okFrom m (i + 1)) := by
  unfold okFrom
  rw [show m.length - i = (m.length - (i + 1)) + 1 by omega, List.range'_succ]
  rfl
theorem okFrom_end {m : List Page} {i : Nat} (h : m.length ≤ i) : okFrom m i = true := by
  unfold okFrom
  rw [show m.length - i = 0 by omega]; rfl
def memOK (m : List Page) : Bool := decide ((m.length : Int) ≤ 32) && okFrom m 0
/-- One page more is looked at. -/
theorem good_cases (m : List Page) (i : Nat) : good m i = (isBase (pg m i).base && (isPerm (pg m i).perm && (eqI ((pg m i).data.length : Int) 256 && (!decide (0 < (i : Int)) || ltI (pg m ((i : Int) - 1)).base (pg m i).base)))) := rfl
theorem le_not_lt (a b : Int) : leI a b = !ltI b a := by unfold leI ltI; by_cases h : a ≤ b <;> simp [h] <;> omega

theorem spec_MemoryOK_eq (m : List Page) (hm : (m.length : Int) < 4611686018427387904) : S_spec_MemoryOK (((m, ()), ()), ()) = some (memOK m, ()) := by
  unfold S_spec_MemoryOK memOK
  simp only [lenL_nat]
  by_cases h32 : (32 : Int) < m.length
  · rw [br_pos (lt_t h32)]; simp [show ¬ (m.length : Int) ≤ 32 by omega]
  · rw [br_neg (lt_f h32)]
    refine (iter_eq (fun x => x.2.1.1 = m ∧ 0 ≤ x.1.1 ∧ x.1.1 ≤ (m.length : Int)) (fun x => m.length - x.1.1.toNat) (fun x => some (okFrom m x.1.1.toNat, ())) ?_ F _ ?_ ?_).trans ?_
    · rintro ⟨⟨i, _⟩, ⟨xs, _⟩, _⟩ rec ⟨rfl, h0, h1⟩ hrec
      dsimp only at h0 h1 hrec hm h32 ⊢
      by_cases hi : i < xs.length
      · obtain ⟨n, rfl⟩ := Int.eq_ofNat_of_zero_le h0
        have hn : n < xs.length := by omega
        rw [br_pos (lt_t hi), br_pos (inR_t h0 hi), l02Base_eq, bnd_s]
        dsimp only
        have hst : rec (((addI IntKind.i64 (n : Int) 1), ()), ((xs, ()), ())) = some (okFrom xs (n + 1), ()) := by
          rw [add_id (by unfold I64; omega)]
          rw [hrec _ ⟨rfl, by dsimp only; omega, by dsimp only; omega⟩ (by dsimp only; omega)]
          rfl
        rw [hst, Int.toNat_natCast, okFrom_step hn, good_cases]
        show _ = some ((isBase (getL xs (n : Int) (dflt .page)).base && _) && _, ())
        cases isBase (getL xs (n : Int) (dflt .page)).base
        · rfl
        · rw [notB_not, Bool.not_true, br_f, l02Perm_eq, bnd_s]
          dsimp only
          show _ = some ((true && (isPerm (getL xs (n : Int) (dflt .page)).perm && _)) && _, ())
          cases isPerm (getL xs (n : Int) (dflt .page)).perm
          · rfl
          · rw [notB_not, Bool.not_true, br_f, notB_not]
            show _ = some ((true && (true && (eqI ((getL xs (n : Int) (dflt .page)).data.length : Int) 256 && _))) && _, ())
            cases eqI ((getL xs (n : Int) (dflt .page)).data.length : Int) 256
            · rfl
            · rw [Bool.not_true, br_f]
              by_cases hp : 0 < (n : Int)
              · rw [br_pos (lt_t hp), sub_id (by unfold I64; omega), br_pos (inR_t (by omega) (by omega)), le_not_lt]
                show _ = some ((true && (true && (true && (!decide (0 < (n : Int)) || ltI (getL xs ((n : Int) - 1) (dflt .page)).base (getL xs (n : Int) (dflt .page)).base)))) && _, ())
                rw [show decide (0 < (n : Int)) = true from decide_eq_true hp]
                cases ltI (getL xs ((n : Int) - 1) (dflt .page)).base (getL xs (n : Int) (dflt .page)).base
                · simp [br_t]
                · simp [br_f]
              · rw [br_neg (lt_f hp), show decide (0 < (n : Int)) = false from decide_eq_false hp]; simp
      · rw [br_neg (lt_f hi), okFrom_end (by omega)]
    · exact ⟨rfl, by simp, by simp⟩
    · simp [F]; omega
    · simp [show (m.length : Int) ≤ 32 by omega]
theorem impl_MemoryOK_eq (m : List Page) (hm : (m.length : Int) < 4611686018427387904) (hF : m.length < F) : S_impl_MemoryOK (((m, ()), ()), ()) = some (memOK m, ()) := by
  unfold S_impl_MemoryOK memOK
  simp only [lenL_nat]
  refine (iter_eq (fun x => x.2.1.1 = m ∧ x.1.1 = m ∧ x.1.2.1 = (m.length : Int) ∧ 0 ≤ x.1.2.2.1 ∧ x.1.2.2.1 ≤ (m.length : Int)) (fun x => m.length - x.1.2.2.1.toNat) (fun x => some (decide ((m.length : Int) ≤ 32) && okFrom m x.1.2.2.1.toNat, ())) ?_ F _ ?_ ?_).trans ?_
  · rintro ⟨⟨ys, len, i, _⟩, ⟨xs, _⟩, _⟩ rec ⟨rfl, h2, h3, h0, h1⟩ hrec
    dsimp only at h0 h1 h2 h3 hrec hm hF ⊢
    subst h2
    subst h3
    by_cases hi : i < ys.length
    · obtain ⟨n, rfl⟩ := Int.eq_ofNat_of_zero_le h0
      have hn : n < ys.length := by omega
      rw [br_pos (lt_t hi), br_pos (inR_t h0 hi), isBase_eq, bnd_s]
      dsimp only
      have hst : rec ((ys, ((ys.length : Int), ((addI IntKind.i64 (n : Int) 1), ()))), ((ys, ()), ())) = some (decide ((ys.length : Int) ≤ 32) && okFrom ys (n + 1), ()) := by
        rw [add_id (by unfold I64; omega)]
        rw [hrec _ ⟨rfl, rfl, rfl, by dsimp only; omega, by dsimp only; omega⟩ (by dsimp only; omega)]
        rfl
      rw [hst, Int.toNat_natCast, okFrom_step hn, good_cases]
      show _ = some (_ && ((isBase (getL ys (n : Int) (dflt .page)).base && _) && _), ())
      cases isBase (getL ys (n : Int) (dflt .page)).base
      · simp [notB_not, br_t]
      · rw [notB_not, Bool.not_true, br_f, isPerm_eq, bnd_s]
        dsimp only
        show _ = some (_ && ((true && (isPerm (getL ys (n : Int) (dflt .page)).perm && _)) && _), ())
        cases isPerm (getL ys (n : Int) (dflt .page)).perm
        · simp [notB_not, br_t]
        · rw [notB_not, Bool.not_true, br_f, notB_not]
          show _ = some (_ && ((true && (true && (eqI ((getL ys (n : Int) (dflt .page)).data.length : Int) 256 && _))) && _), ())
          cases eqI ((getL ys (n : Int) (dflt .page)).data.length : Int) 256
          · simp [br_t]
          · rw [Bool.not_true, br_f]
            by_cases hp : 0 < (n : Int)
            · rw [br_pos (lt_t hp), sub_id (by unfold I64; omega), br_pos (inR_t (by omega) (by omega)), le_not_lt]
              show _ = some (_ && ((true && (true && (true && (!decide (0 < (n : Int)) || ltI (getL ys ((n : Int) - 1) (dflt .page)).base (getL ys (n : Int) (dflt .page)).base)))) && _), ())
              rw [show decide (0 < (n : Int)) = true from decide_eq_true hp]
              cases ltI (getL ys ((n : Int) - 1) (dflt .page)).base (getL ys (n : Int) (dflt .page)).base
              · simp [br_t]
              · simp [br_f]
            · rw [br_neg (lt_f hp), show decide (0 < (n : Int)) = false from decide_eq_false hp]; simp
    · rw [br_neg (lt_f hi), okFrom_end (by omega)]
      simp [leI]
  · exact ⟨rfl, rfl, rfl, by simp, by simp⟩
  · simpa using hF
  · simp
end Go.Den.G
namespace Go.Den.G
open Go.Den
/-- The number that bytes are, the lowest first. -/
def leN : List UInt8 → Nat
  | [] => 0
  | b :: r => b.toNat + 256 * leN r
theorem leN_lt : ∀ (t : List UInt8), leN t < 256 ^ t.length
  | [] => by simp [leN]
  | b :: r => by
    have := leN_lt r
    have hb : b.toNat < 256 := b.toNat_lt
    simp only [leN, List.length_cons, Nat.pow_succ]
    omega
theorem leN_take : ∀ (t : List UInt8) (k : Nat) (h : k < t.length), leN (t.take (k + 1)) = leN (t.take k) + t[k].toNat * 256 ^ k
  | [], k, h => by simp at h
  | b :: r, 0, _ => by simp [leN]
  | b :: r, k + 1, h => by
    have hk : k < r.length := by simpa using h
    have := leN_take r k hk
    simp only [List.take_succ_cons, leN, List.getElem_cons_succ, Nat.pow_succ] at this ⊢
    rw [this, Nat.mul_add]
    have : 256 * (r[k].toNat * 256 ^ k) = r[k].toNat * (256 ^ k * 256) := by rw [Nat.mul_left_comm, Nat.mul_comm 256 (256 ^ k)]
    omega
theorem byteAt_nat {t : List UInt8} {k : Nat} (h : k < t.length) : byteAt t (k : Int) = (t[k].toNat : Int) := by simp [byteAt, h]
theorem ofInt_wrap (x : Int) : BitVec.ofInt 64 (IntKind.wrap .i64 x) = BitVec.ofInt 64 x := by
  apply BitVec.eq_of_toNat_eq
  simp only [BitVec.toNat_ofInt, IntKind.wrap, IntKind.bits, IntKind.signed, Bool.true_and, decide_eq_true_eq, ge_iff_le]
  simp only [show (2 : Int) ^ 64 = 18446744073709551616 from rfl, show (2 : Int) ^ (64 - 1) = 9223372036854775808 from rfl, show ((2 ^ 64 : Nat) : Int) = 18446744073709551616 from rfl]
  split <;> omega
theorem ior_disj (a c k : Nat) (ha : a < 2 ^ k) (hc : a + c * 2 ^ k < 18446744073709551616) : ior .i64 (a : Int) (IntKind.wrap .i64 ((c : Int) * 2 ^ k)) = IntKind.wrap .i64 ((a + c * 2 ^ k : Nat) : Int) := by
  unfold ior
  rw [show IntKind.i64.bits = 64 from rfl, ofInt_wrap]
  congr 1
  rw [BitVec.toNat_or]
  have e1 : (BitVec.ofInt 64 (a : Int)).toNat = a := by
    rw [BitVec.toNat_ofInt]; simp only [show ((2 ^ 64 : Nat) : Int) = 18446744073709551616 from rfl]; omega
  have e2 : (BitVec.ofInt 64 ((c : Int) * 2 ^ k)).toNat = c * 2 ^ k := by
    rw [BitVec.toNat_ofInt]; simp only [show ((2 ^ 64 : Nat) : Int) = 18446744073709551616 from rfl]
    rw [show ((c : Int) * 2 ^ k) = ((c * 2 ^ k : Nat) : Int) by simp]
    omega
  rw [e1, e2, Nat.or_comm, ← Nat.shiftLeft_eq, ← Nat.shiftLeft_add_eq_or_of_lt ha, Nat.shiftLeft_eq, Nat.add_comm]
theorem take_eq (t : List UInt8) (h8 : t.length ≤ 8) : S_impl_take ((t, ()), ()) = some (IntKind.wrap .i64 (leN t), ()) := by
  unfold S_impl_take
  simp only [lenL_nat]
  refine (iter_eq (fun x => x.1.1 = t ∧ x.1.2.2.1 = (t.length : Int) ∧ 0 ≤ x.1.2.2.2.1 ∧ x.1.2.2.2.1 ≤ (t.length : Int) ∧ x.1.2.1 = IntKind.wrap .i64 (leN (t.take x.1.2.2.2.1.toNat))) (fun x => t.length - x.1.2.2.2.1.toNat) (fun _ => some (IntKind.wrap .i64 (leN t), ())) ?_ F _ ?_ ?_)
  · rintro ⟨⟨s, acc, len, i, _⟩, _⟩ rec ⟨rfl, hz, h0, h1, h2⟩ hrec
    dsimp only at hz h0 h1 h2 hrec h8 ⊢
    subst hz
    by_cases hi : i < s.length
    · obtain ⟨n, rfl⟩ := Int.eq_ofNat_of_zero_le h0
      have hn : n < s.length := by omega
      have hlt := leN_lt (s.take n)
      rw [List.length_take, Nat.min_eq_left (by omega)] at hlt
      have hb : s[n].toNat < 256 := s[n].toNat_lt
      have hpow : 256 ^ n ≤ 256 ^ 7 := Nat.pow_le_pow_right (by decide) (by omega)
      rw [show (256 : Nat) ^ 7 = 72057594037927936 from rfl] at hpow
      have h256 : (256 : Nat) ^ n = 2 ^ (8 * n) := by rw [Nat.pow_mul]
      rw [Int.toNat_natCast] at h2
      rw [br_pos (lt_t hi), br_pos (inR_t h0 hi), mul_id (by unfold I64; omega), br_pos (le_t (by omega)), byteAt_nat hn, wrapI_id (by unfold I64; omega)]
      rw [hrec _ ⟨rfl, rfl, ?_, ?_, ?_⟩ ?_]
      · dsimp only; rw [add_id (by unfold I64; omega)]; omega
      · dsimp only; rw [add_id (by unfold I64; omega)]; omega
      · dsimp only
        rw [add_id (by unfold I64; omega), show ((n : Int) + 1).toNat = n + 1 by omega, leN_take s n hn, h2, wrap64_id (n := (leN (s.take n) : Int)) (by unfold I64; omega)]
        unfold ishl
        rw [show min (8 * (n : Int)).toNat IntKind.i64.bits = 8 * n by rw [show IntKind.i64.bits = 64 from rfl]; omega]
        have hmul : s[n].toNat * 256 ^ n ≤ 255 * 256 ^ n := Nat.mul_le_mul_right _ (by omega)
        have := ior_disj (leN (s.take n)) s[n].toNat (8 * n) (by rw [← h256]; exact hlt) (by rw [← h256]; omega)
        rw [this, h256]
      · dsimp only; rw [add_id (by unfold I64; omega)]; omega
    · obtain rfl : i = s.length := by omega
      rw [br_neg (lt_f hi), h2, Int.toNat_natCast, List.take_length]
  · refine ⟨rfl, rfl, by dsimp only; omega, by dsimp only; omega, ?_⟩
    rfl
  · simp [F]; omega
end Go.Den.G
namespace Go.Den.G
open Go.Den
/-- Right memory, as far as it is needed. -/
structure MemR (m : List Page) : Prop where
  len : m.length ≤ 32
  pg : ∀ x ∈ m, 0 ≤ x.base ∧ x.base ≤ 65280 ∧ x.base % 256 = 0 ∧ x.data.length = 256
theorem isBase_iff {b : Int} (h : isBase b = true) : 0 ≤ b ∧ b ≤ 65280 ∧ b % 256 = 0 := by
  simp only [isBase, inB, Bool.and_eq_true, decide_eq_true_eq, eqI] at h
  obtain ⟨⟨h0, h1⟩, h2⟩ := h
  have h2 : b.tmod 256 = 0 := h2
  rw [Int.tmod_eq_emod_of_nonneg h0] at h2
  omega
theorem memOK_r {m : List Page} (h : memOK m = true) : MemR m := by
  simp only [memOK, Bool.and_eq_true, decide_eq_true_eq, okFrom, List.all_eq_true] at h
  refine ⟨by omega, fun x hx => ?_⟩
  obtain ⟨i, hi, rfl⟩ := List.getElem_of_mem hx
  have := h.2 i (by rw [List.mem_range']; exact ⟨i, by omega, by omega⟩)
  unfold good pg at this
  rw [getL_nat hi] at this
  simp only [Bool.and_eq_true, eqI, decide_eq_true_eq] at this
  obtain ⟨h1, _, h3, _⟩ := this
  obtain ⟨a, b, c⟩ := isBase_iff h1
  exact ⟨a, b, c, by omega⟩
def findFrom (p : Page → Bool) : List Page → Nat → Int
  | [], _ => -1
  | x :: r, i => if p x = true then (i : Int) else findFrom p r (i + 1)
theorem findFrom_spec (p : Page → Bool) : ∀ (m : List Page) (i : Nat), (findFrom p m i = -1 ∧ ∀ x ∈ m, p x = false) ∨ ∃ j, ∃ h : j < m.length, findFrom p m i = ((i + j : Nat) : Int) ∧ p m[j] = true
  | [], _ => .inl ⟨rfl, by simp⟩
  | x :: r, i => by
    simp only [findFrom]
    cases hx : p x with
    | true => exact .inr ⟨0, by simp, by simp, by simpa using hx⟩
    | false =>
      rcases findFrom_spec p r (i + 1) with ⟨h1, h2⟩ | ⟨j, h, h1, h2⟩
      · refine .inl ⟨by simpa using h1, fun y hy => ?_⟩
        rcases List.mem_cons.1 hy with rfl | hy
        · exact hx
        · exact h2 y hy
      · refine .inr ⟨j + 1, by simp; omega, ?_, by simpa using h2⟩
        rw [if_neg (by simp), h1]
        congr 1; omega
theorem findFrom_none {p : Page → Bool} {m : List Page} {i : Nat} (h : ∀ x ∈ m, p x = false) : findFrom p m i = -1 := by
  rcases findFrom_spec p m i with h1 | ⟨j, hj, _, h2⟩
  · exact h1.1
  · rw [h _ (List.getElem_mem hj)] at h2; cases h2
/-- Does an address lie in a page? -/
def inPage (a : Int) (x : Page) : Bool := decide (x.base ≤ a) && decide (a - x.base < 256)
def fnd (m : List Page) (a : Int) : Int := findFrom (inPage a) m 0
theorem l02Find_eq (m : List Page) (hm : MemR m) (a : Int) (ha : I64 a) : S_spec_l02Find (((m, ()), (a, ())), ()) = some (fnd m a, ()) := by
  unfold S_spec_l02Find
  simp only [lenL_nat]
  refine (iter_eq (fun x => x.2.1.1 = m ∧ x.1.1 = a ∧ 0 ≤ x.1.2.1 ∧ x.1.2.1 ≤ (m.length : Int)) (fun x => m.length - x.1.2.1.toNat) (fun x => some (findFrom (inPage a) (m.drop x.1.2.1.toNat) x.1.2.1.toNat, ())) ?_ F _ ?_ ?_).trans ?_
  · rintro ⟨⟨b, i, _⟩, ⟨xs, _⟩, _⟩ rec ⟨h2, h3, h0, h1⟩ hrec
    dsimp only at h0 h1 h2 h3 hrec ⊢
    subst h2
    subst h3
    have hlen := hm.len
    by_cases hi : i < xs.length
    · obtain ⟨n, rfl⟩ := Int.eq_ofNat_of_zero_le h0
      have hn : n < xs.length := by omega
      rw [br_pos (lt_t hi), br_pos (inR_t h0 hi), getL_nat hn, Int.toNat_natCast, List.drop_eq_getElem_cons hn, findFrom]
      obtain ⟨p0, p1, _, _⟩ := hm.pg _ (List.getElem_mem hn)
      have hst : rec ((b, (addI IntKind.i64 (n : Int) 1, ())), ((xs, ()), ())) = some (findFrom (inPage b) (xs.drop (n + 1)) (n + 1), ()) := by
        rw [add_id (by unfold I64; omega)]
        rw [hrec _ ⟨rfl, rfl, by dsimp only; omega, by dsimp only; omega⟩ (by dsimp only; omega)]
        rfl
      rw [hst]
      unfold I64 at ha
      by_cases hb : xs[n].base ≤ b
      · rw [br_pos (le_t hb), br_pos (inR_t h0 hi), bnd_s, sub_id (by unfold I64; omega)]
        by_cases hc : b - xs[n].base < 256
        · rw [br_pos (lt_t hc), if_pos (by simp [inPage, hb, hc])]
        · rw [br_neg (lt_f hc), if_neg (by simp [inPage, hc])]
      · rw [br_neg (le_f hb), bnd_s, br_f, if_neg (by simp [inPage, hb])]
    · rw [br_neg (lt_f hi), List.drop_eq_nil_of_le (by omega)]; rfl
  · exact ⟨rfl, rfl, by simp, by simp⟩
  · have := hm.len; simp [F]; omega
  · rfl
theorem indexFunc_eq (m : List Page) (hm : MemR m) (a : Int) (h0 : 0 ≤ a) (h1 : a ≤ 65535) : S_slices_IndexFunc_implPage_cimpl_Memory_pageOf_1 ((m, ()), ((a, ()), ())) = some (fnd m a, ((a, ()), ())) := by
  unfold S_slices_IndexFunc_implPage_cimpl_Memory_pageOf_1 S_impl_Memory_pageOf_1
  simp only [lenL_nat]
  refine (iter_eq (fun x => x.1.1 = m ∧ x.1.2.1 = (m.length : Int) ∧ x.2.1.1 = a ∧ 0 ≤ x.1.2.2.1 ∧ x.1.2.2.1 ≤ (m.length : Int)) (fun x => m.length - x.1.2.2.1.toNat) (fun x => some (findFrom (inPage a) (m.drop x.1.2.2.1.toNat) x.1.2.2.1.toNat, ((a, ()), ()))) ?_ F _ ?_ ?_).trans ?_
  · rintro ⟨⟨xs, len, i, _⟩, ⟨b, _⟩, _⟩ rec ⟨h2, h3, h4, h5, h6⟩ hrec
    dsimp only at h5 h6 h2 h3 h4 hrec ⊢
    subst h2
    subst h3
    subst h4
    have hlen := hm.len
    by_cases hi : i < xs.length
    · obtain ⟨n, rfl⟩ := Int.eq_ofNat_of_zero_le h5
      have hn : n < xs.length := by omega
      rw [br_pos (lt_t hi), br_pos (inR_t h5 hi), bnd_s, getL_nat hn, Int.toNat_natCast, List.drop_eq_getElem_cons hn, findFrom]
      dsimp only
      obtain ⟨p0, p1, p2, _⟩ := hm.pg _ (List.getElem_mem hn)
      have hst : rec ((xs, ((xs.length : Int), (addI IntKind.i64 (n : Int) 1, ()))), ((b, ()), ())) = some (findFrom (inPage b) (xs.drop (n + 1)) (n + 1), ((b, ()), ())) := by
        rw [add_id (by unfold I64; omega)]
        rw [hrec _ ⟨rfl, rfl, rfl, by dsimp only; omega, by dsimp only; omega⟩ (by dsimp only; omega)]
        rfl
      rw [hst, show remI b 256 = b % 256 from Int.tmod_eq_emod_of_nonneg h0, sub_id (by unfold I64; omega)]
      by_cases hc : xs[n].base = b - b % 256
      · rw [br_pos (eq_t hc), if_pos (by simp only [inPage, Bool.and_eq_true, decide_eq_true_eq]; omega)]
      · rw [br_neg (eq_f hc), if_neg (by simp only [inPage, Bool.and_eq_true, decide_eq_true_eq]; omega)]
    · rw [br_neg (lt_f hi), List.drop_eq_nil_of_le (by omega)]; rfl
  · exact ⟨rfl, rfl, rfl, by simp, by simp⟩
  · have := hm.len; simp [F]; omega
  · rfl
theorem fnd_out {m : List Page} (hm : MemR m) {a : Int} (h : ¬ (0 ≤ a ∧ a ≤ 65535)) : fnd m a = -1 := by
  refine findFrom_none fun x hx => ?_
  obtain ⟨p0, p1, p2, _⟩ := hm.pg x hx
  simp only [inPage, Bool.and_eq_false_iff, decide_eq_false_iff_not]
  omega
theorem pageOf_eq (m : List Page) (hm : MemR m) (a : Int) : S_impl_Memory_pageOf (((m, ()), (a, ())), ()) = some (fnd m a, ()) := by
  unfold S_impl_Memory_pageOf
  rw [within_eq, bnd_s]
  dsimp only
  by_cases h : 0 ≤ a ∧ a ≤ 65535
  · rw [br_neg (by simp [notB, inB, h.1, h.2]), indexFunc_eq m hm a h.1 h.2, bnd_s]
  · rw [br_pos (by simp only [notB, inB, Bool.not_eq_true', Bool.and_eq_false_iff, decide_eq_false_iff_not]; omega), fnd_out hm h]
/-- Where an address is found. -/
theorem fnd_spec {m : List Page} (hm : MemR m) (a : Int) : fnd m a = -1 ∨ ∃ j, ∃ h : j < m.length, fnd m a = (j : Int) ∧ m[j].base ≤ a ∧ a - m[j].base < 256 ∧ 0 ≤ a ∧ a ≤ 65535 ∧ a - m[j].base = a % 256 ∧ m[j].data.length = 256 := by
  rcases findFrom_spec (inPage a) m 0 with ⟨h, _⟩ | ⟨j, hj, h1, h2⟩
  · exact .inl h
  · obtain ⟨p0, p1, p2, p3⟩ := hm.pg _ (List.getElem_mem hj)
    simp only [inPage, Bool.and_eq_true, decide_eq_true_eq] at h2
    exact .inr ⟨j, hj, by rw [Nat.zero_add] at h1; exact h1, h2.1, h2.2, by omega, by omega, by omega, p3⟩
end Go.Den.G
namespace Go.Den.G
open Go.Den
/-- Why bytes cannot be had, from the byte `k` on. -/
def faultR (m : List Page) (a perm : Int) : Nat → Int → Int
  | 0, _ => 0
  | j + 1, k => if fnd m (a + k) < 0 then 13 else if iand .i64 (getL m (fnd m (a + k)) (dflt .page)).perm perm = 0 then 14 else faultR m a perm j (k + 1)
theorem fault_none {m : List Page} (hm : MemR m) {a perm : Int} (h : ¬ (0 ≤ a ∧ a ≤ 65535)) (j : Nat) : faultR m a perm (j + 1) 0 = 13 := by
  rw [faultR, Int.add_zero, fnd_out hm h]; rfl
theorem fnd_inR {m : List Page} (hm : MemR m) {a : Int} (h : ¬ fnd m a < 0) : inR (fnd m a) (m.length : Int) = true := by
  rcases fnd_spec hm a with h1 | ⟨j, hj, h1, _⟩
  · rw [h1] at h; exact absurd (by decide) h
  · rw [h1]; exact inR_t (by omega) (by omega)
theorem spec_fault_eq (m : List Page) (hm : MemR m) (a perm : Int) (n : Nat) (hn : 1 ≤ n) (hn8 : n ≤ 64) (ha : I64 a) : S_spec_l02Fault (((m, ()), (a, ((n : Int), (perm, ())))), ()) = some (faultR m a perm n 0, ()) := by
  unfold S_spec_l02Fault
  simp only [lenL_nat]
  refine (iter_eq (fun x => x.2.1.1 = m ∧ x.1.1 = a ∧ x.1.2.1 = (n : Int) ∧ x.1.2.2.1 = perm ∧ 0 ≤ x.1.2.2.2.1 ∧ x.1.2.2.2.1 ≤ (n : Int) ∧ (x.1.2.2.2.1 = 0 ∨ (0 ≤ a ∧ a ≤ 65535))) (fun x => n - x.1.2.2.2.1.toNat) (fun x => some (faultR m a perm (n - x.1.2.2.2.1.toNat) x.1.2.2.2.1, ())) ?_ F _ ?_ ?_).trans ?_
  · rintro ⟨⟨b, l, p, i, _⟩, ⟨xs, _⟩, _⟩ rec ⟨h2, h3, h4, h5, h0, h1, h6⟩ hrec
    dsimp only at h0 h1 h2 h3 h4 h5 h6 hrec ⊢
    subst h2 h3 h4 h5
    by_cases hi : i < (n : Int)
    · obtain ⟨k, rfl⟩ := Int.eq_ofNat_of_zero_le h0
      rw [br_pos (lt_t hi), sub_id (by unfold I64; omega), l01In_eq, bnd_s]
      dsimp only
      have hst : n - ((k : Int)).toNat = (n - (k + 1)) + 1 := by omega
      rw [hst]
      by_cases hr : 0 ≤ b ∧ b ≤ 65535
      · rw [br_neg (by simp [notB, inB]; omega), add_id (by unfold I64; omega), l02Find_eq xs hm _ (by unfold I64; omega), bnd_s, faultR]
        dsimp only
        by_cases hf : fnd xs (b + k) < 0
        · rw [br_pos (lt_t hf), if_pos hf]
        · rw [br_neg (lt_f hf), if_neg hf, br_pos (fnd_inR hm hf)]
          by_cases hp : iand .i64 (getL xs (fnd xs (b + k)) (dflt .page)).perm p = 0
          · rw [br_pos (eq_t hp), if_pos hp]
          · rw [br_neg (eq_f hp), if_neg hp, add_id (by unfold I64; omega)]
            rw [hrec _ ⟨rfl, rfl, rfl, rfl, by dsimp only; omega, by dsimp only; omega, .inr hr⟩ (by dsimp only; omega)]
            dsimp only
            rw [show n - ((k : Int) + 1).toNat = n - (k + 1) by omega]
      · have hk : k = 0 := by omega
        subst hk
        rw [show ((0 : Nat) : Int) = 0 from rfl, fault_none hm hr]
        by_cases hin : inB b (0 - (n : Int)) 65535 = true
        · rw [br_neg (by rw [hin]; rfl), add_id (by unfold I64 at *; omega), l02Find_eq xs hm _ (by rw [Int.add_zero]; exact ha), bnd_s, Int.add_zero, fnd_out hm hr]
          rfl
        · rw [br_pos (by rw [Bool.not_eq_true] at hin; rw [hin]; rfl)]
    · have : i = n := by omega
      subst this
      rw [br_neg (lt_f hi), Int.toNat_natCast, Nat.sub_self]; rfl
  · exact ⟨rfl, rfl, rfl, rfl, by simp, by simp, .inl rfl⟩
  · simp [F]; omega
  · rfl
theorem impl_fault_eq (m : List Page) (hm : MemR m) (a perm : Int) (n : Nat) (hn8 : n ≤ 64) (ha : I64 a) (hp0 : perm ≠ 0) (hn : 1 ≤ n) : S_impl_Memory_fault (((m, ()), (a, ((n : Int), (perm, ())))), ()) = some (faultR m a perm n 0, ()) := by
  unfold S_impl_Memory_fault
  simp only [lenL_nat]
  refine (iter_eq (fun x => x.2.1.1 = m ∧ x.1.1 = a ∧ x.1.2.2.1 = (n : Int) ∧ x.1.2.1 = perm ∧ 0 ≤ x.1.2.2.2.1 ∧ x.1.2.2.2.1 ≤ (n : Int) ∧ (x.1.2.2.2.1 = 0 ∨ (0 ≤ a ∧ a ≤ 65535))) (fun x => n - x.1.2.2.2.1.toNat) (fun x => some (faultR m a perm (n - x.1.2.2.2.1.toNat) x.1.2.2.2.1, ())) ?_ F _ ?_ ?_).trans ?_
  · rintro ⟨⟨b, p, l, i, _⟩, ⟨xs, _⟩, _⟩ rec ⟨h2, h3, h4, h5, h0, h1, h6⟩ hrec
    dsimp only at h0 h1 h2 h3 h4 h5 h6 hrec ⊢
    subst h2 h3 h4 h5
    by_cases hi : i < (n : Int)
    · obtain ⟨k, rfl⟩ := Int.eq_ofNat_of_zero_le h0
      rw [br_pos (lt_t hi), pageOf_eq xs hm, bnd_s]
      dsimp only
      have hst : n - ((k : Int)).toNat = (n - (k + 1)) + 1 := by omega
      rw [hst]
      by_cases hr : 0 ≤ b ∧ b ≤ 65535
      · rw [add_id (by unfold I64; omega), faultR]
        by_cases hf : fnd xs (b + k) < 0
        · rw [br_pos (lt_t hf), if_pos hf]
        · rw [br_neg (lt_f hf), if_neg hf, br_pos (fnd_inR hm hf), br_pos (by rw [eq_f hp0]; rfl), bnd_s]
          by_cases hp : iand .i64 (getL xs (fnd xs (b + k)) (dflt .page)).perm p = 0
          · rw [br_pos (eq_t hp), if_pos hp]
          · rw [br_neg (eq_f hp), if_neg hp, add_id (by unfold I64; omega)]
            rw [hrec _ ⟨rfl, rfl, rfl, rfl, by dsimp only; omega, by dsimp only; omega, .inr hr⟩ (by dsimp only; omega)]
            dsimp only
            rw [show n - ((k : Int) + 1).toNat = n - (k + 1) by omega]
      · have hk : k = 0 := by omega
        subst hk
        rw [show ((0 : Nat) : Int) = 0 from rfl, fault_none hm hr, add_id (by unfold I64 at *; omega), Int.add_zero, fnd_out hm hr]
        rfl
    · have : i = n := by omega
      subst this
      rw [br_neg (lt_f hi), Int.toNat_natCast, Nat.sub_self]; rfl
  · exact ⟨rfl, rfl, rfl, rfl, by simp, by simp, .inl rfl⟩
  · simp [F]; omega
  · rfl
theorem faultR_ok {m : List Page} (hm : MemR m) {a perm : Int} : ∀ (j k0 : Nat), faultR m a perm j k0 = 0 → ∀ k, k0 ≤ k → k < k0 + j → ¬ fnd m (a + (k : Nat)) < 0
  | 0, k0, _, k, h1, h2 => by omega
  | j + 1, k0, h, k, h1, h2 => by
    rw [faultR] at h
    split at h
    · cases h
    · rename_i hf
      split at h
      · cases h
      · by_cases hk : k = k0
        · subst hk; exact hf
        · exact faultR_ok hm j (k0 + 1) (by exact_mod_cast h) k (by omega) (by omega)
/-- A byte that can be had. -/
def byteR (m : List Page) (a : Int) : Int := byteAt (getL m (fnd m a) (dflt .page)).data (a % 256)
theorem bytes_eq (m : List Page) (hm : MemR m) (a : Int) (n : Nat) (hn8 : n ≤ 64) (ha : I64 a) (hok : ∀ k, k < n → ¬ fnd m (a + (k : Nat)) < 0) : S_impl_Memory_bytes (((m, ()), (a, ((n : Int), ()))), ()) = some (toStr ((List.range n).map fun k => byteR m (a + (k : Nat))), ()) := by
  unfold S_impl_Memory_bytes
  simp only [lenL_nat]
  rw [br_pos (inC_t (by omega) (Int.le_refl _)), br_pos (inLim_t (by omega))]
  refine (iter_eq (fun x => x.2.1.1 = m ∧ x.1.1 = a ∧ x.1.2.1 = (n : Int) ∧ 0 ≤ x.1.2.2.1 ∧ x.1.2.2.1 ≤ (n : Int) ∧ x.2.2.1 = ((List.range x.1.2.2.1.toNat).map fun k => byteR m (a + (k : Nat))) ++ List.replicate (n - x.1.2.2.1.toNat) 0) (fun x => n - x.1.2.2.1.toNat) (fun _ => some (toStr ((List.range n).map fun k => byteR m (a + (k : Nat))), ())) ?_ F _ ?_ ?_)
  · rintro ⟨⟨b, l, i, _⟩, ⟨xs, _⟩, out, _⟩ rec ⟨h2, h3, h4, h0, h1, h5⟩ hrec
    dsimp only at h0 h1 h2 h3 h4 h5 hrec ⊢
    subst h2 h3 h4
    by_cases hi : i < (n : Int)
    · obtain ⟨k, rfl⟩ := Int.eq_ofNat_of_zero_le h0
      rw [Int.toNat_natCast] at h5
      have hk := hok k (by omega)
      rcases fnd_spec hm (b + k) with h7 | ⟨j, hj, h7, h8, h9, h10, h11, h12, h13⟩
      · rw [h7] at hk; exact absurd (by decide) hk
      · have hb : I64 (b + k) := by unfold I64; omega
        have hol : out.length = n := by rw [h5]; simp; omega
        rw [br_pos (lt_t hi), add_id hb, pageOf_eq xs hm, bnd_s]
        dsimp only
        rw [br_pos (fnd_inR hm hk), show remI (b + (k : Int)) 256 = (b + k) % 256 from Int.tmod_eq_emod_of_nonneg h10, h7, getL_nat hj, br_pos (inR_t (by omega) (by omega))]
        have hbyte : byteAt xs[j].data ((b + (k : Int)) % 256) = byteR xs (b + k) := by rw [byteR, h7, getL_nat hj]
        rw [hbyte, br_pos (inR_t h0 (by omega)), add_id (by unfold I64; omega)]
        refine hrec _ ⟨rfl, rfl, rfl, by dsimp only; omega, by dsimp only; omega, ?_⟩ (by dsimp only; omega)
        dsimp only
        rw [show ((k : Int) + 1).toNat = k + 1 by omega, List.range_succ, List.map_append, h5]
        unfold setL
        rw [Int.toNat_natCast, List.set_append_right _ _ (by simp), List.length_map, List.length_range, Nat.sub_self, show n - k = (n - (k + 1)) + 1 by omega, List.replicate_succ]
        simp
    · have : i = n := by omega
      subst this
      rw [br_neg (lt_f hi), h5, Int.toNat_natCast, Nat.sub_self]
      simp
  · refine ⟨rfl, rfl, by simp [repL], by simp, by simp, ?_⟩
    simp [repL, dflt]
  · simp [F]; omega
end Go.Den.G
namespace Go.Den.G
open Go.Den
def isSz (n : Int) : Bool := eqI n 1 || (eqI n 2 || (eqI n 4 || eqI n 8))
theorem l01Size_eq (n : Int) : S_spec_l01Size ((n, ()), ()) = some (isSz n, ()) := by
  unfold S_spec_l01Size isSz
  dsimp only
  cases eqI n 1 <;> cases eqI n 2 <;> cases eqI n 4 <;> cases eqI n 8 <;> rfl
theorem isSize_eq (n : Int) : S_impl_isSize ((n, ()), ()) = some (isSz n, ()) := l01Size_eq n
theorem isSz_iff {n : Int} (h : isSz n = true) : ∃ k : Nat, n = (k : Int) ∧ 1 ≤ k ∧ k ≤ 8 := by
  simp only [isSz, eqI, Bool.or_eq_true, decide_eq_true_eq] at h
  exact ⟨n.toNat, by omega, by omega, by omega⟩
theorem toStr_len (xs : List Int) : (toStr xs).length = xs.length := by simp [toStr]
/-- What is loaded from right memory. -/
def loadR (m : List Page) (a : Int) (n : Nat) : Int × Int :=
  if faultR m a 1 n 0 = 0 then (IntKind.wrap .i64 (leN (toStr ((List.range n).map fun k => byteR m (a + (k : Nat))))), 0) else (0, faultR m a 1 n 0)
theorem load_ok {m : List Page} (hm : MemR m) {a : Int} {n : Nat} (h : faultR m a 1 n 0 = 0) : ∀ k, k < n → ¬ fnd m (a + (k : Nat)) < 0 := fun k hk =>
  faultR_ok hm n 0 h k (Nat.zero_le _) (by omega)
theorem impl_load_eq (m : List Page) (hm : MemR m) (a : Int) (n : Nat) (hn : 1 ≤ n) (hn8 : n ≤ 8) (ha : I64 a) : S_impl_Memory_load (((m, ()), (a, ((n : Int), ()))), ()) = some (((loadR m a n).1, ((loadR m a n).2, ())), ()) := by
  unfold S_impl_Memory_load loadR
  dsimp only
  rw [impl_fault_eq m hm a 1 n (by omega) ha (by decide) hn, bnd_s]
  by_cases h : faultR m a 1 n 0 = 0
  · rw [br_neg (by rw [h]; rfl), bytes_eq m hm a n (by omega) ha (load_ok hm h), bnd_s, if_pos h]
    dsimp only
    rw [take_eq _ (by rw [toStr_len]; simpa using hn8), bnd_s]
  · rw [br_pos (by rw [eq_f h]; rfl), if_neg h]
/-- What LoadAt answers. -/
def loadAtR (m : List Page) (a n : Int) : Int × Int :=
  if memOK m = true then (if isSz n = true then loadR m a n.toNat else (0, 4)) else (0, 1)
theorem impl_LoadAt_eq (m : List Page) (hm : m.length ≤ 1048576) (a n : Int) (ha : I64 a) : S_impl_LoadAt (((m, ()), (a, (n, ()))), ()) = some (((loadAtR m a n).1, ((loadAtR m a n).2, ())), ()) := by
  unfold S_impl_LoadAt loadAtR
  dsimp only
  rw [impl_MemoryOK_eq m (by omega) (by unfold F; omega), bnd_s]
  by_cases h : memOK m = true
  · rw [br_neg (by rw [h]; rfl), isSize_eq, bnd_s, if_pos h]
    by_cases hs : isSz n = true
    · obtain ⟨k, rfl, h1, h8⟩ := isSz_iff hs
      rw [br_neg (by rw [hs]; rfl), impl_load_eq m (memOK_r h) a k h1 h8 ha, bnd_s, if_pos hs]
      rfl
    · rw [br_pos (by rw [Bool.not_eq_true] at hs; rw [hs]; rfl), if_neg hs]
  · rw [br_pos (by rw [Bool.not_eq_true] at h; rw [h]; rfl), if_neg h]
end Go.Den.G
namespace Go.Den.G
open Go.Den
set_option maxRecDepth 100000
set_option linter.unusedVariables false
end Go.Den.G
namespace Go.Den.G
open Go.Den
/-- The page at a place. -/
def pgN (m : List Page) (i : Nat) : Page := m.getD i (dflt .page)
theorem pgN_pg (m : List Page) (i : Nat) : pg m (i : Int) = pgN m i := by simp [pg, pgN, getL]
theorem pgN_get {m : List Page} {i : Nat} (h : i < m.length) : pgN m i = m[i] := by simp [pgN, h]
/-- Right memory, whole. -/
structure MemT (m : List Page) : Prop where
  len : m.length ≤ 32
  pg : ∀ i, i < m.length → 0 ≤ (pgN m i).base ∧ (pgN m i).base ≤ 65280 ∧ (pgN m i).base % 256 = 0 ∧ 0 ≤ (pgN m i).perm ∧ (pgN m i).perm ≤ 7 ∧ (pgN m i).data.length = 256
  ord : ∀ i, i + 1 < m.length → (pgN m i).base < (pgN m (i + 1)).base
theorem isBase_t {b : Int} (h0 : 0 ≤ b) (h1 : b ≤ 65280) (h2 : b % 256 = 0) : isBase b = true := by
  simp only [isBase, inB, Bool.and_eq_true, decide_eq_true_eq, eqI]
  refine ⟨⟨h0, by omega⟩, ?_⟩
  show b.tmod 256 = 0
  rw [Int.tmod_eq_emod_of_nonneg h0]; exact h2
theorem MemT.ok {m : List Page} (h : MemT m) : memOK m = true := by
  simp only [memOK, Bool.and_eq_true, decide_eq_true_eq, okFrom, List.all_eq_true]
  refine ⟨by have := h.len; omega, fun i hi => ?_⟩
  rw [List.mem_range'] at hi
  obtain ⟨k, hk, rfl⟩ := hi
  rw [Nat.one_mul, Nat.zero_add]
  have hk : k < m.length := by omega
  obtain ⟨a, b, c, d, e, f⟩ := h.pg k hk
  unfold good
  rw [pgN_pg]
  simp only [Bool.and_eq_true, Bool.or_eq_true, Bool.not_eq_true', decide_eq_false_iff_not, lt_iff]
  refine ⟨isBase_t a b c, ?_, by rw [eq_iff]; omega, ?_⟩
  · simp only [isPerm, inB, Bool.and_eq_true, decide_eq_true_eq]; omega
  · cases k with
    | zero => exact .inl (by omega)
    | succ n => right; rw [show ((n + 1 : Nat) : Int) - 1 = (n : Int) by omega, pgN_pg]; exact h.ord n hk
theorem MemT.mono {m : List Page} (h : MemT m) {i : Nat} : ∀ {j : Nat}, i < j → j < m.length → (pgN m i).base + 256 ≤ (pgN m j).base
  | 0, hj, _ => absurd hj (Nat.not_lt_zero _)
  | j + 1, hij, hj => by
    have h1 := h.ord j hj
    have p1 := (h.pg j (by omega)).2.2.1
    have p2 := (h.pg (j + 1) hj).2.2.1
    by_cases he : i = j
    · subst he; omega
    · have := h.mono (i := i) (j := j) (by omega) (by omega)
      omega
theorem MemT.apart {m : List Page} (h : MemT m) {i j : Nat} (hi : i < m.length) (hj : j < m.length) (hne : i ≠ j) : (pgN m i).base + 256 ≤ (pgN m j).base ∨ (pgN m j).base + 256 ≤ (pgN m i).base := by
  by_cases hlt : i < j
  · exact .inl (h.mono hlt hj)
  · exact .inr (h.mono (by omega) hi)
theorem MemT.r {m : List Page} (h : MemT m) : MemR m := memOK_r h.ok
/-- Memory in which the first `n` bytes of a text lie from an address on; all else is as it was. -/
structure Laid (m : List Page) (a : Int) (t : List UInt8) (n : Nat) (x : List Page) : Prop where
  len : x.length = m.length
  pg : ∀ i, i < m.length → (pgN x i).base = (pgN m i).base ∧ (pgN x i).perm = (pgN m i).perm ∧ (pgN x i).data.length = 256 ∧
    ∀ k : Nat, k < 256 → (pgN x i).data.getD k 0 = if a ≤ (pgN m i).base + k ∧ (pgN m i).base + k < a + n then t.getD ((pgN m i).base + k - a).toNat 0 else (pgN m i).data.getD k 0
theorem Laid.start {m : List Page} (h : MemT m) (a : Int) (t : List UInt8) : Laid m a t 0 m := by
  refine ⟨rfl, fun i hi => ⟨rfl, rfl, (h.pg i hi).2.2.2.2.2, fun k hk => ?_⟩⟩
  rw [if_neg (by omega)]
theorem Laid.memT {m x : List Page} {a : Int} {t : List UInt8} {n : Nat} (h : MemT m) (hx : Laid m a t n x) : MemT x := by
  refine ⟨by rw [hx.len]; exact h.len, fun i hi => ?_, fun i hi => ?_⟩
  · rw [hx.len] at hi
    obtain ⟨h1, h2, h3, _⟩ := hx.pg i hi
    obtain ⟨a, b, c, d, e, f⟩ := h.pg i hi
    rw [h1, h2]; exact ⟨a, b, c, d, e, h3⟩
  · rw [hx.len] at hi
    rw [(hx.pg i (by omega)).1, (hx.pg (i + 1) hi).1]
    exact h.ord i hi
theorem page_ext {x y : Page} (h1 : x.base = y.base) (h2 : x.perm = y.perm) (h3 : x.data = y.data) : x = y := by
  cases x; cases y; simp only at h1 h2 h3; subst h1 h2 h3; rfl
theorem Laid.unique {m x y : List Page} {a : Int} {t : List UInt8} {n : Nat} (hx : Laid m a t n x) (hy : Laid m a t n y) : x = y := by
  refine List.ext_getElem (by rw [hx.len, hy.len]) fun i h1 h2 => ?_
  have hi : i < m.length := by rw [← hx.len]; exact h1
  obtain ⟨a1, a2, a3, a4⟩ := hx.pg i hi
  obtain ⟨b1, b2, b3, b4⟩ := hy.pg i hi
  rw [pgN_get h1] at a1 a2 a3 a4
  rw [pgN_get h2] at b1 b2 b3 b4
  refine page_ext (by rw [a1, b1]) (by rw [a2, b2]) (List.ext_getElem (by rw [a3, b3]) fun k k1 k2 => ?_)
  have e1 := a4 k (by omega)
  have e2 := b4 k (by omega)
  rw [← e2] at e1
  simpa [k1, k2] using e1
theorem Laid.step {m x : List Page} {a : Int} {t : List UInt8} {j : Nat} (hm : MemT m) (hx : Laid m a t j x) {i : Nat} (hi : i < m.length) {o c : Nat}
    (ho : (o : Int) = a + j - (pgN m i).base) (hoc : o + c ≤ 256) (hjc : j + c ≤ t.length) :
    Laid m a t (j + c) (x.set i (Page.mk (pgN x i).base (pgN x i).perm ((pgN x i).data.take o ++ (t.drop j).take c ++ (pgN x i).data.drop (o + c)))) := by
  refine ⟨by rw [List.length_set]; exact hx.len, fun i' hi' => ?_⟩
  obtain ⟨h1, h2, h3, h4⟩ := hx.pg i' hi'
  by_cases he : i' = i
  · subst he
    have hset : ∀ p : Page, pgN (x.set i' p) i' = p := fun p => by unfold pgN; rw [List.getD_eq_getElem?_getD, List.getElem?_set_self (by rw [hx.len]; exact hi'), Option.getD_some]
    rw [hset]
    have l1 : ((pgN x i').data.take o).length = o := by rw [List.length_take]; omega
    have l2 : ((t.drop j).take c).length = c := by rw [List.length_take, List.length_drop]; omega
    refine ⟨h1, h2, by simp only [List.length_append, l1, l2, List.length_drop]; omega, fun k hk => ?_⟩
    have h4 := h4 k hk
    dsimp only
    rw [List.getD_eq_getElem?_getD] at h4 ⊢
    by_cases k1 : k < o
    · rw [List.append_assoc, List.getElem?_append_left (by omega), List.getElem?_take, if_pos k1, h4]
      by_cases hc : a ≤ (pgN m i').base + k ∧ (pgN m i').base + k < a + j
      · rw [if_pos hc, if_pos (by omega)]
      · rw [if_neg hc, if_neg (by omega)]
    · by_cases k2 : k < o + c
      · rw [List.append_assoc, List.getElem?_append_right (by omega), l1, List.getElem?_append_left (by omega), List.getElem?_take, if_pos (by omega), List.getElem?_drop, if_pos (by omega), List.getD_eq_getElem?_getD]
        rw [show j + (k - o) = ((pgN m i').base + k - a).toNat by omega]
      · rw [List.getElem?_append_right (by rw [List.length_append]; omega), List.length_append, l1, l2, List.getElem?_drop, show o + c + (k - (o + c)) = k by omega, h4, if_neg (by omega), if_neg (by omega)]
  · rw [show pgN (x.set i _) i' = pgN x i' from by unfold pgN; rw [List.getD_eq_getElem?_getD, List.getElem?_set_ne (by omega), ← List.getD_eq_getElem?_getD]]
    refine ⟨h1, h2, h3, fun k hk => ?_⟩
    rw [h4 k hk]
    rcases hm.apart hi' hi he with hp | hp
    · by_cases hc : a ≤ (pgN m i').base + k ∧ (pgN m i').base + k < a + j
      · rw [if_pos hc, if_pos (by omega)]
      · rw [if_neg hc, if_neg (by omega)]
    · by_cases hc : a ≤ (pgN m i').base + k ∧ (pgN m i').base + k < a + j
      · rw [if_pos hc, if_pos (by omega)]
      · rw [if_neg hc, if_neg (by omega)]
theorem find_bases {p q : Page → Bool} : ∀ {m x : List Page} {i : Nat}, x.length = m.length → (∀ j, j < m.length → p (pgN m j) = q (pgN x j)) → findFrom p m i = findFrom q x i
  | [], [], _, _, _ => rfl
  | [], _ :: _, _, h, _ => by simp at h
  | _ :: _, [], _, h, _ => by simp at h
  | a :: r, b :: s, i, hl, h => by
    have h0 := h 0 (by simp)
    simp only [pgN, List.getD_cons_zero] at h0
    simp only [findFrom, h0]
    rw [find_bases (m := r) (x := s) (i := i + 1) (by simpa using hl) fun j hj => by simpa [pgN] using h (j + 1) (by simp; omega)]
theorem Laid.fnd {m x : List Page} {a : Int} {t : List UInt8} {n : Nat} (hx : Laid m a t n x) (b : Int) : fnd x b = fnd m b := by
  unfold Go.Den.G.fnd
  exact (find_bases hx.len fun j hj => by unfold inPage; rw [(hx.pg j hj).1]).symm
end Go.Den.G
namespace Go.Den.G
open Go.Den
theorem getL_pgN (m : List Page) (i : Nat) : getL m (i : Int) (dflt .page) = pgN m i := by simp [pgN, getL]
theorem own_eq (m : List Page) (hm : m.length ≤ 1048576) : S_spec_l02Own (((m, ()), ()), ()) = some ((), (m, ())) := by
  unfold S_spec_l02Own
  dsimp only
  rw [show fits2 ([] : List Page) m = true from fits2_t (by simp; omega), br_t]; rfl
theorem copy_eq (m : List Page) (hm : m.length ≤ 1048576) : S_impl_copyMemory (((m, ()), ()), ()) = some ((), (m, ())) := by
  unfold S_impl_copyMemory S_slices_Clone_implPage
  dsimp only
  rw [show fits2 ([] : List Page) m = true from fits2_t (by simp; omega), br_t]
  cases m with
  | nil => rw [show eqI (lenL ([] : List Page)) 0 = true from rfl, br_t]; rw [show appL ([] : List Page) [] = [] from rfl]; unfold eqO; rw [if_pos rfl, bnd_s]
  | cons p r => rw [show eqI (lenL (p :: r)) 0 = false from eq_f (by simp [lenL_nat]; omega), br_f, bnd_s]; rfl
theorem put_ex (m : List Page) (hm : MemT m) (a : Int) (t : List UInt8) (_ha : I64 a) (ht : t.length ≤ 8) (hok : ∀ k, k < t.length → ¬ fnd m (a + (k : Nat)) < 0) :
    ∃ x, S_spec_l02Put (((m, ()), (a, (t, ()))), ()) = some ((x, ()), ()) ∧ Laid m a t t.length x := by
  unfold S_spec_l02Put
  dsimp only
  rw [own_eq m (by have := hm.len; omega), bnd_s]
  refine iter_ind (fun s => ∃ j : Nat, j ≤ t.length ∧ s.1.1 = a + j ∧ s.1.2.1 = t.drop j ∧ Laid m a t j s.2.2.1) (fun s => s.1.2.1.length) (fun _ o => ∃ x, o = some ((x, ()), ()) ∧ Laid m a t t.length x) ?_ F _ ⟨0, by simp, by simp, by simp, Laid.start hm a t⟩ (by unfold F; dsimp only; omega)
  rintro ⟨⟨b, u, _⟩, _, x, _, _⟩ rec ⟨j, hj, h1, h2, hx⟩ hrec
  dsimp only at h1 h2 hx hrec ⊢
  subst h1 h2
  rw [show lenL (t.drop j) = ((t.length - j : Nat) : Int) from by rw [lenL_nat, List.length_drop]]
  by_cases hjl : j < t.length
  · have hmx := hx.memT hm
    have hf := hok j hjl
    rw [← hx.fnd] at hf
    rcases fnd_spec hmx.r (a + j) with h0 | ⟨i, hi, h0, hb1, hb2, r0, r1, hb3, hdl⟩
    · rw [h0] at hf; exact absurd (by decide) hf
    · have him : i < m.length := by rw [← hx.len]; exact hi
      obtain ⟨p1, p2, p3, p4, p5, p6⟩ := hmx.pg i hi
      rw [← pgN_get hi] at hb1 hb2 hb3 hdl
      obtain ⟨o, ho⟩ := Int.eq_ofNat_of_zero_le (show 0 ≤ a + j - (pgN x i).base by omega)
      have hs : subI .i64 (a + j) (pgN x i).base = (o : Int) := by rw [sub_id (by unfold I64; omega), ho]
      obtain ⟨c, hc⟩ : ∃ c : Nat, c = min (t.length - j) (256 - o) := ⟨_, rfl⟩
      have hi' : imin ((t.length - j : Nat) : Int) (subI .i64 256 (o : Int)) = (c : Int) := by
        rw [sub_id (by unfold I64; omega)]; unfold imin; split <;> omega
      have hfi : fnd x (a + j) = (i : Int) := h0
      rw [br_pos (lt_t (by omega)), l02Find_eq x hmx.r _ (by unfold I64; omega), bnd_s]
      dsimp only
      rw [hfi]
      simp only [getL_pgN, hs, hi', lenL_nat, p6]
      rw [add_id (a := (o : Int)) (by unfold I64; omega), add_id (a := a + j) (by unfold I64; omega)]
      rw [br_pos (inR_t (by omega) (by omega)), br_pos (inR_t (by omega) (by omega)), br_pos (inC_t (by omega) (by omega)), br_pos (inC_t (by omega) (by omega))]
      rw [br_pos (fits2_t (by unfold takeL; simp only [List.length_take]; omega)), br_pos (inC_t (by omega) (by omega))]
      rw [br_pos (fits2_t (by unfold takeL dropL appL; simp only [List.length_take, List.length_append, List.length_drop]; omega)), br_pos (inR_t (by omega) (by omega)), br_pos (inC_t (by omega) (by omega))]
      refine hrec _ ⟨j + c, by omega, by dsimp only; omega, ?_, ?_⟩ ?_
      · dsimp only; unfold dropL; rw [List.drop_drop, Int.toNat_natCast]
      · have := Laid.step hm hx him (o := o) (c := c) (by rw [← (hx.pg i him).1]; omega) (by omega) (by omega)
        dsimp only
        unfold setL takeL dropL appL
        rw [Int.toNat_natCast, Int.toNat_natCast, Int.toNat_natCast, show ((o : Int) + (c : Int)).toNat = o + c by omega]
        exact this
      · dsimp only; unfold dropL; simp only [List.length_drop]; omega
  · have : j = t.length := by omega
    subst this
    rw [br_neg (lt_f (by omega))]
    exact ⟨x, rfl, hx⟩
theorem lay_ex (m : List Page) (hm : MemT m) (a : Int) (t : List UInt8) (_ha : I64 a) (ht : t.length ≤ 8) (hok : ∀ k, k < t.length → ¬ fnd m (a + (k : Nat)) < 0) :
    ∃ x, S_impl_Memory_lay (((m, ()), (a, (t, ()))), ()) = some ((x, ()), ()) ∧ Laid m a t t.length x := by
  unfold S_impl_Memory_lay
  dsimp only
  rw [copy_eq m (by have := hm.len; omega), bnd_s]
  refine iter_ind (fun s => ∃ j : Nat, j ≤ t.length ∧ s.1.1 = a + j ∧ s.1.2.1 = t.drop j ∧ Laid m a t j s.2.2.2.2.1 ∧ s.2.1.1 = m) (fun s => s.1.2.1.length) (fun _ o => ∃ x, o = some ((x, ()), ()) ∧ Laid m a t t.length x) ?_ F _ ⟨0, by simp, by simp, by simp, Laid.start hm a t, rfl⟩ (by unfold F; dsimp only; omega)
  rintro ⟨⟨b, u, _⟩, ⟨m', _⟩, _, _, x, _⟩ rec ⟨j, hj, h1, h2, hx, h3⟩ hrec
  dsimp only at h1 h2 h3 hx hrec ⊢
  subst h1 h2 h3
  rw [show lenL (t.drop j) = ((t.length - j : Nat) : Int) from by rw [lenL_nat, List.length_drop]]
  by_cases hjl : j < t.length
  · have hmx := hx.memT hm
    have hf := hok j hjl
    rcases fnd_spec hm.r (a + j) with h0 | ⟨i, hi, h0, hb1, hb2, r0, r1, hb3, hdl⟩
    · rw [h0] at hf; exact absurd (by decide) hf
    · have hix : i < x.length := by rw [hx.len]; exact hi
      obtain ⟨p1, p2, p3, p4, p5, p6⟩ := hmx.pg i hix
      rw [← pgN_get hi] at hb1 hb2 hb3 hdl
      have hbe := (hx.pg i hi).1
      obtain ⟨o, ho⟩ := Int.eq_ofNat_of_zero_le (show 0 ≤ a + j - (pgN m' i).base by omega)
      have hs : remI (a + j) 256 = (o : Int) := by rw [remI_pos r0]; omega
      obtain ⟨c, hc⟩ : ∃ c : Nat, c = min (t.length - j) (256 - o) := ⟨_, rfl⟩
      have hi' : imin ((t.length - j : Nat) : Int) (subI .i64 256 (o : Int)) = (c : Int) := by
        rw [sub_id (by unfold I64; omega)]; unfold imin; split <;> omega
      have hfi : fnd m' (a + j) = (i : Int) := h0
      rw [br_pos (lt_t (by omega)), pageOf_eq m' hm.r, bnd_s]
      dsimp only
      rw [hfi]
      simp only [getL_pgN, hs, hi', lenL_nat, p6]
      rw [add_id (a := (o : Int)) (by unfold I64; omega), add_id (a := a + j) (by unfold I64; omega)]
      rw [br_pos (inR_t (by omega) (by omega)), br_pos (inC_t (by omega) (by omega)), br_pos (inC_t (by omega) (by omega))]
      rw [br_pos (fits2_t (by unfold takeL; simp only [List.length_take]; omega)), br_pos (inC_t (by omega) (by omega))]
      rw [br_pos (fits2_t (by unfold takeL dropL appL; simp only [List.length_take, List.length_append, List.length_drop]; omega)), br_pos (inC_t (by omega) (by omega))]
      refine hrec _ ⟨j + c, by omega, by dsimp only; omega, ?_, ?_, rfl⟩ ?_
      · dsimp only; unfold dropL; rw [List.drop_drop, Int.toNat_natCast]
      · have := Laid.step hm hx hi (o := o) (c := c) (by omega) (by omega) (by omega)
        dsimp only
        unfold setL takeL dropL appL
        rw [Int.toNat_natCast, Int.toNat_natCast, Int.toNat_natCast, show ((o : Int) + (c : Int)).toNat = o + c by omega]
        exact this
      · dsimp only; unfold dropL; simp only [List.length_drop]; omega
  · have : j = t.length := by omega
    subst this
    rw [br_neg (lt_f (by omega))]
    exact ⟨x, rfl, hx⟩
end Go.Den.G
namespace Go.Den.G
open Go.Den
/-- A byte of a number. -/
def byI (v : Int) (k : Nat) : Int := v / 2 ^ (8 * k) % 256
/-- A number's bytes, the lowest first. -/
def leB (v : Int) (n : Nat) : List UInt8 := toStr ((List.range n).map (byI v))
theorem leB_len (v : Int) (n : Nat) : (leB v n).length = n := by simp [leB, toStr]
theorem shrI (v : Int) (k : Nat) (hk : k < 8) : wrapI .u8 (ishr .i64 v (8 * (k : Int))) = byI v k := by
  unfold ishr byI wrapI
  rw [wrap_u8, show (8 * (k : Int)).toNat = 8 * k by omega, show min (8 * k) (IntKind.bits .i64) = 8 * k from by simp only [IntKind.bits]; omega]
  rw [Int.fdiv_eq_ediv_of_nonneg _ (Int.le_of_lt (Int.pow_pos (by decide)))]
theorem shrU (v : Int) (k : Nat) (hk : k < 8) : wrapI .u8 (ishr .u64 (wrapI .u64 v) (wrapI .u64 (8 * (k : Int)))) = byI v k := by
  rw [wrapIU_id (n := 8 * (k : Int)) (by omega) (by omega)]
  unfold ishr byI wrapI
  rw [wrap_u8, wrap_u, show (8 * (k : Int)).toNat = 8 * k by omega, show min (8 * k) (IntKind.bits .u64) = 8 * k from by simp only [IntKind.bits]; omega]
  rw [Int.fdiv_eq_ediv_of_nonneg _ (Int.le_of_lt (Int.pow_pos (by decide)))]
  match k, hk with
  | 0, _ => show v % 18446744073709551616 / 1 % 256 = v / 1 % 256; omega
  | 1, _ => show v % 18446744073709551616 / 256 % 256 = v / 256 % 256; omega
  | 2, _ => show v % 18446744073709551616 / 65536 % 256 = v / 65536 % 256; omega
  | 3, _ => show v % 18446744073709551616 / 16777216 % 256 = v / 16777216 % 256; omega
  | 4, _ => show v % 18446744073709551616 / 4294967296 % 256 = v / 4294967296 % 256; omega
  | 5, _ => show v % 18446744073709551616 / 1099511627776 % 256 = v / 1099511627776 % 256; omega
  | 6, _ => show v % 18446744073709551616 / 281474976710656 % 256 = v / 281474976710656 % 256; omega
  | 7, _ => show v % 18446744073709551616 / 72057594037927936 % 256 = v / 72057594037927936 % 256; omega
theorem l01Little_eq (v : Int) (n : Nat) (hn : n ≤ 8) : S_spec_l01Little ((v, ((n : Int), ())), ()) = some (leB v n, ()) := by
  unfold S_spec_l01Little
  dsimp only
  refine (iter_eq (fun s => s.1.1 = v ∧ s.1.2.1 = (n : Int) ∧ ∃ k : Nat, k ≤ n ∧ s.1.2.2.1 = (k : Int) ∧ s.2.1 = (List.range k).map (byI v)) (fun s => n - s.1.2.2.1.toNat) (fun _ => some (leB v n, ())) ?_ F _ ⟨rfl, rfl, 0, by omega, by simp, by simp⟩ (by unfold F; dsimp only; omega))
  rintro ⟨⟨b, l, i, _⟩, u, _⟩ rec ⟨h1, h2, k, hk, h3, h4⟩ hrec
  dsimp only at h1 h2 h3 h4 hrec ⊢
  subst h1 h2 h3 h4
  by_cases hl : k < n
  · rw [mulI_id (by omega) (by omega), shrU b k (by omega), wrapIU_id (n := 8 * (k : Int)) (by omega) (by omega), br_pos (lt_t (by omega)), br_pos (le_t (by omega)), br_pos (fits2_t (by simp; omega)), addI_id (by omega) (by omega)]
    refine hrec _ ⟨rfl, rfl, k + 1, by omega, by dsimp only; omega, ?_⟩ (by dsimp only; omega)
    dsimp only
    rw [List.range_succ, List.map_append]; rfl
  · have : k = n := by omega
    subst this
    rw [br_neg (lt_f (by omega))]; rfl
theorem little_eq (v : Int) (n : Nat) (hn : n ≤ 8) : S_impl_little ((v, ((n : Int), ())), ()) = some (leB v n, ()) := by
  unfold S_impl_little
  dsimp only
  rw [br_pos (inC_t (by omega) (by omega)), br_pos (inLim_t (by omega))]
  have hr : lenL (repL (n : Int) (dflt .u)) = (n : Int) := by simp [lenL, repL]
  rw [hr]
  refine (iter_eq (fun s => s.1.1 = v ∧ s.1.2.1 = (n : Int) ∧ ∃ k : Nat, k ≤ n ∧ s.1.2.2.1 = (k : Int) ∧ s.2.1 = (List.range k).map (byI v) ++ List.replicate (n - k) (dflt .u)) (fun s => n - s.1.2.2.1.toNat) (fun _ => some (leB v n, ())) ?_ F _ ⟨rfl, rfl, 0, by omega, by simp, by simp [repL]⟩ (by unfold F; dsimp only; omega))
  rintro ⟨⟨b, l, i, _⟩, u, _⟩ rec ⟨h1, h2, k, hk, h3, h4⟩ hrec
  dsimp only at h1 h2 h3 h4 hrec ⊢
  subst h1 h2 h3
  have hul : u.length = n := by rw [h4]; simp; omega
  by_cases hl : k < n
  · rw [mulI_id (by omega) (by omega), shrI b k (by omega), br_pos (lt_t (by omega)), br_pos (le_t (by omega)), br_pos (inR_t (by omega) (by rw [lenL_nat]; omega)), addI_id (by omega) (by omega)]
    refine hrec _ ⟨rfl, rfl, k + 1, by omega, by dsimp only; omega, ?_⟩ (by dsimp only; omega)
    dsimp only
    rw [h4]
    unfold setL
    rw [Int.toNat_natCast, List.set_append_right _ _ (by simp), List.length_map, List.length_range, Nat.sub_self, show n - k = (n - (k + 1)) + 1 by omega, List.replicate_succ, List.range_succ, List.map_append, List.append_assoc]; rfl
  · have : k = n := by omega
    subst this
    rw [br_neg (lt_f (by omega)), h4, Nat.sub_self]
    simp [leB]
theorem isSz4 {n : Int} (h : isSz n = true) : n = 1 ∨ n = 2 ∨ n = 4 ∨ n = 8 := by
  simp only [isSz, eqI, Bool.or_eq_true, decide_eq_true_eq] at h; exact h
end Go.Den.G
namespace Go.Den.G
open Go.Den
theorem Equal_self (x : List Page) (hx : x.length ≤ 1048576) : S_slices_Equal_implPage ((x, (x, ())), ()) = some (true, ()) := by
  unfold S_slices_Equal_implPage
  simp only [lenL_nat]
  rw [eq_t rfl, notB_t, br_f]
  refine iter_eq (fun s => s.1.1 = x ∧ s.1.2.1 = x ∧ s.1.2.2.1 = (x.length : Int) ∧ 0 ≤ s.1.2.2.2.1 ∧ s.1.2.2.2.1 ≤ (x.length : Int)) (fun s => x.length - s.1.2.2.2.1.toNat) (fun _ => some (true, ())) ?_ F _ ⟨rfl, rfl, rfl, by dsimp only; omega, by dsimp only; omega⟩ (by unfold F; dsimp only; omega)
  rintro ⟨⟨y, z, l, i, _⟩, _⟩ rec ⟨h1, h2, h3, h4, h5⟩ hrec
  dsimp only at h1 h2 h3 h4 h5 hrec ⊢
  subst h1 h2 h3
  by_cases hi : i < (z.length : Int)
  · rw [br_pos (lt_t hi), br_pos (inR_t h4 hi), br_pos (inR_t h4 hi), eq_t rfl, eq_t rfl, show eqS _ _ = true from decide_eq_true rfl]
    rw [show notB (andB true (andB true true)) = false from rfl, br_f, addI_id (by omega) (by omega)]
    exact hrec _ ⟨rfl, rfl, rfl, by dsimp only; omega, by dsimp only; omega⟩ (by dsimp only; omega)
  · rw [br_neg (lt_f hi)]
theorem Same_self (x : List Page) (hx : MemT x) : S_impl_SameMemory (((x, ()), ((x, ()), ())), ()) = some (true, ()) := by
  have hl := hx.len
  unfold S_impl_SameMemory
  dsimp only
  rw [impl_MemoryOK_eq x (by omega) (by unfold F; omega), bnd_s, hx.ok, br_t, bnd_s, bnd_s]
  dsimp only
  rw [br_t, Equal_self x (by omega), bnd_s, bnd_s]
theorem fault_vals (m : List Page) (a p : Int) : ∀ (n : Nat) (k : Int), faultR m a p n k = 0 ∨ faultR m a p n k = 13 ∨ faultR m a p n k = 14
  | 0, _ => .inl rfl
  | n + 1, k => by
    rw [faultR]
    split
    · exact .inr (.inl rfl)
    · split
      · exact .inr (.inr rfl)
      · exact fault_vals m a p n (k + 1)
theorem sz8 {n : Nat} (hn : isSz (n : Int) = true) : 1 ≤ n ∧ n ≤ 8 := by rcases isSz4 hn with h | h | h | h <;> omega
/-- What StoreAt does: the program's and the reference's alike. -/
theorem StoreAt_ex (m : List Page) (hm : MemT m) (a v : Int) (n : Nat) (hn : isSz (n : Int) = true) (ha : I64 a) :
    ∃ x e, S_impl_StoreAt (((m, ()), (a, ((n : Int), (v, ())))), ()) = some (((x, ()), (e, ())), ()) ∧ S_spec_StoreAt (((m, ()), (a, ((n : Int), (v, ())))), ()) = some (((x, ()), (e, ())), ()) ∧
      (((e = 13 ∨ e = 14) ∧ x = m ∧ faultR m a 2 n 0 ≠ 0) ∨ (e = 0 ∧ faultR m a 2 n 0 = 0 ∧ Laid m a (leB v n) n x)) := by
  obtain ⟨n1, n8⟩ := sz8 hn
  have hl := hm.len
  unfold S_impl_StoreAt S_spec_StoreAt S_impl_Memory_store S_spec_l02Store
  dsimp only
  rw [impl_MemoryOK_eq m (by omega) (by unfold F; omega), spec_MemoryOK_eq m (by omega), hm.ok, bnd_s, bnd_s]
  dsimp only
  rw [notB_t, br_f, br_f, isSize_eq, l01Size_eq, hn, bnd_s, bnd_s]
  dsimp only
  rw [notB_t, br_f, br_f, impl_fault_eq m hm.r a 2 n (by omega) ha (by decide) n1, spec_fault_eq m hm.r a 2 n n1 (by omega) ha, bnd_s, bnd_s]
  dsimp only
  by_cases hf : faultR m a 2 n 0 = 0
  · have hok := faultR_ok hm.r n 0 hf
    have hok : ∀ k, k < (leB v n).length → ¬ fnd m (a + (k : Nat)) < 0 := fun k hk => hok k (Nat.zero_le _) (by rw [leB_len] at hk; omega)
    obtain ⟨x, hx1, hx2⟩ := lay_ex m hm a (leB v n) ha (by rw [leB_len]; omega) hok
    obtain ⟨y, hy1, hy2⟩ := put_ex m hm a (leB v n) ha (by rw [leB_len]; omega) hok
    have he : y = x := hy2.unique hx2
    subst he
    rw [leB_len] at hx2
    refine ⟨y, 0, ?_, ?_, .inr ⟨rfl, hf, hx2⟩⟩
    · rw [hf, eq_t rfl, notB_t, br_f, little_eq v n n8, bnd_s, hx1, bnd_s, bnd_s]
    · rw [hf, eq_t rfl, notB_t, br_f, l01Little_eq v n n8, bnd_s, hy1, bnd_s, bnd_s]
      dsimp only
      rw [own_eq y (by have := hx2.len; omega), bnd_s]
  · refine ⟨m, faultR m a 2 n 0, ?_, ?_, .inl ⟨by rcases fault_vals m a 2 n 0 with h | h | h; exact absurd h hf; exact .inl h; exact .inr h, rfl, hf⟩⟩
    · rw [eq_f hf, notB_f, br_t, copy_eq m (by omega), bnd_s, bnd_s]
    · rw [eq_f hf, notB_f, br_t, bnd_s]
      dsimp only
      rw [own_eq m (by omega), bnd_s]
/-- Rights of drawn pages: what may be written may be read. -/
def PermD (m : List Page) : Prop := ∀ i, i < m.length → (pgN m i).perm = 1 ∨ (pgN m i).perm = 3 ∨ (pgN m i).perm = 4 ∨ (pgN m i).perm = 5
end Go.Den.G
namespace Go.Den.G
open Go.Den
/-- A drawing source: its code, how far it has been read, its seed. -/
structure Src (code : List Int) (k : Int) (s : List Int × (Int × (Int × Unit))) : Prop where
  code : s.1 = code
  at0 : 0 ≤ s.2.1
  atk : s.2.1 ≤ k
  sd0 : 0 ≤ s.2.2.1
  sd1 : s.2.2.1 < 2147483648
/-- A code whose elements are bytes. -/
def Bytes (code : List Int) : Prop := (∀ b ∈ code, 0 ≤ b ∧ b ≤ 255) ∧ code.length ≤ 1048576
theorem Src.mono {code : List Int} {k j : Int} {s : List Int × (Int × (Int × Unit))} (h : Src code k s) (hk : k ≤ j) : Src code j s := ⟨h.code, h.at0, Int.le_trans h.atk hk, h.sd0, h.sd1⟩
end Go.Den.G
namespace Go.Den.G
open Go.Den
theorem getL_all {P : Int → Prop} {xs : List Int} {i : Int} {d : Int} (h0 : 0 ≤ i) (h1 : i < (xs.length : Int)) (h : ∀ x ∈ xs, P x) : P (getL xs i d) := by
  obtain ⟨hi, e⟩ := getL_get (d := d) h0 h1
  rw [e]; exact h _ (List.getElem_mem hi)
theorem at_ret {more : List Int} (hc : Bytes more) (i n : Int) (hi : 0 ≤ i) (hi2 : i ≤ 1000000) (hn : 1 ≤ n) : Ret (S_laws_at ((more, (i, (n, ()))), ())) fun r => 0 ≤ r.1 ∧ r.1 < n := by
  unfold S_laws_at
  dsimp only
  refine Ret.br (fun _ => Ret.some ⟨by dsimp only; omega, by dsimp only; omega⟩) fun h1 => Ret.br (fun h2 => ?_) fun h2 => ?_
  · refine Ret.need (by rw [eq_f (by omega)]; rfl) (Ret.some ?_)
    rw [mulI_id (by omega) (by omega), remI_pos (by omega)]
    exact ⟨Int.emod_nonneg _ (by omega), Int.emod_lt_of_pos _ (by omega)⟩
  · rw [eq_nf] at h2
    rw [lenL_nat] at h2 ⊢
    have hl : 0 < (more.length : Int) := by omega
    have h3 : notB (eqI (more.length : Int) 0) = true := by rw [eq_f h2]; rfl
    have hb : ∀ j, 0 ≤ j → j < (more.length : Int) → 0 ≤ getL more j (dflt .u) ∧ getL more j (dflt .u) ≤ 255 := fun j h0 h1 => getL_all (P := fun x => 0 ≤ x ∧ x ≤ 255) h0 h1 hc.1
    rw [addI_id (a := i) (by omega) (by omega), remI_pos (a := i) (by omega), remI_pos (a := i + 1) (by omega)]
    have e1 := Int.emod_nonneg i (show (more.length : Int) ≠ 0 by omega)
    have e2 := Int.emod_lt_of_pos i hl
    have e3 := Int.emod_nonneg (i + 1) (show (more.length : Int) ≠ 0 by omega)
    have e4 := Int.emod_lt_of_pos (i + 1) hl
    refine Ret.need h3 (Ret.need (inR_t e1 e2) (Ret.need h3 (Ret.need (inR_t e3 e4) (Ret.need h3 (Ret.need (by rw [eq_f (by omega)]; rfl) (Ret.some ?_))))))
    obtain ⟨x0, x1⟩ := hb _ e1 e2
    obtain ⟨y0, y1⟩ := hb _ e3 e4
    have q0 : 0 ≤ i / (more.length : Int) := Int.ediv_nonneg hi (by omega)
    have q1 : i / (more.length : Int) ≤ i := Int.ediv_le_self _ hi
    rw [quoI_pos hi hl (by omega), wrapII_id (by omega) (by omega), wrapII_id (by omega) (by omega), mulI_id (by omega) (by omega), addI_id (a := getL more (i % more.length) (dflt .u) * 31) (by omega) (by omega), addI_id (by omega) (by omega), remI_pos (by omega)]
    exact ⟨Int.emod_nonneg _ (by omega), Int.emod_lt_of_pos _ (by omega)⟩
/-- The pages that may be drawn. -/
def drawTab : List (Int × Int) := [(4096, 3), (16640, 4), (16896, 5), (17152, 5), (17408, 3), (17664, 3), (17920, 1), (20224, 3)]
/-- Drawn memory. -/
structure Drawn (n : Nat) (ps : List Page) : Prop where
  sub : (ps.map fun p => (p.base, p.perm)).Sublist (drawTab.take n)
  dat : ∀ p ∈ ps, p.data.length = 256
theorem Drawn.memT {ps : List Page} (h : Drawn 8 ps) : MemT ps ∧ PermD ps := by
  have hs : (ps.map fun p => (p.base, p.perm)).Sublist drawTab := h.sub
  have hl : ps.length ≤ 8 := by have := hs.length_le; simpa [drawTab] using this
  have hmem : ∀ i, i < ps.length → ((pgN ps i).base, (pgN ps i).perm) ∈ drawTab := fun i hi => hs.subset (List.mem_map.2 ⟨_, by rw [pgN_get hi]; exact List.getElem_mem hi, rfl⟩)
  have hp : drawTab.Pairwise fun a b => a.1 < b.1 := by unfold drawTab; simp
  have hp' := hp.sublist hs
  rw [List.pairwise_map] at hp'
  refine ⟨⟨by omega, fun i hi => ?_, fun i hi => ?_⟩, fun i hi => ?_⟩
  · have := hmem i hi
    have hd := h.dat (pgN ps i) (by rw [pgN_get hi]; exact List.getElem_mem hi)
    simp only [drawTab, List.mem_cons, List.not_mem_nil, or_false, Prod.mk.injEq] at this
    omega
  · rw [pgN_get hi, pgN_get (by omega : i < ps.length)]
    exact List.pairwise_iff_getElem.1 hp' i (i + 1) (by omega) hi (by omega)
  · have := hmem i hi
    simp only [drawTab, List.mem_cons, List.not_mem_nil, or_false, Prod.mk.injEq] at this
    omega
end Go.Den.G
namespace Go.Den.G
open Go.Den
theorem elWf_u {x : Int} (h : elWf .u x) : 0 ≤ x ∧ x ≤ 255 := by
  obtain ⟨⟨n, e, w⟩, _⟩ := h
  cases e
  simp only [Lit.wf, Bool.and_eq_true, decide_eq_true_eq] at w
  simp only [IntKind.min, IntKind.max, IntKind.signed, IntKind.bits] at w
  simp at w
  omega
end Go.Den.G
namespace Go.Den.G
open Go.Den
def zer : List UInt8 := Go.Lib.repeatL [0] 256
theorem zer_len : zer.length = 256 := by unfold zer; rw [Go.Lib.repeatL_length]; rfl
theorem clone_eq (m : List Page) (hm : m.length ≤ 1048576) : S_slices_Clone_implPage ((m, ()), ()) = some ((), (m, ())) := by
  have := copy_eq m hm
  unfold S_impl_copyMemory at this
  dsimp only at this
  cases h : S_slices_Clone_implPage ((m, ()), ()) with
  | none => rw [h] at this; cases this
  | some r => rw [h, bnd_s] at this; rw [← this]
/-- Where a page of a base would be put: behind all. -/
theorem with1_eq (m : List Page) (hm : m.length ≤ 32) (b p : Int) (d : List UInt8) (hb : ∀ i, i < m.length → (pgN m i).base ≤ b) :
    S_slices_IndexFunc_implPage_cimpl_Memory_with_1 ((m, ()), ((b, (p, (d, ()))), ())) = some (-1, ((b, (p, (d, ()))), ())) := by
  unfold S_slices_IndexFunc_implPage_cimpl_Memory_with_1 S_impl_Memory_with_1
  simp only [lenL_nat]
  refine iter_eq (fun s => s.1.1 = m ∧ s.1.2.1 = (m.length : Int) ∧ s.2 = ((b, (p, (d, ()))), ()) ∧ 0 ≤ s.1.2.2.1 ∧ s.1.2.2.1 ≤ (m.length : Int)) (fun s => m.length - s.1.2.2.1.toNat) (fun _ => some (-1, ((b, (p, (d, ()))), ()))) ?_ F _ ⟨rfl, rfl, rfl, by dsimp only; omega, by dsimp only; omega⟩ (by unfold F; dsimp only; omega)
  rintro ⟨⟨y, l, i, _⟩, z⟩ rec ⟨h1, h2, h3, h4, h5⟩ hrec
  dsimp only at h1 h2 h3 h4 h5 hrec ⊢
  subst h1 h2 h3
  by_cases hi : i < (y.length : Int)
  · obtain ⟨n, rfl⟩ := Int.eq_ofNat_of_zero_le h4
    have hbn := hb n (by omega)
    rw [br_pos (lt_t hi), br_pos (inR_t h4 hi), bnd_s, getL_pgN]
    dsimp only
    rw [lt_no hbn, br_f, addI_id (by omega) (by omega)]
    exact hrec _ ⟨rfl, rfl, rfl, by dsimp only; omega, by dsimp only; omega⟩ (by dsimp only; omega)
  · rw [br_neg (lt_f hi)]
theorem with_eq (m : List Page) (hm : m.length ≤ 32) (q : Page) (hb : ∀ i, i < m.length → (pgN m i).base ≤ q.base) : S_impl_Memory_with (((m, ()), (q, ())), ()) = some ((m ++ [q], ()), ()) := by
  unfold S_impl_Memory_with S_slices_Insert_implPage
  dsimp only
  rw [with1_eq m hm q.base q.perm q.data hb, bnd_s]
  dsimp only
  rw [show ltI (-1) 0 = true from rfl, br_t, bnd_s, sumE_l]
  dsimp only
  rw [clone_eq m (by omega), bnd_s]
  dsimp only
  rw [br_pos (inC_t (by rw [lenL_nat]; omega) (by omega)), show eqI (lenL ([q] : List Page)) 0 = false from rfl, br_f, eq_t rfl, br_t, br_pos (fits2_t (by simp; omega)), bnd_s]
  rfl
theorem addNew (m : List Page) (hm : MemT m) (hl : m.length < 32) (b p : Int) (b0 : 0 ≤ b) (b1 : b ≤ 65280) (b2 : b % 256 = 0) (p0 : 0 ≤ p) (p7 : p ≤ 7) (hb : ∀ i, i < m.length → (pgN m i).base < b) :
    S_impl_AddPage (((m, ()), (b, (p, ()))), ()) = some (((m ++ [Page.mk b p zer], ()), (0, ())), ()) := by
  have hf : fnd m b < 0 := by
    rcases fnd_spec hm.r b with h | ⟨i, hi, _, h1, h2, _⟩
    · rw [h]; decide
    · have h3 := hm.pg i hi
      have := hb i hi
      rw [pgN_get hi] at this h3
      omega
  unfold S_impl_AddPage S_strings_Repeat
  dsimp only
  rw [impl_MemoryOK_eq m (by omega) (by unfold F; omega), bnd_s, hm.ok]
  dsimp only
  rw [notB_t, br_f, isBase_eq, isBase_t b0 b1 b2, bnd_s]
  dsimp only
  rw [notB_t, br_f, isPerm_eq, bnd_s, bnd_s]
  dsimp only
  rw [show isPerm p = true from by simp only [isPerm, inB, Bool.and_eq_true, decide_eq_true_eq]; omega, notB_t, br_f, pageOf_eq m hm.r, bnd_s]
  dsimp only
  rw [le_no hf, br_f, eq_f (by rw [lenL_nat]; omega), br_f, show pRepeat [0] 256 = some (zer, ()) from rfl, bnd_s]
  dsimp only
  rw [with_eq m (by omega) (Page.mk b p zer) (fun i hi => Int.le_of_lt (hb i hi)), bnd_s]
theorem addOld (m : List Page) (hm : MemT m) (b p : Int) (b0 : 0 ≤ b) (b1 : b ≤ 65280) (b2 : b % 256 = 0) (p0 : 0 ≤ p) (p7 : p ≤ 7) (hf : 0 ≤ fnd m b) :
    S_impl_AddPage (((m, ()), (b, (p, ()))), ()) = some (((m, ()), (13, ())), ()) := by
  have hl := hm.len
  unfold S_impl_AddPage
  dsimp only
  rw [impl_MemoryOK_eq m (by omega) (by unfold F; omega), bnd_s, hm.ok]
  dsimp only
  rw [notB_t, br_f, isBase_eq, isBase_t b0 b1 b2, bnd_s]
  dsimp only
  rw [notB_t, br_f, isPerm_eq, bnd_s, bnd_s]
  dsimp only
  rw [show isPerm p = true from by simp only [isPerm, inB, Bool.and_eq_true, decide_eq_true_eq]; omega, notB_t, br_f, pageOf_eq m hm.r, bnd_s]
  dsimp only
  rw [br_pos (le_t hf), copy_eq m (by omega), bnd_s]
theorem setPerm_eq (m : List Page) (hm : MemT m) (b p : Int) (i : Nat) (b0 : 0 ≤ b) (b1 : b ≤ 65280) (b2 : b % 256 = 0) (p0 : 0 ≤ p) (p7 : p ≤ 7) (hi : i < m.length) (hf : fnd m b = (i : Int)) :
    S_impl_SetPerm (((m, ()), (b, (p, ()))), ()) = some (((m.set i (Page.mk (pgN m i).base p (pgN m i).data), ()), (0, ())), ()) := by
  have hl := hm.len
  unfold S_impl_SetPerm
  dsimp only
  rw [impl_MemoryOK_eq m (by omega) (by unfold F; omega), bnd_s, hm.ok]
  dsimp only
  rw [notB_t, br_f, isBase_eq, isBase_t b0 b1 b2, bnd_s]
  dsimp only
  rw [notB_t, br_f, isPerm_eq, bnd_s, bnd_s]
  dsimp only
  rw [show isPerm p = true from by simp only [isPerm, inB, Bool.and_eq_true, decide_eq_true_eq]; omega, notB_t, br_f, copy_eq m (by omega), bnd_s, pageOf_eq m hm.r, bnd_s]
  dsimp only
  rw [hf, lt_no (by omega), br_f, br_pos (inR_t (by omega) (by rw [lenL_nat]; omega)), getL_pgN]
  unfold setL
  rw [Int.toNat_natCast]
/-- One page, two pages. -/
def one (b p : Int) : List Page := [Page.mk b p zer]
def two (b p : Int) : List Page := [Page.mk b p zer, Page.mk (b + 256) 7 zer]
theorem one_T {b p : Int} (b0 : 0 ≤ b) (b1 : b ≤ 65280) (b2 : b % 256 = 0) (p0 : 0 ≤ p) (p7 : p ≤ 7) : MemT (one b p) := by
  refine ⟨by simp [one], fun i hi => ?_, fun i hi => ?_⟩
  · have : i = 0 := by simp [one] at hi; omega
    subst this
    exact ⟨b0, b1, b2, p0, p7, zer_len⟩
  · simp [one] at hi
theorem two_T {b p : Int} (b0 : 0 ≤ b) (b1 : b ≤ 65024) (b2 : b % 256 = 0) (p0 : 0 ≤ p) (p7 : p ≤ 7) : MemT (two b p) := by
  refine ⟨by simp [two], fun i hi => ?_, fun i hi => ?_⟩
  · have : i = 0 ∨ i = 1 := by simp [two] at hi; omega
    rcases this with rfl | rfl
    · exact ⟨b0, by show b ≤ _; omega, b2, p0, p7, zer_len⟩
    · exact ⟨by show 0 ≤ b + 256; omega, by show b + 256 ≤ _; omega, by show (b + 256) % 256 = 0; omega, by show (0 : Int) ≤ 7; decide, by show (7 : Int) ≤ 7; decide, zer_len⟩
  · have : i = 0 := by simp [two] at hi; omega
    subst this
    show b < b + 256
    omega
theorem one_fnd (b p : Int) : fnd (one b p) b = 0 := by
  unfold fnd one findFrom
  rw [if_pos (by simp [inPage])]; rfl
theorem two_fnd (b p a : Int) : fnd (two b p) a = if b ≤ a ∧ a < b + 256 then 0 else if b + 256 ≤ a ∧ a < b + 512 then 1 else -1 := by
  unfold fnd two findFrom findFrom findFrom inPage
  simp only [Bool.and_eq_true, decide_eq_true_eq]
  by_cases h : b ≤ a ∧ a < b + 256
  · rw [if_pos h, if_pos (show b ≤ a ∧ a - b < 256 by omega)]; rfl
  · rw [if_neg h, if_neg (show ¬ (b ≤ a ∧ a - b < 256) by omega)]
    by_cases h2 : b + 256 ≤ a ∧ a < b + 512
    · rw [if_pos h2, if_pos (show b + 256 ≤ a ∧ a - (b + 256) < 256 by omega)]; rfl
    · rw [if_neg h2, if_neg (show ¬ (b + 256 ≤ a ∧ a - (b + 256) < 256) by omega)]
theorem two_faultB (b p a P : Int) (n : Nat) (k : Int) (h : b ≤ a + k ∧ a + k < b + 256) (hp : iand .i64 p P = 0) : faultR (two b p) a P (n + 1) k = 14 := by
  rw [faultR, two_fnd, if_pos h, if_neg (by decide), if_pos (by exact hp)]
theorem two_faultO (b p a P : Int) (hp : iand .i64 p P ≠ 0) (hp7 : iand .i64 7 P ≠ 0) : ∀ (n : Nat) (k : Int), b ≤ a + k → a + k + n ≤ b + 512 → faultR (two b p) a P n k = 0
  | 0, _, _, _ => rfl
  | n + 1, k, h0, h1 => by
    rw [faultR, two_fnd]
    by_cases h : b ≤ a + k ∧ a + k < b + 256
    · rw [if_pos h, if_neg (by decide), if_neg (by exact hp)]
      exact two_faultO b p a P hp hp7 n (k + 1) (by omega) (by omega)
    · rw [if_neg h, if_pos (show b + 256 ≤ a + k ∧ a + k < b + 512 by omega), if_neg (by decide), if_neg (by exact hp7)]
      exact two_faultO b p a P hp hp7 n (k + 1) (by omega) (by omega)
theorem two_faultE (b p P : Int) (hp7 : iand .i64 7 P ≠ 0) : faultR (two b p) (b + 511) P 2 0 = 13 := by
  rw [faultR, two_fnd, if_neg (show ¬ (b ≤ b + 511 + 0 ∧ b + 511 + 0 < b + 256) by omega), if_pos (show b + 256 ≤ b + 511 + 0 ∧ b + 511 + 0 < b + 512 by omega), if_neg (by decide), if_neg (by exact hp7), faultR, two_fnd]
  rw [if_neg (show ¬ (b ≤ b + 511 + (0 + 1) ∧ b + 511 + (0 + 1) < b + 256) by omega), if_neg (show ¬ (b + 256 ≤ b + 511 + (0 + 1) ∧ b + 511 + (0 + 1) < b + 512) by omega), if_pos (by decide)]
end Go.Den.G
namespace Go.Den.G
open Go.Den
theorem Equal_ne (x y : List Page) (hx : x.length ≤ 1048576) (hl : x.length = y.length) (hne : x ≠ y) : S_slices_Equal_implPage ((x, (y, ())), ()) = some (false, ()) := by
  have : ∃ r, S_slices_Equal_implPage ((x, (y, ())), ()) = some (r, ()) ∧ (r = true → x = y) := by
    unfold S_slices_Equal_implPage
    simp only [lenL_nat]
    rw [eq_t (by omega), notB_t, br_f]
    refine iter_ind (fun s => s.1.1 = x ∧ s.1.2.1 = y ∧ s.1.2.2.1 = (x.length : Int) ∧ ∃ j : Nat, j ≤ x.length ∧ s.1.2.2.2.1 = (j : Int) ∧ ∀ i, i < j → pgN x i = pgN y i) (fun s => x.length - s.1.2.2.2.1.toNat) (fun _ o => ∃ r, o = some (r, ()) ∧ (r = true → x = y)) ?_ F _ ⟨rfl, rfl, rfl, 0, by omega, rfl, fun i hi => by omega⟩ (by unfold F; dsimp only; omega)
    rintro ⟨⟨y', z, l, i, _⟩, _⟩ rec ⟨h1, h2, h3, j, h4, h5, h6⟩ hrec
    dsimp only at h1 h2 h3 h4 h5 hrec ⊢
    subst h1 h2 h3 h5
    by_cases hi : (j : Int) < (y'.length : Int)
    · rw [br_pos (lt_t hi), br_pos (inR_t (by omega) hi), br_pos (inR_t (by omega) (by omega)), getL_pgN, getL_pgN]
      by_cases he : pgN y' j = pgN z j
      · rw [he, eq_t rfl, eq_t rfl, show eqS _ _ = true from decide_eq_true rfl, show notB (andB true (andB true true)) = false from rfl, br_f, addI_id (by omega) (by omega)]
        refine hrec _ ⟨rfl, rfl, rfl, j + 1, by omega, by dsimp only; omega, fun i hi => ?_⟩ (by dsimp only; omega)
        by_cases hij : i = j
        · subst hij; exact he
        · exact h6 i (by omega)
      · refine ⟨false, ?_, by simp⟩
        rw [br_pos]
        cases hb : eqI (pgN y' j).base (pgN z j).base with
        | false => rfl
        | true =>
          cases hp : eqI (pgN y' j).perm (pgN z j).perm with
          | false => rfl
          | true =>
            cases hd : eqS (pgN y' j).data (pgN z j).data with
            | false => rfl
            | true => exact absurd (page_ext (eq_iff.1 hb) (eq_iff.1 hp) (of_decide_eq_true hd)) he
    · rw [br_neg (lt_f hi)]
      refine ⟨true, rfl, fun _ => List.ext_getElem hl fun i g1 g2 => ?_⟩
      have := h6 i (by omega)
      rwa [pgN_get g1, pgN_get g2] at this
  obtain ⟨r, h1, h2⟩ := this
  cases r with
  | true => exact absurd (h2 rfl) hne
  | false => exact h1
theorem Same_ne (x y : List Page) (hx : MemT x) (hy : MemT y) (hl : x.length = y.length) (hne : x ≠ y) : S_impl_SameMemory (((x, ()), ((y, ()), ())), ()) = some (false, ()) := by
  have h1 := hx.len
  have h2 := hy.len
  unfold S_impl_SameMemory
  dsimp only
  rw [impl_MemoryOK_eq x (by omega) (by unfold F; omega), bnd_s, hx.ok, br_t, impl_MemoryOK_eq y (by omega) (by unfold F; omega), bnd_s, hy.ok, bnd_s]
  dsimp only
  rw [br_t, Equal_ne x y (by omega) hl hne, bnd_s, bnd_s]
theorem fault1 (m : List Page) (hm : MemT m) (a : Int) (ha : I64 a) : S_impl_Memory_fault (((m, ()), (a, (1, (4, ())))), ()) = some (faultR m a 4 1 0, ()) := impl_fault_eq m hm.r a 4 1 (by decide) ha (by decide) (by decide)
theorem fetchNo (m : List Page) (hm : MemT m) (a : Int) (ha : I64 a) (h : faultR m a 4 1 0 = 14) : S_impl_FetchAt (((m, ()), (a, ())), ()) = some (([], (14, ())), ()) := by
  have hl := hm.len
  unfold S_impl_FetchAt
  dsimp only
  rw [impl_MemoryOK_eq m (by omega) (by unfold F; omega), bnd_s, hm.ok]
  dsimp only
  rw [notB_t, br_f, fault1 m hm a ha, bnd_s]
  dsimp only
  rw [h, show eqI (14 : Int) 0 = false from rfl, notB_f, br_t]
theorem fetchOk (m : List Page) (hm : MemT m) (a : Int) (a0 : 0 ≤ a) (a1 : a ≤ 65000) (h : ∀ j : Nat, j < 15 → faultR m (a + j) 4 1 0 = 0) : ∃ t, S_impl_FetchAt (((m, ()), (a, ())), ()) = some ((t, (0, ())), ()) ∧ t.length = 15 := by
  have hl := hm.len
  have h0 := h 0 (by decide)
  rw [show a + ((0 : Nat) : Int) = a by omega] at h0
  unfold S_impl_FetchAt
  dsimp only
  rw [impl_MemoryOK_eq m (by omega) (by unfold F; omega), bnd_s, hm.ok]
  dsimp only
  rw [notB_t, br_f, fault1 m hm a (by unfold I64; omega), bnd_s]
  dsimp only
  rw [h0, eq_t rfl, notB_t, br_f]
  refine iter_ind (fun (s : (Int × (Int × Unit)) × ((List Page × Unit) × Unit)) => s.1.1 = a ∧ s.2.1.1 = m ∧ ∃ j : Nat, j ≤ 15 ∧ s.1.2.1 = (j : Int)) (fun s => 15 - s.1.2.1.toNat) (fun _ (o : Option ((List UInt8 × (Int × Unit)) × Unit)) => ∃ t, o = some ((t, (0, ())), ()) ∧ t.length = 15) ?_ F _ ⟨rfl, rfl, 1, by decide, rfl⟩ (by unfold F; dsimp only; omega)
  rintro ⟨⟨b, i, _⟩, ⟨xs, _⟩, _⟩ rec ⟨h1, h2, j, h3, h4⟩ hrec
  dsimp only at h1 h2 h4 hrec ⊢
  subst h1 h2 h4
  by_cases hj : j < 15
  · rw [br_pos (lt_t (by omega)), addI_id (a := b) (by omega) (by omega), fault1 xs hm (b + j) (by unfold I64; omega), bnd_s, bnd_s]
    dsimp only
    rw [h j hj, eq_t rfl, br_t, addI_id (by omega) (by omega)]
    exact hrec _ ⟨rfl, rfl, j + 1, by omega, by dsimp only; omega⟩ (by dsimp only; omega)
  · have : j = 15 := by omega
    subst this
    have hok : ∀ k, k < 15 → ¬ fnd xs (b + (k : Nat)) < 0 := fun k hk => by
      have := faultR_ok hm.r 1 0 (h k hk) 0 (by decide) (by decide)
      rwa [show b + (k : Int) + ((0 : Nat) : Int) = b + k by omega] at this
    rw [lt_no (by decide), br_f, bnd_s, br_f, show S_impl_Memory_bytes (((xs, ()), (b, (((15 : Nat) : Int), ()))), ()) = _ from bytes_eq xs hm.r b 15 (by decide) (by unfold I64; omega) hok, bnd_s]
    exact ⟨_, rfl, by rw [toStr_len]; simp⟩
theorem permAt (m : List Page) (hm : MemT m) (a : Int) (i : Nat) (hi : i < m.length) (hf : fnd m a = (i : Int)) : S_impl_PermAt (((m, ()), (a, ())), ()) = some (((pgN m i).perm, (0, ())), ()) := by
  have hl := hm.len
  unfold S_impl_PermAt
  dsimp only
  rw [impl_MemoryOK_eq m (by omega) (by unfold F; omega), bnd_s, hm.ok]
  dsimp only
  rw [notB_t, br_f, pageOf_eq m hm.r, bnd_s]
  dsimp only
  rw [hf, lt_no (by omega), br_f, br_pos (inR_t (by omega) (by rw [lenL_nat]; omega)), getL_pgN]
theorem loadErr (m : List Page) (hm : MemT m) (a : Int) (n : Nat) (hn : isSz (n : Int) = true) (ha : I64 a) : ∃ v, S_impl_LoadAt (((m, ()), (a, ((n : Int), ()))), ()) = some ((v, (faultR m a 1 n 0, ())), ()) := by
  have hl := hm.len
  rw [impl_LoadAt_eq m (by omega) a n ha]
  unfold loadAtR loadR
  rw [if_pos hm.ok, if_pos hn, Int.toNat_natCast]
  by_cases h : faultR m a 1 n 0 = 0
  · rw [if_pos h, h]; exact ⟨_, rfl⟩
  · rw [if_neg h]; exact ⟨_, rfl⟩
theorem zer_get : ∀ (c j : Nat), (Go.Lib.repeatL [0] c).getD j 0 = 0
  | 0, j => by simp [Go.Lib.repeatL]
  | c + 1, 0 => by simp [Go.Lib.repeatL]
  | c + 1, j + 1 => by
    have := zer_get c j
    simpa [Go.Lib.repeatL] using this
/-- What stands in the two pages is turned by a store of 5. -/
theorem stored_ne {b p a : Int} {x : List Page} (h0 : b ≤ a) (h1 : a < b + 256) (hl : Laid (two b p) a (leB 5 8) 8 x) : x ≠ two b p := by
  intro e
  subst e
  have h4 := (hl.pg 0 (by simp [two])).2.2.2 (a - b).toNat (by omega)
  have e1 : (pgN (two b p) 0).base = b := rfl
  have e2 : (pgN (two b p) 0).data = zer := rfl
  rw [e1, e2, if_pos (by omega), show (b + ((a - b).toNat : Nat) - a).toNat = 0 by omega] at h4
  unfold zer at h4
  rw [zer_get] at h4
  exact absurd h4 (by decide)
theorem permsLaw (code more : List Int) (hc : ∀ b ∈ code, 0 ≤ b ∧ b ≤ 255) (hm : ∀ b ∈ more, 0 ≤ b ∧ b ≤ 255) : S_laws_FnPerms ((code, (more, ())), ()) = some (true, ()) := by
  refine Ret.eq ?_
  unfold S_laws_FnPerms
  refine Ret.bnd (Q := fun z => z = false → code.length ≤ 1048576 ∧ more.length ≤ 1048576) (Ret.br (fun _ => Ret.some (by simp)) fun h1 => Ret.some fun h2 => ?_) fun z hz => ?_
  · dsimp only at h1 h2
    rw [lt_nf, lenL_nat] at h1 h2
    omega
  refine Ret.br (fun _ => Ret.some rfl) fun h => ?_
  obtain ⟨l1, l2⟩ := hz h
  have hc : Bytes code := ⟨hc, l1⟩
  have hm : Bytes more := ⟨hm, l2⟩
  dsimp only
  refine Ret.bnd (at_ret hm 0 200 (by decide) (by decide) (by decide)) fun r3 hr3 => ?_
  rw [mulI_id (by omega) (by omega)]
  obtain ⟨b, hb⟩ : ∃ b : Int, b = 256 * r3.1 := ⟨_, rfl⟩
  have b0 : 0 ≤ b := by omega
  have b1 : b ≤ 50944 := by omega
  have b2 : b % 256 = 0 := by omega
  rw [← hb]
  refine Ret.iter (fun y => y.1.1 = code ∧ y.1.2.1 = b ∧ 0 ≤ y.1.2.2.1 ∧ y.1.2.2.1 ≤ 8) (fun y => 8 - y.1.2.2.1.toNat) ?_ F _ ⟨rfl, rfl, by dsimp only; omega, by dsimp only; omega⟩ (by unfold F; dsimp only; omega)
  rintro ⟨⟨c', b', p, _⟩, _⟩ rec ⟨h1, h2, p0, p8⟩ hrec
  dsimp only at h1 h2 p0 p8 hrec ⊢
  subst h1 h2
  refine Ret.br (fun hp => ?_) fun _ => Ret.some rfl
  rw [lt_iff] at hp
  have hT1 : MemT (one b' 0) := one_T b0 (by omega) b2 (by decide) (by decide)
  have hT2 : MemT (one b' p) := one_T b0 (by omega) b2 p0 (by omega)
  have hT3 : MemT (two b' p) := two_T b0 (by omega) b2 p0 (by omega)
  have hT0 : MemT ([] : List Page) := ⟨by simp, fun i hi => by simp at hi, fun i hi => by simp at hi⟩
  have a1 := addNew [] hT0 (by simp) b' 0 b0 (by omega) b2 (by decide) (by decide) (fun i hi => by simp at hi)
  rw [a1, bnd_s]
  dsimp only
  have a2 : S_impl_SetPerm ((([] ++ [Page.mk b' 0 zer], ()), (b', (p, ()))), ()) = some (((one b' p, ()), (0, ())), ()) := setPerm_eq (one b' 0) hT1 b' p 0 b0 (by omega) b2 p0 (by omega) (by simp [one]) (one_fnd b' 0)
  rw [show (b', (p, _)) = (b', (p, ())) from rfl, a2, bnd_s]
  dsimp only
  rw [addI_id (a := b') (by omega) (by omega)]
  have a3 : S_impl_AddPage (((one b' p, ()), (b' + 256, (7, ()))), ()) = some (((two b' p, ()), (0, ())), ()) := addNew (one b' p) hT2 (by simp [one]) (b' + 256) 7 (by omega) (by omega) (by omega) (by decide) (by decide) (fun i hi => by
    have : i = 0 := by simp [one] at hi; omega
    subst this
    show b' < b' + 256
    omega)
  rw [a3, bnd_s]
  dsimp only
  have a4 := addOld (two b' p) hT3 b' p b0 (by omega) b2 p0 (by omega) (by rw [two_fnd, if_pos (by omega)]; decide)
  rw [a4, bnd_s]
  dsimp only
  have hl3 := hT3.len
  rw [show eqI (0 : Int) 0 = true from rfl, notB_t, br_f, bnd_s, br_f, bnd_s, br_f, show eqI (13 : Int) 13 = true from rfl, notB_t, bnd_s, br_f, impl_MemoryOK_eq (two b' p) (by omega) (by unfold F; omega), bnd_s, hT3.ok, bnd_s]
  dsimp only
  rw [notB_t, br_f]
  refine Ret.bnd (at_ret hc 0 7 (by decide) (by decide) (by decide)) fun r15 hr15 => ?_
  obtain ⟨q0, q7⟩ := hr15
  rw [subI_id (a := b' + 256) (by omega) (by omega), subI_id (by omega) (by omega), addI_id (a := b') (by omega) (by omega), subI_id (a := b' + 512) (by omega) (by omega)]
  obtain ⟨k, hk⟩ : ∃ k : Int, k = b' + 256 - 1 - r15.1 := ⟨_, rfl⟩
  rw [← hk, show b' + 512 - 1 = b' + 511 by omega]
  have hkI : I64 k := by unfold I64; omega
  have hfk : fnd (two b' p) k = 0 := by rw [two_fnd, if_pos (by omega)]
  obtain ⟨v1, e1⟩ : ∃ v, S_impl_LoadAt (((two b' p, ()), (k, (8, ()))), ()) = some ((v, (faultR (two b' p) k 1 8 0, ())), ()) := loadErr (two b' p) hT3 k 8 (by decide) hkI
  obtain ⟨x, e, s1, hcase⟩ : ∃ x e, S_impl_StoreAt (((two b' p, ()), (k, (8, (5, ())))), ()) = some (((x, ()), (e, ())), ()) ∧ (((e = 13 ∨ e = 14) ∧ x = two b' p ∧ faultR (two b' p) k 2 8 0 ≠ 0) ∨ (e = 0 ∧ faultR (two b' p) k 2 8 0 = 0 ∧ Laid (two b' p) k (leB 5 8) 8 x)) := by
    obtain ⟨x, e, s1, _, h⟩ := StoreAt_ex (two b' p) hT3 k 5 8 (by decide) hkI
    exact ⟨x, e, s1, h⟩
  obtain ⟨v2, e2⟩ : ∃ v, S_impl_LoadAt (((two b' p, ()), (b' + 511, (2, ()))), ()) = some ((v, (faultR (two b' p) (b' + 511) 1 2 0, ())), ()) := loadErr (two b' p) hT3 (b' + 511) 2 (by decide) (by unfold I64; omega)
  rw [two_faultE b' p 1 (by decide)] at e2
  have e3 : S_impl_PermAt (((two b' p, ()), (k, ())), ()) = some ((p, (0, ())), ()) := permAt (two b' p) hT3 k 0 (by simp [two]) hfk
  have hfe : ∃ t c, S_impl_FetchAt (((two b' p, ()), (k, ())), ()) = some ((t, (c, ())), ()) ∧ ((iand .i64 p 4 = 0 ∧ c = 14) ∨ (iand .i64 p 4 ≠ 0 ∧ c = 0 ∧ t.length = 15)) := by
    by_cases h4 : iand .i64 p 4 = 0
    · exact ⟨_, _, fetchNo (two b' p) hT3 k hkI (two_faultB b' p k 4 0 0 (by omega) h4), .inl ⟨h4, rfl⟩⟩
    · obtain ⟨t, ht, htl⟩ := fetchOk (two b' p) hT3 k (by omega) (by omega) (fun j hj => two_faultO b' p (k + j) 4 h4 (by decide) 1 0 (by omega) (by omega))
      exact ⟨t, 0, ht, .inr ⟨h4, rfl, htl⟩⟩
  obtain ⟨t, c, e4, hcf⟩ := hfe
  have f1 : (iand .i64 p 1 = 0 ∧ faultR (two b' p) k 1 8 0 = 14) ∨ (iand .i64 p 1 ≠ 0 ∧ faultR (two b' p) k 1 8 0 = 0) := by
    by_cases h1 : iand .i64 p 1 = 0
    · exact .inl ⟨h1, two_faultB b' p k 1 7 0 (by omega) h1⟩
    · exact .inr ⟨h1, two_faultO b' p k 1 h1 (by decide) 8 0 (by omega) (by omega)⟩
  have f2 : (iand .i64 p 2 = 0 ∧ e ≠ 0 ∧ S_impl_SameMemory (((x, ()), ((two b' p, ()), ())), ()) = some (true, ())) ∨ (iand .i64 p 2 ≠ 0 ∧ e = 0 ∧ S_impl_SameMemory (((x, ()), ((two b' p, ()), ())), ()) = some (false, ())) := by
    by_cases h2 : iand .i64 p 2 = 0
    · have hz := two_faultB b' p k 2 7 0 (by omega) h2
      rcases hcase with ⟨g1, rfl, _⟩ | ⟨_, g2, _⟩
      · exact .inl ⟨h2, by omega, Same_self _ hT3⟩
      · rw [hz] at g2; exact absurd g2 (by decide)
    · have hz := two_faultO b' p k 2 h2 (by decide) 8 0 (by omega) (by omega)
      rcases hcase with ⟨_, _, g3⟩ | ⟨g1, _, g3⟩
      · exact absurd hz g3
      · exact .inr ⟨h2, g1, Same_ne x _ (g3.memT hT3) hT3 g3.len (stored_ne (by omega) (by omega) g3)⟩
  rw [e1, bnd_s, s1, bnd_s, e4, bnd_s, e2, bnd_s, e3, bnd_s]
  dsimp only
  have g1 : notB (eqB (eqI (faultR (two b' p) k 1 8 0) 0) (notB (eqI (iand .i64 p 1) 0))) = false := by
    rcases f1 with ⟨h1, h2⟩ | ⟨h1, h2⟩
    · rw [h1, h2]; rfl
    · rw [eq_f h1, h2]; rfl
  rw [g1, br_f]
  refine Ret.bnd (Q := fun z => z = false) (Ret.bnd (Q := fun z => z = false) (Ret.br (fun hz => Ret.some ?_) fun _ => Ret.some rfl) fun z hz => by subst hz; exact Ret.some rfl) fun z hz => ?_
  · rcases f1 with ⟨_, h2⟩ | ⟨_, h2⟩
    · rw [h2]; rfl
    · rw [h2] at hz; exact absurd hz (by decide)
  subst hz
  have g2 : notB (eqB (eqI e 0) (notB (eqI (iand .i64 p 2) 0))) = false := by
    rcases f2 with ⟨h1, h2, _⟩ | ⟨h1, h2, _⟩
    · rw [h1, eq_f h2]; rfl
    · rw [eq_f h1, h2]; rfl
  rw [br_f, bnd_s, g2, br_f]
  refine Ret.bnd (Q := fun z => z = false) ?_ fun z hz => ?_
  · rcases f2 with ⟨_, h2, h3⟩ | ⟨_, h2, h3⟩
    · rw [h3, bnd_s, eq_f h2]; exact Ret.some rfl
    · rw [h3, bnd_s, h2]; exact Ret.some rfl
  subst hz
  have g3 : notB (eqB (eqI c 0) (notB (eqI (iand .i64 p 4) 0))) = false := by
    rcases hcf with ⟨h1, h2⟩ | ⟨h1, h2, _⟩
    · rw [h1, h2]; rfl
    · rw [eq_f h1, h2]; rfl
  rw [br_f, bnd_s, g3, br_f, bnd_s, show eqI (13 : Int) 13 = true from rfl, notB_t, br_f, eq_t (a := p) rfl, notB_t, bnd_s, br_f, eq_t (a := 0) rfl, notB_t, bnd_s, br_f]
  refine Ret.bnd (Q := fun z => z = false) (Ret.br (fun hz => Ret.some ?_) fun _ => Ret.some rfl) fun z hz => ?_
  · rcases hcf with ⟨_, h2⟩ | ⟨_, _, h3⟩
    · rw [h2] at hz; exact absurd hz (by decide)
    · rw [lenL_nat, h3]; rfl
  subst hz
  rw [br_f, addI_id (by omega) (by omega)]
  exact hrec _ ⟨rfl, rfl, by dsimp only; omega, by dsimp only; omega⟩ (by dsimp only; omega)
/-- The law: a page's rights rule what can be done there. -/
theorem pure_Perms (y : VTL.Ty [.list .u, .list .u]) (h : VTL.wf [.list .u, .list .u] y) : S_laws_FnPerms (y, ()) = some (true, ()) := by
  obtain ⟨code, more, _⟩ := y
  obtain ⟨h1, h2, _⟩ := h
  exact permsLaw code more (fun b hb => elWf_u (h1.2 b hb)) fun b hb => elWf_u (h2.2 b hb)
end Go.Den.G
