/- Theory for the proofs of this claim: see its last text. -/
import Derived.Test.YtkdcimbonbjljaaFnLoadAt
import Derived.Test.YtkdcimbonbjljaaDenF
namespace Go.Den.G
open Go.Den

def pg (m : List Page) (i : Int) : Page := getL m i (dflt .page)
def inB (a b c : Int) : Bool := decide (b ≤ a) && decide (a ≤ c)
theorem l01In_eq (a b c : Int) : S_spec_l01In ((a, (b, (c, ()))), ()) = some (inB a b c, ()) := by
  unfold S_spec_l01In inB
  dsimp only
  by_cases h : b ≤ a
  · rw [br_pos (le_t h), bnd_s]; simp [leI, h]
  · rw [br_neg (le_f h), bnd_s]; simp [h]
theorem within_eq (a b c : Int) : S_impl_within ((a, (b, (c, ()))), ()) = some (inB a b c, ()) := l01In_eq a b c
def isBase (b : Int) : Bool := inB b 0 65535 && eqI (remI b 256) 0
def isPerm (p : Int) : Bool := inB p 0 7
theorem l02Base_eq (b : Int) : S_spec_l02Base ((b, ()), ()) = some (isBase b, ()) := by
  unfold S_spec_l02Base isBase
  rw [l01In_eq, bnd_s]
  dsimp only
  cases inB b 0 65535 <;> simp [br_t, br_f, bnd_s]
theorem isBase_eq (b : Int) : S_impl_isBase ((b, ()), ()) = some (isBase b, ()) := l02Base_eq b
theorem l02Perm_eq (b : Int) : S_spec_l02Perm ((b, ()), ()) = some (isPerm b, ()) := by
  unfold S_spec_l02Perm isPerm
  rw [l01In_eq, bnd_s]
theorem isPerm_eq (b : Int) : S_impl_isPerm ((b, ()), ()) = some (isPerm b, ()) := l02Perm_eq b

/-- Is the page right, behind the one ahead of it? -/
def good (m : List Page) (i : Int) : Bool :=
  isBase (pg m i).base && (isPerm (pg m i).perm && (eqI ((pg m i).data.length : Int) 256 && (!decide (0 < i) || ltI (pg m (i - 1)).base (pg m i).base)))
def okFrom (m : List Page) (i : Nat) : Bool := (List.range' i (m.length - i)).all fun j => good m j
theorem okFrom_step {m : List Page} {i : Nat} (h : i < m.length) : okFrom m i = (good m i && okFrom m (i + 1)) := by
  unfold okFrom
  rw [show m.length - i = (m.length - (i + 1)) + 1 by omega, List.range'_succ]
  rfl
theorem okFrom_end {m : List Page} {i : Nat} (h : m.length ≤ i) : okFrom m i = true := by
  unfold okFrom
  rw [show m.length - i = 0 by omega]; rfl
def memOK (m : List Page) : Bool := decide ((m.length : Int) ≤ 32) && okFrom m 0
/-- One page more is looked at. -/
theorem good_cases (m : List Page) (i : Nat) : good m i = (isBase (pg m i).base && (isPerm (pg m i).perm && (eqI ((pg m i).data.length : Int) 256 && (!decide (0 < (i : Int)) || ltI (pg m ((i : Int) - 1)).base (pg m i).base)))) := rfl
theorem le_not_lt (a b : Int) : leI a b = !ltI b a := by unfold leI ltI; by_cases h : a ≤ b <;> simp [h] <;> omega

theorem spec_MemoryOK_eq (m : List Page) (hm : (m.length : Int) < 4611686018427387904) : S_spec_MemoryOK (((m, ()), ()), ()) = some (memOK m, ()) := by
  unfold S_spec_MemoryOK memOK
  simp only [lenL_nat]
  by_cases h32 : (32 : Int) < m.length
  · rw [br_pos (lt_t h32)]; simp [show ¬ (m.length : Int) ≤ 32 by omega]
  · rw [br_neg (lt_f h32)]
    refine (iter_eq (fun x => x.2.1.1 = m ∧ 0 ≤ x.1.1 ∧ x.1.1 ≤ (m.length : Int)) (fun x => m.length - x.1.1.toNat) (fun x => some (okFrom m x.1.1.toNat, ())) ?_ F _ ?_ ?_).trans ?_
    · rintro ⟨⟨i, _⟩, ⟨xs, _⟩, _⟩ rec ⟨rfl, h0, h1⟩ hrec
      dsimp only at h0 h1 hrec hm h32 ⊢
      by_cases hi : i < xs.length
      · obtain ⟨n, rfl⟩ := Int.eq_ofNat_of_zero_le h0
        have hn : n < xs.length := by omega
        rw [br_pos (lt_t hi), br_pos (inR_t h0 hi), l02Base_eq, bnd_s]
        dsimp only
        have hst : rec (((addI IntKind.i64 (n : Int) 1), ()), ((xs, ()), ())) = some (okFrom xs (n + 1), ()) := by
          rw [add_id (by unfold I64; omega)]
          rw [hrec _ ⟨rfl, by dsimp only; omega, by dsimp only; omega⟩ (by dsimp only; omega)]
          rfl
        rw [hst, Int.toNat_natCast, okFrom_step hn, good_cases]
        show _ = some ((isBase (getL xs (n : Int) (dflt .page)).base && _) && _, ())
        cases isBase (getL xs (n : Int) (dflt .page)).base
        · rfl
        · rw [notB_not, Bool.not_true, br_f, l02Perm_eq, bnd_s]
          dsimp only
          show _ = some ((true && (isPerm (getL xs (n : Int) (dflt .page)).perm && _)) && _, ())
          cases isPerm (getL xs (n : Int) (dflt .page)).perm
          · rfl
          · rw [notB_not, Bool.not_true, br_f, notB_not]
            show _ = some ((true && (true && (eqI ((getL xs (n : Int) (dflt .page)).data.length : Int) 256 && _))) && _, ())
            cases eqI ((getL xs (n : Int) (dflt .page)).data.length : Int) 256
            · rfl
            · rw [Bool.not_true, br_f]
              by_cases hp : 0 < (n : Int)
              · rw [br_pos (lt_t hp), sub_id (by unfold I64; omega), br_pos (inR_t (by omega) (by omega)), le_not_lt]
                show _ = some ((true && (true && (true && (!decide (0 < (n : Int)) || ltI (getL xs ((n : Int) - 1) (dflt .page)).base (getL xs (n : Int) (dflt .page)).base)))) && _, ())
                rw [show decide (0 < (n : Int)) = true from decide_eq_true hp]
                cases ltI (getL xs ((n : Int) - 1) (dflt .page)).base (getL xs (n : Int) (dflt .page)).base
                · simp [br_t]
                · simp [br_f]
              · rw [br_neg (lt_f hp), show decide (0 < (n : Int)) = false from decide_eq_false hp]; simp
      · rw [br_neg (lt_f hi), okFrom_end (by omega)]
    · exact ⟨rfl, by simp, by simp⟩
    · simp [F]; omega
    · simp [show (m.length : Int) ≤ 32 by omega]
theorem impl_MemoryOK_eq (m : List Page) (hm : (m.length : Int) < 4611686018427387904) (hF : m.length < F) : S_impl_MemoryOK (((m, ()), ()), ()) = some (memOK m, ()) := by
  unfold S_impl_MemoryOK memOK
  simp only [lenL_nat]
  refine (iter_eq (fun x => x.2.1.1 = m ∧ x.1.1 = m ∧ x.1.2.1 = (m.length : Int) ∧ 0 ≤ x.1.2.2.1 ∧ x.1.2.2.1 ≤ (m.length : Int)) (fun x => m.length - x.1.2.2.1.toNat) (fun x => some (decide ((m.length : Int) ≤ 32) && okFrom m x.1.2.2.1.toNat, ())) ?_ F _ ?_ ?_).trans ?_
  · rintro ⟨⟨ys, len, i, _⟩, ⟨xs, _⟩, _⟩ rec ⟨rfl, h2, h3, h0, h1⟩ hrec
    dsimp only at h0 h1 h2 h3 hrec hm hF ⊢
    subst h2
    subst h3
    by_cases hi : i < ys.length
    · obtain ⟨n, rfl⟩ := Int.eq_ofNat_of_zero_le h0
      have hn : n < ys.length := by omega
      rw [br_pos (lt_t hi), br_pos (inR_t h0 hi), isBase_eq, bnd_s]
      dsimp only
      have hst : rec ((ys, ((ys.length : Int), ((addI IntKind.i64 (n : Int) 1), ()))), ((ys, ()), ())) = some (decide ((ys.length : Int) ≤ 32) && okFrom ys (n + 1), ()) := by
        rw [add_id (by unfold I64; omega)]
        rw [hrec _ ⟨rfl, rfl, rfl, by dsimp only; omega, by dsimp only; omega⟩ (by dsimp only; omega)]
        rfl
      rw [hst, Int.toNat_natCast, okFrom_step hn, good_cases]
      show _ = some (_ && ((isBase (getL ys (n : Int) (dflt .page)).base && _) && _), ())
      cases isBase (getL ys (n : Int) (dflt .page)).base
      · simp [notB_not, br_t]
      · rw [notB_not, Bool.not_true, br_f, isPerm_eq, bnd_s]
        dsimp only
        show _ = some (_ && ((true && (isPerm (getL ys (n : Int) (dflt .page)).perm && _)) && _), ())
        cases isPerm (getL ys (n : Int) (dflt .page)).perm
        · simp [notB_not, br_t]
        · rw [notB_not, Bool.not_true, br_f, notB_not]
          show _ = some (_ && ((true && (true && (eqI ((getL ys (n : Int) (dflt .page)).data.length : Int) 256 && _))) && _), ())
          cases eqI ((getL ys (n : Int) (dflt .page)).data.length : Int) 256
          · simp [br_t]
          · rw [Bool.not_true, br_f]
            by_cases hp : 0 < (n : Int)
            · rw [br_pos (lt_t hp), sub_id (by unfold I64; omega), br_pos (inR_t (by omega) (by omega)), le_not_lt]
              show _ = some (_ && ((true && (true && (true && (!decide (0 < (n : Int)) || ltI (getL ys ((n : Int) - 1) (dflt .page)).base (getL ys (n : Int) (dflt .page)).base)))) && _), ())
              rw [show decide (0 < (n : Int)) = true from decide_eq_true hp]
              cases ltI (getL ys ((n : Int) - 1) (dflt .page)).base (getL ys (n : Int) (dflt .page)).base
              · simp [br_t]
              · simp [br_f]
            · rw [br_neg (lt_f hp), show decide (0 < (n : Int)) = false from decide_eq_false hp]; simp
    · rw [br_neg (lt_f hi), okFrom_end (by omega)]
      simp [leI]
  · exact ⟨rfl, rfl, rfl, by simp, by simp⟩
  · simpa using hF
  · simp
end Go.Den.G
namespace Go.Den.G
open Go.Den
/-- The number that bytes are, the lowest first. -/
def leN : List UInt8 → Nat
  | [] => 0
  | b :: r => b.toNat + 256 * leN r
theorem leN_lt : ∀ (t : List UInt8), leN t < 256 ^ t.length
  | [] => by simp [leN]
  | b :: r => by
    have := leN_lt r
    have hb : b.toNat < 256 := b.toNat_lt
    simp only [leN, List.length_cons, Nat.pow_succ]
    omega
theorem leN_take : ∀ (t : List UInt8) (k : Nat) (h : k < t.length), leN (t.take (k + 1)) = leN (t.take k) + t[k].toNat * 256 ^ k
  | [], k, h => by simp at h
  | b :: r, 0, _ => by simp [leN]
  | b :: r, k + 1, h => by
    have hk : k < r.length := by simpa using h
    have := leN_take r k hk
    simp only [List.take_succ_cons, leN, List.getElem_cons_succ, Nat.pow_succ] at this ⊢
    rw [this, Nat.mul_add]
    have : 256 * (r[k].toNat * 256 ^ k) = r[k].toNat * (256 ^ k * 256) := by rw [Nat.mul_left_comm, Nat.mul_comm 256 (256 ^ k)]
    omega
theorem leN_drop (t : List UInt8) (k : Nat) (h : k < t.length) : leN (t.drop k) = t[k].toNat + 256 * leN (t.drop (k + 1)) := by
  rw [List.drop_eq_getElem_cons h, leN]
theorem byteAt_nat {t : List UInt8} {k : Nat} (h : k < t.length) : byteAt t (k : Int) = (t[k].toNat : Int) := by simp [byteAt, h]
theorem u64_id {n : Int} (h0 : 0 ≤ n) (h : n < 18446744073709551616) : IntKind.wrap .u64 n = n := by
  simp only [IntKind.wrap, IntKind.bits, IntKind.signed, Bool.false_and]
  simp only [show (2 : Int) ^ 64 = 18446744073709551616 from rfl]
  simp only [Bool.false_eq_true, if_false]
  exact Int.emod_eq_of_lt h0 h
theorem l01Take_eq (t : List UInt8) (h8 : t.length ≤ 8) : S_spec_l01Take ((t, (0, ((t.length : Int), ()))), ()) = some (IntKind.wrap .i64 (leN t), ()) := by
  unfold S_spec_l01Take
  simp only [lenL_nat]
  rw [sub_id (by unfold I64; omega)]
  refine (iter_eq (fun x => x.1.1 = t ∧ x.1.2.1 = 0 ∧ -1 ≤ x.1.2.2.2.1 ∧ x.1.2.2.2.1 < (t.length : Int) ∧ x.1.2.2.1 = (leN (t.drop (x.1.2.2.2.1 + 1).toNat) : Int)) (fun x => (x.1.2.2.2.1 + 1).toNat) (fun _ => some (IntKind.wrap .i64 (leN t), ())) ?_ F _ ?_ ?_)
  · rintro ⟨⟨s, z, v, i, _⟩, _⟩ rec ⟨rfl, hz, h0, h1, h2⟩ hrec
    dsimp only at hz h0 h1 h2 hrec h8 ⊢
    subst hz
    by_cases hi : 0 ≤ i
    · obtain ⟨n, rfl⟩ := Int.eq_ofNat_of_zero_le hi
      have hn : n < s.length := by omega
      have hlt := leN_lt (s.drop (n + 1))
      have hb : s[n].toNat < 256 := s[n].toNat_lt
      have hpow : 256 ^ (s.drop (n + 1)).length ≤ 256 ^ 7 := Nat.pow_le_pow_right (by decide) (by rw [List.length_drop]; omega)
      rw [show (256 : Nat) ^ 7 = 72057594037927936 from rfl] at hpow
      rw [show ((n : Int) + 1).toNat = n + 1 by omega] at h2
      rw [br_pos (le_t hi), add_id (by unfold I64; omega), show (0 : Int) + n = n by omega, br_pos (inR_t hi (by omega)), byteAt_nat hn]
      rw [hrec _ ⟨rfl, rfl, ?_, ?_, ?_⟩ ?_]
      · dsimp only; rw [sub_id (by unfold I64; omega)]; omega
      · dsimp only; rw [sub_id (by unfold I64; omega)]; omega
      · dsimp only
        rw [sub_id (by unfold I64; omega), show ((n : Int) - 1 + 1).toNat = n by omega, leN_drop s n hn, h2]
        unfold addI mulI wrapI
        rw [u64_id (n := 256 * (leN (s.drop (n + 1)) : Int)) (by omega) (by omega), u64_id (n := (s[n].toNat : Int)) (by omega) (by omega), u64_id (by omega) (by omega)]
        omega
      · dsimp only; rw [sub_id (by unfold I64; omega)]; omega
    · obtain rfl : i = -1 := by omega
      rw [br_neg (le_f hi), h2]
      rfl
  · refine ⟨rfl, rfl, by dsimp only; omega, by dsimp only; omega, ?_⟩
    dsimp only
    rw [show ((t.length : Int) - 1 + 1).toNat = t.length by omega, List.drop_length]
    rfl
  · simp [F]; omega
theorem ofInt_wrap (x : Int) : BitVec.ofInt 64 (IntKind.wrap .i64 x) = BitVec.ofInt 64 x := by
  apply BitVec.eq_of_toNat_eq
  simp only [BitVec.toNat_ofInt, IntKind.wrap, IntKind.bits, IntKind.signed, Bool.true_and, decide_eq_true_eq, ge_iff_le]
  simp only [show (2 : Int) ^ 64 = 18446744073709551616 from rfl, show (2 : Int) ^ (64 - 1) = 9223372036854775808 from rfl, show ((2 ^ 64 : Nat) : Int) = 18446744073709551616 from rfl]
  split <;> omega
theorem ior_disj (a c k : Nat) (ha : a < 2 ^ k) (hc : a + c * 2 ^ k < 18446744073709551616) : ior .i64 (a : Int) (IntKind.wrap .i64 ((c : Int) * 2 ^ k)) = IntKind.wrap .i64 ((a + c * 2 ^ k : Nat) : Int) := by
  unfold ior
  rw [show IntKind.i64.bits = 64 from rfl, ofInt_wrap]
  congr 1
  rw [BitVec.toNat_or]
  have e1 : (BitVec.ofInt 64 (a : Int)).toNat = a := by
    rw [BitVec.toNat_ofInt]; simp only [show ((2 ^ 64 : Nat) : Int) = 18446744073709551616 from rfl]; omega
  have e2 : (BitVec.ofInt 64 ((c : Int) * 2 ^ k)).toNat = c * 2 ^ k := by
    rw [BitVec.toNat_ofInt]; simp only [show ((2 ^ 64 : Nat) : Int) = 18446744073709551616 from rfl]
    rw [show ((c : Int) * 2 ^ k) = ((c * 2 ^ k : Nat) : Int) by simp]
    omega
  rw [e1, e2, Nat.or_comm, ← Nat.shiftLeft_eq, ← Nat.shiftLeft_add_eq_or_of_lt ha, Nat.shiftLeft_eq, Nat.add_comm]
theorem take_eq (t : List UInt8) (h8 : t.length ≤ 8) : S_impl_take ((t, ()), ()) = some (IntKind.wrap .i64 (leN t), ()) := by
  unfold S_impl_take
  simp only [lenL_nat]
  refine (iter_eq (fun x => x.1.1 = t ∧ x.1.2.2.1 = (t.length : Int) ∧ 0 ≤ x.1.2.2.2.1 ∧ x.1.2.2.2.1 ≤ (t.length : Int) ∧ x.1.2.1 = IntKind.wrap .i64 (leN (t.take x.1.2.2.2.1.toNat))) (fun x => t.length - x.1.2.2.2.1.toNat) (fun _ => some (IntKind.wrap .i64 (leN t), ())) ?_ F _ ?_ ?_)
  · rintro ⟨⟨s, acc, len, i, _⟩, _⟩ rec ⟨rfl, hz, h0, h1, h2⟩ hrec
    dsimp only at hz h0 h1 h2 hrec h8 ⊢
    subst hz
    by_cases hi : i < s.length
    · obtain ⟨n, rfl⟩ := Int.eq_ofNat_of_zero_le h0
      have hn : n < s.length := by omega
      have hlt := leN_lt (s.take n)
      rw [List.length_take, Nat.min_eq_left (by omega)] at hlt
      have hb : s[n].toNat < 256 := s[n].toNat_lt
      have hpow : 256 ^ n ≤ 256 ^ 7 := Nat.pow_le_pow_right (by decide) (by omega)
      rw [show (256 : Nat) ^ 7 = 72057594037927936 from rfl] at hpow
      have h256 : (256 : Nat) ^ n = 2 ^ (8 * n) := by rw [Nat.pow_mul]
      rw [Int.toNat_natCast] at h2
      rw [br_pos (lt_t hi), br_pos (inR_t h0 hi), mul_id (by unfold I64; omega), br_pos (le_t (by omega)), byteAt_nat hn, wrapI_id (by unfold I64; omega)]
      rw [hrec _ ⟨rfl, rfl, ?_, ?_, ?_⟩ ?_]
      · dsimp only; rw [add_id (by unfold I64; omega)]; omega
      · dsimp only; rw [add_id (by unfold I64; omega)]; omega
      · dsimp only
        rw [add_id (by unfold I64; omega), show ((n : Int) + 1).toNat = n + 1 by omega, leN_take s n hn, h2, wrap64_id (n := (leN (s.take n) : Int)) (by unfold I64; omega)]
        unfold ishl
        rw [show min (8 * (n : Int)).toNat IntKind.i64.bits = 8 * n by rw [show IntKind.i64.bits = 64 from rfl]; omega]
        have hmul : s[n].toNat * 256 ^ n ≤ 255 * 256 ^ n := Nat.mul_le_mul_right _ (by omega)
        have := ior_disj (leN (s.take n)) s[n].toNat (8 * n) (by rw [← h256]; exact hlt) (by rw [← h256]; omega)
        rw [this, h256]
      · dsimp only; rw [add_id (by unfold I64; omega)]; omega
    · obtain rfl : i = s.length := by omega
      rw [br_neg (lt_f hi), h2, Int.toNat_natCast, List.take_length]
  · refine ⟨rfl, rfl, by dsimp only; omega, by dsimp only; omega, ?_⟩
    rfl
  · simp [F]; omega
end Go.Den.G
namespace Go.Den.G
open Go.Den
/-- Right memory, as far as it is needed. -/
structure MemR (m : List Page) : Prop where
  len : m.length ≤ 32
  pg : ∀ x ∈ m, 0 ≤ x.base ∧ x.base ≤ 65280 ∧ x.base % 256 = 0 ∧ x.data.length = 256
theorem isBase_iff {b : Int} (h : isBase b = true) : 0 ≤ b ∧ b ≤ 65280 ∧ b % 256 = 0 := by
  simp only [isBase, inB, Bool.and_eq_true, decide_eq_true_eq, eqI] at h
  obtain ⟨⟨h0, h1⟩, h2⟩ := h
  have h2 : b.tmod 256 = 0 := h2
  rw [Int.tmod_eq_emod_of_nonneg h0] at h2
  omega
theorem memOK_r {m : List Page} (h : memOK m = true) : MemR m := by
  simp only [memOK, Bool.and_eq_true, decide_eq_true_eq, okFrom, List.all_eq_true] at h
  refine ⟨by omega, fun x hx => ?_⟩
  obtain ⟨i, hi, rfl⟩ := List.getElem_of_mem hx
  have := h.2 i (by rw [List.mem_range']; exact ⟨i, by omega, by omega⟩)
  unfold good pg at this
  rw [getL_nat hi] at this
  simp only [Bool.and_eq_true, eqI, decide_eq_true_eq] at this
  obtain ⟨h1, _, h3, _⟩ := this
  obtain ⟨a, b, c⟩ := isBase_iff h1
  exact ⟨a, b, c, by omega⟩
def findFrom (p : Page → Bool) : List Page → Nat → Int
  | [], _ => -1
  | x :: r, i => if p x = true then (i : Int) else findFrom p r (i + 1)
theorem findFrom_spec (p : Page → Bool) : ∀ (m : List Page) (i : Nat), (findFrom p m i = -1 ∧ ∀ x ∈ m, p x = false) ∨ ∃ j, ∃ h : j < m.length, findFrom p m i = ((i + j : Nat) : Int) ∧ p m[j] = true
  | [], _ => .inl ⟨rfl, by simp⟩
  | x :: r, i => by
    simp only [findFrom]
    cases hx : p x with
    | true => exact .inr ⟨0, by simp, by simp, by simpa using hx⟩
    | false =>
      rcases findFrom_spec p r (i + 1) with ⟨h1, h2⟩ | ⟨j, h, h1, h2⟩
      · refine .inl ⟨by simpa using h1, fun y hy => ?_⟩
        rcases List.mem_cons.1 hy with rfl | hy
        · exact hx
        · exact h2 y hy
      · refine .inr ⟨j + 1, by simp; omega, ?_, by simpa using h2⟩
        rw [if_neg (by simp), h1]
        congr 1; omega
theorem findFrom_congr {p q : Page → Bool} : ∀ {m : List Page} {i : Nat}, (∀ x ∈ m, p x = q x) → findFrom p m i = findFrom q m i
  | [], _, _ => rfl
  | x :: r, i, h => by
    simp only [findFrom, h x (List.mem_cons_self ..), findFrom_congr (m := r) (i := i + 1) fun y hy => h y (List.mem_cons_of_mem _ hy)]
theorem findFrom_none {p : Page → Bool} {m : List Page} {i : Nat} (h : ∀ x ∈ m, p x = false) : findFrom p m i = -1 := by
  rcases findFrom_spec p m i with h1 | ⟨j, hj, _, h2⟩
  · exact h1.1
  · rw [h _ (List.getElem_mem hj)] at h2; cases h2
/-- Does an address lie in a page? -/
def inPage (a : Int) (x : Page) : Bool := decide (x.base ≤ a) && decide (a - x.base < 256)
def fnd (m : List Page) (a : Int) : Int := findFrom (inPage a) m 0
theorem l02Find_eq (m : List Page) (hm : MemR m) (a : Int) (ha : I64 a) : S_spec_l02Find (((m, ()), (a, ())), ()) = some (fnd m a, ()) := by
  unfold S_spec_l02Find
  simp only [lenL_nat]
  refine (iter_eq (fun x => x.2.1.1 = m ∧ x.1.1 = a ∧ 0 ≤ x.1.2.1 ∧ x.1.2.1 ≤ (m.length : Int)) (fun x => m.length - x.1.2.1.toNat) (fun x => some (findFrom (inPage a) (m.drop x.1.2.1.toNat) x.1.2.1.toNat, ())) ?_ F _ ?_ ?_).trans ?_
  · rintro ⟨⟨b, i, _⟩, ⟨xs, _⟩, _⟩ rec ⟨h2, h3, h0, h1⟩ hrec
    dsimp only at h0 h1 h2 h3 hrec ⊢
    subst h2
    subst h3
    have hlen := hm.len
    by_cases hi : i < xs.length
    · obtain ⟨n, rfl⟩ := Int.eq_ofNat_of_zero_le h0
      have hn : n < xs.length := by omega
      rw [br_pos (lt_t hi), br_pos (inR_t h0 hi), getL_nat hn, Int.toNat_natCast, List.drop_eq_getElem_cons hn, findFrom]
      obtain ⟨p0, p1, _, _⟩ := hm.pg _ (List.getElem_mem hn)
      have hst : rec ((b, (addI IntKind.i64 (n : Int) 1, ())), ((xs, ()), ())) = some (findFrom (inPage b) (xs.drop (n + 1)) (n + 1), ()) := by
        rw [add_id (by unfold I64; omega)]
        rw [hrec _ ⟨rfl, rfl, by dsimp only; omega, by dsimp only; omega⟩ (by dsimp only; omega)]
        rfl
      rw [hst]
      unfold I64 at ha
      by_cases hb : xs[n].base ≤ b
      · rw [br_pos (le_t hb), br_pos (inR_t h0 hi), bnd_s, sub_id (by unfold I64; omega)]
        by_cases hc : b - xs[n].base < 256
        · rw [br_pos (lt_t hc), if_pos (by simp [inPage, hb, hc])]
        · rw [br_neg (lt_f hc), if_neg (by simp [inPage, hc])]
      · rw [br_neg (le_f hb), bnd_s, br_f, if_neg (by simp [inPage, hb])]
    · rw [br_neg (lt_f hi), List.drop_eq_nil_of_le (by omega)]; rfl
  · exact ⟨rfl, rfl, by simp, by simp⟩
  · have := hm.len; simp [F]; omega
  · rfl
theorem indexFunc_eq (m : List Page) (hm : MemR m) (a : Int) (h0 : 0 ≤ a) (h1 : a ≤ 65535) : S_slices_IndexFunc_implPage_cimpl_Memory_pageOf_1 ((m, ()), ((a, ()), ())) = some (fnd m a, ((a, ()), ())) := by
  unfold S_slices_IndexFunc_implPage_cimpl_Memory_pageOf_1 S_impl_Memory_pageOf_1
  simp only [lenL_nat]
  refine (iter_eq (fun x => x.1.1 = m ∧ x.1.2.1 = (m.length : Int) ∧ x.2.1.1 = a ∧ 0 ≤ x.1.2.2.1 ∧ x.1.2.2.1 ≤ (m.length : Int)) (fun x => m.length - x.1.2.2.1.toNat) (fun x => some (findFrom (inPage a) (m.drop x.1.2.2.1.toNat) x.1.2.2.1.toNat, ((a, ()), ()))) ?_ F _ ?_ ?_).trans ?_
  · rintro ⟨⟨xs, len, i, _⟩, ⟨b, _⟩, _⟩ rec ⟨h2, h3, h4, h5, h6⟩ hrec
    dsimp only at h5 h6 h2 h3 h4 hrec ⊢
    subst h2
    subst h3
    subst h4
    have hlen := hm.len
    by_cases hi : i < xs.length
    · obtain ⟨n, rfl⟩ := Int.eq_ofNat_of_zero_le h5
      have hn : n < xs.length := by omega
      rw [br_pos (lt_t hi), br_pos (inR_t h5 hi), bnd_s, getL_nat hn, Int.toNat_natCast, List.drop_eq_getElem_cons hn, findFrom]
      dsimp only
      obtain ⟨p0, p1, p2, _⟩ := hm.pg _ (List.getElem_mem hn)
      have hst : rec ((xs, ((xs.length : Int), (addI IntKind.i64 (n : Int) 1, ()))), ((b, ()), ())) = some (findFrom (inPage b) (xs.drop (n + 1)) (n + 1), ((b, ()), ())) := by
        rw [add_id (by unfold I64; omega)]
        rw [hrec _ ⟨rfl, rfl, rfl, by dsimp only; omega, by dsimp only; omega⟩ (by dsimp only; omega)]
        rfl
      rw [hst, show remI b 256 = b % 256 from Int.tmod_eq_emod_of_nonneg h0, sub_id (by unfold I64; omega)]
      by_cases hc : xs[n].base = b - b % 256
      · rw [br_pos (eq_t hc), if_pos (by simp only [inPage, Bool.and_eq_true, decide_eq_true_eq]; omega)]
      · rw [br_neg (eq_f hc), if_neg (by simp only [inPage, Bool.and_eq_true, decide_eq_true_eq]; omega)]
    · rw [br_neg (lt_f hi), List.drop_eq_nil_of_le (by omega)]; rfl
  · exact ⟨rfl, rfl, rfl, by simp, by simp⟩
  · have := hm.len; simp [F]; omega
  · rfl
theorem fnd_out {m : List Page} (hm : MemR m) {a : Int} (h : ¬ (0 ≤ a ∧ a ≤ 65535)) : fnd m a = -1 := by
  refine findFrom_none fun x hx => ?_
  obtain ⟨p0, p1, p2, _⟩ := hm.pg x hx
  simp only [inPage, Bool.and_eq_false_iff, decide_eq_false_iff_not]
  omega
theorem pageOf_eq (m : List Page) (hm : MemR m) (a : Int) : S_impl_Memory_pageOf (((m, ()), (a, ())), ()) = some (fnd m a, ()) := by
  unfold S_impl_Memory_pageOf
  rw [within_eq, bnd_s]
  dsimp only
  by_cases h : 0 ≤ a ∧ a ≤ 65535
  · rw [br_neg (by simp [notB, inB, h.1, h.2]), indexFunc_eq m hm a h.1 h.2, bnd_s]
  · rw [br_pos (by simp only [notB, inB, Bool.not_eq_true', Bool.and_eq_false_iff, decide_eq_false_iff_not]; omega), fnd_out hm h]
/-- Where an address is found. -/
theorem fnd_spec {m : List Page} (hm : MemR m) (a : Int) : fnd m a = -1 ∨ ∃ j, ∃ h : j < m.length, fnd m a = (j : Int) ∧ m[j].base ≤ a ∧ a - m[j].base < 256 ∧ 0 ≤ a ∧ a ≤ 65535 ∧ a - m[j].base = a % 256 ∧ m[j].data.length = 256 := by
  rcases findFrom_spec (inPage a) m 0 with ⟨h, _⟩ | ⟨j, hj, h1, h2⟩
  · exact .inl h
  · obtain ⟨p0, p1, p2, p3⟩ := hm.pg _ (List.getElem_mem hj)
    simp only [inPage, Bool.and_eq_true, decide_eq_true_eq] at h2
    exact .inr ⟨j, hj, by rw [Nat.zero_add] at h1; exact h1, h2.1, h2.2, by omega, by omega, by omega, p3⟩
end Go.Den.G
namespace Go.Den.G
open Go.Den
/-- Why bytes cannot be had, from the byte `k` on. -/
def faultR (m : List Page) (a perm : Int) : Nat → Int → Int
  | 0, _ => 0
  | j + 1, k => if fnd m (a + k) < 0 then 13 else if iand .i64 (getL m (fnd m (a + k)) (dflt .page)).perm perm = 0 then 14 else faultR m a perm j (k + 1)
theorem fault_none {m : List Page} (hm : MemR m) {a perm : Int} (h : ¬ (0 ≤ a ∧ a ≤ 65535)) (j : Nat) : faultR m a perm (j + 1) 0 = 13 := by
  rw [faultR, Int.add_zero, fnd_out hm h]; rfl
theorem fnd_inR {m : List Page} (hm : MemR m) {a : Int} (h : ¬ fnd m a < 0) : inR (fnd m a) (m.length : Int) = true := by
  rcases fnd_spec hm a with h1 | ⟨j, hj, h1, _⟩
  · rw [h1] at h; exact absurd (by decide) h
  · rw [h1]; exact inR_t (by omega) (by omega)
theorem spec_fault_eq (m : List Page) (hm : MemR m) (a perm : Int) (n : Nat) (hn : 1 ≤ n) (hn8 : n ≤ 64) (ha : I64 a) : S_spec_l02Fault (((m, ()), (a, ((n : Int), (perm, ())))), ()) = some (faultR m a perm n 0, ()) := by
  unfold S_spec_l02Fault
  simp only [lenL_nat]
  refine (iter_eq (fun x => x.2.1.1 = m ∧ x.1.1 = a ∧ x.1.2.1 = (n : Int) ∧ x.1.2.2.1 = perm ∧ 0 ≤ x.1.2.2.2.1 ∧ x.1.2.2.2.1 ≤ (n : Int) ∧ (x.1.2.2.2.1 = 0 ∨ (0 ≤ a ∧ a ≤ 65535))) (fun x => n - x.1.2.2.2.1.toNat) (fun x => some (faultR m a perm (n - x.1.2.2.2.1.toNat) x.1.2.2.2.1, ())) ?_ F _ ?_ ?_).trans ?_
  · rintro ⟨⟨b, l, p, i, _⟩, ⟨xs, _⟩, _⟩ rec ⟨h2, h3, h4, h5, h0, h1, h6⟩ hrec
    dsimp only at h0 h1 h2 h3 h4 h5 h6 hrec ⊢
    subst h2 h3 h4 h5
    by_cases hi : i < (n : Int)
    · obtain ⟨k, rfl⟩ := Int.eq_ofNat_of_zero_le h0
      rw [br_pos (lt_t hi), sub_id (by unfold I64; omega), l01In_eq, bnd_s]
      dsimp only
      have hst : n - ((k : Int)).toNat = (n - (k + 1)) + 1 := by omega
      rw [hst]
      by_cases hr : 0 ≤ b ∧ b ≤ 65535
      · rw [br_neg (by simp [notB, inB]; omega), add_id (by unfold I64; omega), l02Find_eq xs hm _ (by unfold I64; omega), bnd_s, faultR]
        dsimp only
        by_cases hf : fnd xs (b + k) < 0
        · rw [br_pos (lt_t hf), if_pos hf]
        · rw [br_neg (lt_f hf), if_neg hf, br_pos (fnd_inR hm hf)]
          by_cases hp : iand .i64 (getL xs (fnd xs (b + k)) (dflt .page)).perm p = 0
          · rw [br_pos (eq_t hp), if_pos hp]
          · rw [br_neg (eq_f hp), if_neg hp, add_id (by unfold I64; omega)]
            rw [hrec _ ⟨rfl, rfl, rfl, rfl, by dsimp only; omega, by dsimp only; omega, .inr hr⟩ (by dsimp only; omega)]
            dsimp only
            rw [show n - ((k : Int) + 1).toNat = n - (k + 1) by omega]
      · have hk : k = 0 := by omega
        subst hk
        rw [show ((0 : Nat) : Int) = 0 from rfl, fault_none hm hr]
        by_cases hin : inB b (0 - (n : Int)) 65535 = true
        · rw [br_neg (by rw [hin]; rfl), add_id (by unfold I64 at *; omega), l02Find_eq xs hm _ (by rw [Int.add_zero]; exact ha), bnd_s, Int.add_zero, fnd_out hm hr]
          rfl
        · rw [br_pos (by rw [Bool.not_eq_true] at hin; rw [hin]; rfl)]
    · have : i = n := by omega
      subst this
      rw [br_neg (lt_f hi), Int.toNat_natCast, Nat.sub_self]; rfl
  · exact ⟨rfl, rfl, rfl, rfl, by simp, by simp, .inl rfl⟩
  · simp [F]; omega
  · rfl
theorem impl_fault_eq (m : List Page) (hm : MemR m) (a perm : Int) (n : Nat) (hn8 : n ≤ 64) (ha : I64 a) (hp0 : perm ≠ 0) (hn : 1 ≤ n) : S_impl_Memory_fault (((m, ()), (a, ((n : Int), (perm, ())))), ()) = some (faultR m a perm n 0, ()) := by
  unfold S_impl_Memory_fault
  simp only [lenL_nat]
  refine (iter_eq (fun x => x.2.1.1 = m ∧ x.1.1 = a ∧ x.1.2.2.1 = (n : Int) ∧ x.1.2.1 = perm ∧ 0 ≤ x.1.2.2.2.1 ∧ x.1.2.2.2.1 ≤ (n : Int) ∧ (x.1.2.2.2.1 = 0 ∨ (0 ≤ a ∧ a ≤ 65535))) (fun x => n - x.1.2.2.2.1.toNat) (fun x => some (faultR m a perm (n - x.1.2.2.2.1.toNat) x.1.2.2.2.1, ())) ?_ F _ ?_ ?_).trans ?_
  · rintro ⟨⟨b, p, l, i, _⟩, ⟨xs, _⟩, _⟩ rec ⟨h2, h3, h4, h5, h0, h1, h6⟩ hrec
    dsimp only at h0 h1 h2 h3 h4 h5 h6 hrec ⊢
    subst h2 h3 h4 h5
    by_cases hi : i < (n : Int)
    · obtain ⟨k, rfl⟩ := Int.eq_ofNat_of_zero_le h0
      rw [br_pos (lt_t hi), pageOf_eq xs hm, bnd_s]
      dsimp only
      have hst : n - ((k : Int)).toNat = (n - (k + 1)) + 1 := by omega
      rw [hst]
      by_cases hr : 0 ≤ b ∧ b ≤ 65535
      · rw [add_id (by unfold I64; omega), faultR]
        by_cases hf : fnd xs (b + k) < 0
        · rw [br_pos (lt_t hf), if_pos hf]
        · rw [br_neg (lt_f hf), if_neg hf, br_pos (fnd_inR hm hf), br_pos (by rw [eq_f hp0]; rfl), bnd_s]
          by_cases hp : iand .i64 (getL xs (fnd xs (b + k)) (dflt .page)).perm p = 0
          · rw [br_pos (eq_t hp), if_pos hp]
          · rw [br_neg (eq_f hp), if_neg hp, add_id (by unfold I64; omega)]
            rw [hrec _ ⟨rfl, rfl, rfl, rfl, by dsimp only; omega, by dsimp only; omega, .inr hr⟩ (by dsimp only; omega)]
            dsimp only
            rw [show n - ((k : Int) + 1).toNat = n - (k + 1) by omega]
      · have hk : k = 0 := by omega
        subst hk
        rw [show ((0 : Nat) : Int) = 0 from rfl, fault_none hm hr, add_id (by unfold I64 at *; omega), Int.add_zero, fnd_out hm hr]
        rfl
    · have : i = n := by omega
      subst this
      rw [br_neg (lt_f hi), Int.toNat_natCast, Nat.sub_self]; rfl
  · exact ⟨rfl, rfl, rfl, rfl, by simp, by simp, .inl rfl⟩
  · simp [F]; omega
  · rfl
theorem faultR_ok {m : List Page} (hm : MemR m) {a perm : Int} : ∀ (j k0 : Nat), faultR m a perm j k0 = 0 → ∀ k, k0 ≤ k → k < k0 + j → ¬ fnd m (a + (k : Nat)) < 0
  | 0, k0, _, k, h1, h2 => by omega
  | j + 1, k0, h, k, h1, h2 => by
    rw [faultR] at h
    split at h
    · cases h
    · rename_i hf
      split at h
      · cases h
      · by_cases hk : k = k0
        · subst hk; exact hf
        · exact faultR_ok hm j (k0 + 1) (by exact_mod_cast h) k (by omega) (by omega)
/-- A byte that can be had. -/
def byteR (m : List Page) (a : Int) : Int := byteAt (getL m (fnd m a) (dflt .page)).data (a % 256)
theorem get_eq (m : List Page) (hm : MemR m) (a : Int) (n : Nat) (hn8 : n ≤ 8) (ha : I64 a) (hok : ∀ k, k < n → ¬ fnd m (a + (k : Nat)) < 0) : S_spec_l02Get (((m, ()), (a, ((n : Int), ()))), ()) = some (toStr ((List.range n).map fun k => byteR m (a + (k : Nat))), ()) := by
  unfold S_spec_l02Get
  simp only [lenL_nat]
  refine (iter_eq (fun x => x.2.1.1 = m ∧ x.1.1 = a ∧ x.1.2.1 = (n : Int) ∧ 0 ≤ x.1.2.2.1 ∧ x.1.2.2.1 ≤ (n : Int) ∧ x.2.2.1 = (List.range x.1.2.2.1.toNat).map fun k => byteR m (a + (k : Nat))) (fun x => n - x.1.2.2.1.toNat) (fun _ => some (toStr ((List.range n).map fun k => byteR m (a + (k : Nat))), ())) ?_ F _ ?_ ?_)
  · rintro ⟨⟨b, l, i, _⟩, ⟨xs, _⟩, out, _⟩ rec ⟨h2, h3, h4, h0, h1, h5⟩ hrec
    dsimp only at h0 h1 h2 h3 h4 h5 hrec ⊢
    subst h2 h3 h4
    by_cases hi : i < (n : Int)
    · obtain ⟨k, rfl⟩ := Int.eq_ofNat_of_zero_le h0
      rw [Int.toNat_natCast] at h5
      have hk := hok k (by omega)
      rcases fnd_spec hm (b + k) with h7 | ⟨j, hj, h7, h8, h9, h10, h11, h12, h13⟩
      · rw [h7] at hk; exact absurd (by decide) hk
      · have hb : I64 (b + k) := by unfold I64; omega
        rw [br_pos (lt_t hi), add_id hb, l02Find_eq xs hm _ hb, bnd_s]
        dsimp only
        rw [br_pos (fnd_inR hm hk), h7, getL_nat hj, sub_id (by unfold I64; omega), br_pos (inR_t (by omega) (by omega)), h12]
        have hbyte : byteAt xs[j].data ((b + (k : Int)) % 256) = byteR xs (b + k) := by rw [byteR, h7, getL_nat hj]
        rw [hbyte, br_pos (by rw [h5]; simp [fits2, lim]; omega), add_id (by unfold I64; omega)]
        refine hrec _ ⟨rfl, rfl, rfl, by dsimp only; omega, by dsimp only; omega, ?_⟩ (by dsimp only; omega)
        dsimp only
        rw [show ((k : Int) + 1).toNat = k + 1 by omega, List.range_succ, List.map_append, h5]
        rfl
    · have : i = n := by omega
      subst this
      rw [br_neg (lt_f hi), h5, Int.toNat_natCast]
  · exact ⟨rfl, rfl, rfl, by simp, by simp, rfl⟩
  · simp [F]; omega
theorem bytes_eq (m : List Page) (hm : MemR m) (a : Int) (n : Nat) (hn8 : n ≤ 8) (ha : I64 a) (hok : ∀ k, k < n → ¬ fnd m (a + (k : Nat)) < 0) : S_impl_Memory_bytes (((m, ()), (a, ((n : Int), ()))), ()) = some (toStr ((List.range n).map fun k => byteR m (a + (k : Nat))), ()) := by
  unfold S_impl_Memory_bytes
  simp only [lenL_nat]
  rw [br_pos (inC_t (by omega) (Int.le_refl _)), br_pos (inLim_t (by omega))]
  refine (iter_eq (fun x => x.2.1.1 = m ∧ x.1.1 = a ∧ x.1.2.1 = (n : Int) ∧ 0 ≤ x.1.2.2.1 ∧ x.1.2.2.1 ≤ (n : Int) ∧ x.2.2.1 = ((List.range x.1.2.2.1.toNat).map fun k => byteR m (a + (k : Nat))) ++ List.replicate (n - x.1.2.2.1.toNat) 0) (fun x => n - x.1.2.2.1.toNat) (fun _ => some (toStr ((List.range n).map fun k => byteR m (a + (k : Nat))), ())) ?_ F _ ?_ ?_)
  · rintro ⟨⟨b, l, i, _⟩, ⟨xs, _⟩, out, _⟩ rec ⟨h2, h3, h4, h0, h1, h5⟩ hrec
    dsimp only at h0 h1 h2 h3 h4 h5 hrec ⊢
    subst h2 h3 h4
    by_cases hi : i < (n : Int)
    · obtain ⟨k, rfl⟩ := Int.eq_ofNat_of_zero_le h0
      rw [Int.toNat_natCast] at h5
      have hk := hok k (by omega)
      rcases fnd_spec hm (b + k) with h7 | ⟨j, hj, h7, h8, h9, h10, h11, h12, h13⟩
      · rw [h7] at hk; exact absurd (by decide) hk
      · have hb : I64 (b + k) := by unfold I64; omega
        have hol : out.length = n := by rw [h5]; simp; omega
        rw [br_pos (lt_t hi), add_id hb, pageOf_eq xs hm, bnd_s]
        dsimp only
        rw [br_pos (fnd_inR hm hk), show remI (b + (k : Int)) 256 = (b + k) % 256 from Int.tmod_eq_emod_of_nonneg h10, h7, getL_nat hj, br_pos (inR_t (by omega) (by omega))]
        have hbyte : byteAt xs[j].data ((b + (k : Int)) % 256) = byteR xs (b + k) := by rw [byteR, h7, getL_nat hj]
        rw [hbyte, br_pos (inR_t h0 (by omega)), add_id (by unfold I64; omega)]
        refine hrec _ ⟨rfl, rfl, rfl, by dsimp only; omega, by dsimp only; omega, ?_⟩ (by dsimp only; omega)
        dsimp only
        rw [show ((k : Int) + 1).toNat = k + 1 by omega, List.range_succ, List.map_append, h5]
        unfold setL
        rw [Int.toNat_natCast, List.set_append_right _ _ (by simp), List.length_map, List.length_range, Nat.sub_self, show n - k = (n - (k + 1)) + 1 by omega, List.replicate_succ]
        simp
    · have : i = n := by omega
      subst this
      rw [br_neg (lt_f hi), h5, Int.toNat_natCast, Nat.sub_self]
      simp
  · refine ⟨rfl, rfl, by simp [repL], by simp, by simp, ?_⟩
    simp [repL, dflt]
  · simp [F]; omega
end Go.Den.G
namespace Go.Den.G
open Go.Den
theorem szPage_eq (x : Page) (left : Int) (h0 : 0 ≤ left) (h1 : left ≤ 1048576) (hd : x.data.length ≤ maxLen) : S_laws_szPage ((x, (left, ())), ()) = some (if left - x.data.length < 0 then -1 else left - x.data.length, ()) := by
  unfold S_laws_szPage
  simp only [lenL_nat]
  rw [sub_id (by unfold I64 maxLen at *; omega)]
  by_cases h : left - (x.data.length : Int) < 0
  · rw [br_pos (lt_t h), if_pos h]
  · rw [br_neg (lt_f h), if_neg h]
theorem szPageS_ex (xs : List Page) (hx : xs.length ≤ maxLen) (hd : ∀ x ∈ xs, x.data.length ≤ maxLen) : ∃ r : Int, S_laws_szPageS ((xs, (1048576, ())), ()) = some (r, ()) ∧ (0 ≤ r → xs.length ≤ 1048576) := by
  unfold S_laws_szPageS
  simp only [lenL_nat]
  rw [sub_id (by unfold I64 maxLen at *; omega)]
  by_cases h : 1048576 - (xs.length : Int) < 0
  · rw [br_pos (lt_t h)]
    exact ⟨-1, rfl, fun h => absurd h (by decide)⟩
  · rw [br_neg (lt_f h)]
    refine iter_ind (fun x => x.1.1 = xs ∧ 0 ≤ x.1.2.1 ∧ x.1.2.1 ≤ 1048576 ∧ 0 ≤ x.1.2.2.1 ∧ x.1.2.2.1 ≤ (xs.length : Int)) (fun x => xs.length - x.1.2.2.1.toNat) (fun _ o => ∃ r : Int, o = some (r, ()) ∧ (0 ≤ r → xs.length ≤ 1048576)) ?_ F _ ?_ ?_
    · rintro ⟨⟨ys, left, i, _⟩, _⟩ rec ⟨h2, h3, h4, h0, h1⟩ hrec
      dsimp only at h0 h1 h2 h3 h4 hrec ⊢
      subst h2
      by_cases hi : i < ys.length
      · obtain ⟨n, rfl⟩ := Int.eq_ofNat_of_zero_le h0
        have hn : n < ys.length := by omega
        rw [br_pos (lt_t hi), br_pos (inR_t h0 hi), getL_nat hn, szPage_eq _ _ h3 h4 (hd _ (List.getElem_mem hn)), bnd_s]
        dsimp only
        by_cases hl : left - (ys[n].data.length : Int) < 0
        · rw [if_pos hl]
          exact ⟨-1, rfl, fun h => absurd h (by decide)⟩
        · rw [if_neg hl, br_neg (lt_f hl), add_id (by unfold I64; omega)]
          exact hrec _ ⟨rfl, by dsimp only; omega, by dsimp only; omega, by dsimp only; omega, by dsimp only; omega⟩ (by dsimp only; omega)
      · rw [br_neg (lt_f hi)]
        exact ⟨left, rfl, fun _ => by omega⟩
    · exact ⟨rfl, by dsimp only; omega, by dsimp only; omega, by simp, by simp⟩
    · simp [F]; omega
theorem szMemory_ex (xs : List Page) (hx : xs.length ≤ maxLen) (hd : ∀ x ∈ xs, x.data.length ≤ maxLen) : ∃ r : Int, S_laws_szMemory (((xs, ()), (1048576, ())), ()) = some (r, ()) ∧ (0 ≤ r → xs.length ≤ 1048576) := by
  obtain ⟨r, h1, h2⟩ := szPageS_ex xs hx hd
  unfold S_laws_szMemory
  dsimp only
  rw [h1, bnd_s]
  by_cases h : r < 0
  · rw [br_pos (lt_t h)]; exact ⟨-1, rfl, fun h => absurd h (by decide)⟩
  · rw [br_neg (lt_f h)]; exact ⟨r, rfl, h2⟩
theorem toPageS_eq (xs : List Page) (hx : xs.length ≤ 1048576) : S_laws_toPageS ((xs, ()), ()) = some (xs, ()) := by
  unfold S_laws_toPageS S_laws_toPage
  simp only [lenL_nat]
  rw [br_pos (inC_t (by omega) (Int.le_refl _)), br_pos (inLim_t (by omega))]
  refine iter_eq (fun x => x.1.1 = xs ∧ 0 ≤ x.1.2.1 ∧ x.1.2.1 ≤ (xs.length : Int) ∧ x.2.1 = xs.take x.1.2.1.toNat ++ List.replicate (xs.length - x.1.2.1.toNat) (dflt .page)) (fun x => xs.length - x.1.2.1.toNat) (fun _ => some (xs, ())) ?_ F _ ?_ ?_
  · rintro ⟨⟨ys, i, _⟩, out, _⟩ rec ⟨h2, h0, h1, h3⟩ hrec
    dsimp only at h0 h1 h2 h3 hrec ⊢
    subst h2
    by_cases hi : i < ys.length
    · obtain ⟨n, rfl⟩ := Int.eq_ofNat_of_zero_le h0
      have hn : n < ys.length := by omega
      rw [Int.toNat_natCast] at h3
      have hol : out.length = ys.length := by rw [h3]; simp; omega
      rw [br_pos (lt_t hi), br_pos (inR_t h0 hi), bnd_s, br_pos (inR_t h0 (by rw [hol]; exact hi)), add_id (by unfold I64; omega)]
      refine hrec _ ⟨rfl, by dsimp only; omega, by dsimp only; omega, ?_⟩ (by dsimp only; omega)
      dsimp only
      rw [getL_nat hn, show ((n : Int) + 1).toNat = n + 1 by omega, h3]
      unfold setL
      rw [Int.toNat_natCast, List.set_append_right _ _ (by simp; omega), List.length_take, Nat.min_eq_left (by omega), Nat.sub_self, show ys.length - n = (ys.length - (n + 1)) + 1 by omega, List.replicate_succ, ← List.take_append_getElem hn, List.append_assoc]
      rfl
    · have : i = ys.length := by omega
      subst this
      rw [br_neg (lt_f hi), h3, Int.toNat_natCast]; simp
  · exact ⟨rfl, by simp, by simp, by simp [repL]⟩
  · simp [F]; omega
theorem toMemory_eq (xs : List Page) (hx : xs.length ≤ 1048576) : S_laws_toMemory (((xs, ()), ()), ()) = some ((xs, ()), ()) := by
  unfold S_laws_toMemory
  dsimp only
  rw [toPageS_eq xs hx, bnd_s]
theorem eqPage_self (x : Page) : S_laws_eqPage ((x, (x, ())), ()) = some (true, ()) := by
  unfold S_laws_eqPage
  dsimp only
  rw [eq_t rfl, eq_t rfl, show eqS x.data x.data = true from decide_eq_true rfl]
  rfl
theorem eqPageS_self (xs : List Page) (hx : xs.length ≤ 1048576) : S_laws_eqPageS ((xs, (xs, ())), ()) = some (true, ()) := by
  unfold S_laws_eqPageS
  simp only [lenL_nat]
  rw [eq_t rfl, notB_not, Bool.not_true, br_f]
  refine iter_eq (fun x => x.1.1 = xs ∧ x.1.2.1 = xs ∧ 0 ≤ x.1.2.2.1 ∧ x.1.2.2.1 ≤ (xs.length : Int)) (fun x => xs.length - x.1.2.2.1.toNat) (fun _ => some (true, ())) ?_ F _ ?_ ?_
  · rintro ⟨⟨ys, zs, i, _⟩, _⟩ rec ⟨h2, h3, h0, h1⟩ hrec
    dsimp only at h0 h1 h2 h3 hrec ⊢
    subst h2
    subst h3
    by_cases hi : i < zs.length
    · rw [br_pos (lt_t hi), br_pos (inR_t h0 hi), br_pos (inR_t h0 hi), eqPage_self, bnd_s, notB_not, Bool.not_true, br_f, add_id (by unfold I64; omega)]
      exact hrec _ ⟨rfl, rfl, by dsimp only; omega, by dsimp only; omega⟩ (by dsimp only; omega)
    · rw [br_neg (lt_f hi)]
  · exact ⟨rfl, rfl, by simp, by simp⟩
  · simp [F]; omega
theorem eqMemory_self (xs : List Page) (hx : xs.length ≤ 1048576) : S_laws_eqMemory (((xs, ()), ((xs, ()), ())), ()) = some (true, ()) := by
  unfold S_laws_eqMemory
  dsimp only
  rw [eqPageS_self xs hx, bnd_s, notB_not, Bool.not_true, br_f]

def isSz (n : Int) : Bool := eqI n 1 || (eqI n 2 || (eqI n 4 || eqI n 8))
theorem l01Size_eq (n : Int) : S_spec_l01Size ((n, ()), ()) = some (isSz n, ()) := by
  unfold S_spec_l01Size isSz
  dsimp only
  cases eqI n 1 <;> cases eqI n 2 <;> cases eqI n 4 <;> cases eqI n 8 <;> rfl
theorem isSize_eq (n : Int) : S_impl_isSize ((n, ()), ()) = some (isSz n, ()) := l01Size_eq n
theorem isSz_iff {n : Int} (h : isSz n = true) : ∃ k : Nat, n = (k : Int) ∧ 1 ≤ k ∧ k ≤ 8 := by
  simp only [isSz, eqI, Bool.or_eq_true, decide_eq_true_eq] at h
  exact ⟨n.toNat, by omega, by omega, by omega⟩
theorem toStr_len (xs : List Int) : (toStr xs).length = xs.length := by simp [toStr]
/-- What is loaded from right memory. -/
def loadR (m : List Page) (a : Int) (n : Nat) : Int × Int :=
  if faultR m a 1 n 0 = 0 then (IntKind.wrap .i64 (leN (toStr ((List.range n).map fun k => byteR m (a + (k : Nat))))), 0) else (0, faultR m a 1 n 0)
theorem load_ok {m : List Page} (hm : MemR m) {a : Int} {n : Nat} (h : faultR m a 1 n 0 = 0) : ∀ k, k < n → ¬ fnd m (a + (k : Nat)) < 0 := fun k hk =>
  faultR_ok hm n 0 h k (Nat.zero_le _) (by omega)
theorem spec_load_eq (m : List Page) (hm : MemR m) (a : Int) (n : Nat) (hn : 1 ≤ n) (hn8 : n ≤ 8) (ha : I64 a) : S_spec_l02Load (((m, ()), (a, ((n : Int), ()))), ()) = some (((loadR m a n).1, ((loadR m a n).2, ())), ()) := by
  unfold S_spec_l02Load loadR
  dsimp only
  rw [spec_fault_eq m hm a 1 n hn (by omega) ha, bnd_s]
  by_cases h : faultR m a 1 n 0 = 0
  · rw [br_neg (by rw [h]; rfl), get_eq m hm a n hn8 ha (load_ok hm h), bnd_s, if_pos h]
    dsimp only
    have hl : (toStr ((List.range n).map fun k => byteR m (a + (k : Nat)))).length = n := by rw [toStr_len]; simp
    have := l01Take_eq (toStr ((List.range n).map fun k => byteR m (a + (k : Nat)))) (by omega)
    rw [hl] at this
    rw [this, bnd_s]
  · rw [br_pos (by rw [eq_f h]; rfl), if_neg h]
theorem impl_load_eq (m : List Page) (hm : MemR m) (a : Int) (n : Nat) (hn : 1 ≤ n) (hn8 : n ≤ 8) (ha : I64 a) : S_impl_Memory_load (((m, ()), (a, ((n : Int), ()))), ()) = some (((loadR m a n).1, ((loadR m a n).2, ())), ()) := by
  unfold S_impl_Memory_load loadR
  dsimp only
  rw [impl_fault_eq m hm a 1 n (by omega) ha (by decide) hn, bnd_s]
  by_cases h : faultR m a 1 n 0 = 0
  · rw [br_neg (by rw [h]; rfl), bytes_eq m hm a n hn8 ha (load_ok hm h), bnd_s, if_pos h]
    dsimp only
    rw [take_eq _ (by rw [toStr_len]; simpa using hn8), bnd_s]
  · rw [br_pos (by rw [eq_f h]; rfl), if_neg h]
/-- What LoadAt answers. -/
def loadAtR (m : List Page) (a n : Int) : Int × Int :=
  if memOK m = true then (if isSz n = true then loadR m a n.toNat else (0, 4)) else (0, 1)
theorem spec_LoadAt_eq (m : List Page) (hm : m.length ≤ 1048576) (a n : Int) (ha : I64 a) : S_spec_LoadAt (((m, ()), (a, (n, ()))), ()) = some (((loadAtR m a n).1, ((loadAtR m a n).2, ())), ()) := by
  unfold S_spec_LoadAt loadAtR
  dsimp only
  rw [spec_MemoryOK_eq m (by omega), bnd_s]
  by_cases h : memOK m = true
  · rw [br_neg (by rw [h]; rfl), l01Size_eq, bnd_s, if_pos h]
    by_cases hs : isSz n = true
    · obtain ⟨k, rfl, h1, h8⟩ := isSz_iff hs
      rw [br_neg (by rw [hs]; rfl), spec_load_eq m (memOK_r h) a k h1 h8 ha, bnd_s, if_pos hs]
      rfl
    · rw [br_pos (by rw [Bool.not_eq_true] at hs; rw [hs]; rfl), if_neg hs]
  · rw [br_pos (by rw [Bool.not_eq_true] at h; rw [h]; rfl), if_neg h]
theorem impl_LoadAt_eq (m : List Page) (hm : m.length ≤ 1048576) (a n : Int) (ha : I64 a) : S_impl_LoadAt (((m, ()), (a, (n, ()))), ()) = some (((loadAtR m a n).1, ((loadAtR m a n).2, ())), ()) := by
  unfold S_impl_LoadAt loadAtR
  dsimp only
  rw [impl_MemoryOK_eq m (by omega) (by unfold F; omega), bnd_s]
  by_cases h : memOK m = true
  · rw [br_neg (by rw [h]; rfl), isSize_eq, bnd_s, if_pos h]
    by_cases hs : isSz n = true
    · obtain ⟨k, rfl, h1, h8⟩ := isSz_iff hs
      rw [br_neg (by rw [hs]; rfl), impl_load_eq m (memOK_r h) a k h1 h8 ha, bnd_s, if_pos hs]
      rfl
    · rw [br_pos (by rw [Bool.not_eq_true] at hs; rw [hs]; rfl), if_neg hs]
  · rw [br_pos (by rw [Bool.not_eq_true] at h; rw [h]; rfl), if_neg h]
theorem elWf_page {x : Page} (h : elWf .page x) : I64 x.base ∧ I64 x.perm ∧ x.data.length ≤ maxLen := by
  obtain ⟨⟨n, e1, w1⟩, ⟨k, e2, w2⟩, ⟨s, e3, w3⟩, _⟩ := h
  cases e1; cases e2; cases e3
  exact ⟨wf64 w1, wf64 w2, w3⟩
/-- The law: LoadAt returns what the reference's returns. -/
theorem pure_LoadAt (y : VTL.Ty [.agg [.list .page], .int .i64, .int .i64]) (h : VTL.wf [.agg [.list .page], .int .i64, .int .i64] y) : S_laws_FnExactLoadAt (y, ()) = some (true, ()) := by
  obtain ⟨⟨m, _⟩, a, n, _⟩ := y
  obtain ⟨⟨⟨hm, hp⟩, _⟩, ha, hn, _⟩ := h
  have ha : I64 a := wf64 ha
  have hd : ∀ x ∈ m, x.data.length ≤ maxLen := fun x hx => (elWf_page (hp x hx)).2.2
  unfold S_laws_FnExactLoadAt
  dsimp only
  obtain ⟨r, h1, h2⟩ := szMemory_ex m hm hd
  rw [h1, bnd_s]
  by_cases hr : r < 0
  · rw [br_pos (lt_t hr)]
  · have hl : m.length ≤ 1048576 := h2 (by omega)
    rw [br_neg (lt_f hr), toMemory_eq m hl, bnd_s]
    dsimp only
    rw [spec_LoadAt_eq m hl a n ha, bnd_s, bnd_s, impl_LoadAt_eq m hl a n ha, bnd_s]
    dsimp only
    rw [eq_t rfl, eq_t rfl, notB_not, Bool.not_true, br_f, bnd_s, br_f, bnd_s, eqMemory_self m hl, bnd_s, notB_not, Bool.not_true, br_f]
end Go.Den.G
