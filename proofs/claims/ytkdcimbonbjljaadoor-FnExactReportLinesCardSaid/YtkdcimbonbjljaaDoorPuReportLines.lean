/- Theory for the proofs of this claim: see its last text. -/
import Derived.Test.YtkdcimbonbjljaaDoorFnReportLines
import Derived.Test.YtkdcimbonbjljaaDoorDenF
namespace Go.Den.G
open Go.Den

/-! ### digits -/
theorem dec_small {u : Nat} (h : u < 10) : Go.Lib.decDigits u = [UInt8.ofNat (48 + u)] := by rw [Go.Lib.decDigits, dif_pos h]
theorem dec_step {u : Nat} (h : ¬ u < 10) : Go.Lib.decDigits u = Go.Lib.decDigits (u / 10) ++ [UInt8.ofNat (48 + u % 10)] := by rw [Go.Lib.decDigits, dif_neg h]
theorem dec_len : ∀ (k u : Nat), u < 10 ^ (k + 1) → (Go.Lib.decDigits u).length ≤ k + 1
  | 0, u, h => by rw [dec_small (by omega)]; simp
  | k + 1, u, h => by
    by_cases hu : u < 10
    · rw [dec_small hu]; simp
    · rw [dec_step hu, List.length_append]
      have := dec_len k (u / 10) (by rw [Nat.pow_succ] at h; omega)
      simp; omega
theorem byte1 {n : Int} (h0 : 0 ≤ n) (h1 : n < 10) : toStr [wrapI .u8 (addI .i64 48 n)] = [UInt8.ofNat (48 + n.toNat)] := by
  have e : wrapI .u8 (addI .i64 48 n) = 48 + n := by
    rw [add_id (by unfold I64; omega)]
    unfold wrapI
    simp only [IntKind.wrap, IntKind.bits, IntKind.signed, Bool.false_and, Bool.false_eq_true, if_false]
    exact Int.emod_eq_of_lt (by omega) (by omega)
  rw [e]
  unfold toStr
  rw [List.map_singleton, show (48 + n).toNat = 48 + n.toNat by omega]
theorem digits_nat : ∀ (k : Nat) (u : Nat), k ≤ 100 → u < 10 ^ (k + 1) → u < 9223372036854775808 → RS_spec_l00Digits (k + 1) (((u : Int), ()), ()) = some (Go.Lib.decDigits u, ())
  | k, u, hk, hu, h64 => by
    rw [RS_spec_l00Digits]
    dsimp only
    rw [br_neg (eq_f (by omega)), br_neg (lt_f (by omega))]
    by_cases h : u < 10
    · rw [br_pos (lt_t (by omega)), byte1 (by omega) (by omega), dec_small h]; rfl
    · rw [br_neg (lt_f (by omega))]
      cases k with
      | zero => exact absurd hu (by simpa using h)
      | succ k =>
        have hq : quoI .i64 (u : Int) 10 = ((u / 10 : Nat) : Int) := by
          unfold quoI
          rw [show ((u : Int).tdiv 10) = ((u / 10 : Nat) : Int) by rw [Int.tdiv_eq_ediv_of_nonneg (by omega)]; simp]
          exact wrap64_id (by unfold I64; omega)
        have hr : remI (u : Int) 10 = ((u % 10 : Nat) : Int) := by unfold remI; rw [Int.tmod_eq_emod_of_nonneg (by omega)]; simp
        rw [hq, digits_nat k (u / 10) (by omega) (by rw [Nat.pow_succ] at hu; omega) (by omega), bnd_s, hr]
        dsimp only
        rw [byte1 (by omega) (by omega), dec_step h]
        have hl := dec_len k (u / 10) (by rw [Nat.pow_succ] at hu; omega)
        rw [br_pos (by unfold fits2 lim; simp; omega), show (((u % 10 : Nat) : Int)).toNat = u % 10 from rfl]
        rfl
theorem itoa_len {n : Int} (h : I64 n) : (Go.Lib.itoa n).length ≤ 20 := by
  unfold I64 at h
  unfold Go.Lib.itoa
  split
  · have := dec_len 18 n.natAbs (by omega)
    simp; omega
  · have := dec_len 18 n.toNat (by omega)
    omega
theorem l00Digits_eq {n : Int} (h : I64 n) : S_spec_l00Digits ((n, ()), ()) = some (Go.Lib.itoa n, ()) := by
  unfold S_spec_l00Digits
  unfold I64 at h
  by_cases hm : n = -9223372036854775808
  · subst hm
    rw [RS_spec_l00Digits]
    dsimp only
    rw [br_pos (eq_t rfl)]
    unfold Go.Lib.itoa
    rw [if_pos (by decide)]
    congr 2
    show _ = 45 :: Go.Lib.decDigits 9223372036854775808
    simp [Go.Lib.decDigits]
  · by_cases h0 : 0 ≤ n
    · obtain ⟨u, rfl⟩ := Int.eq_ofNat_of_zero_le h0
      rw [digits_nat 99 u (by decide) (Nat.lt_of_lt_of_le (show u < 10 ^ 20 by omega) (Nat.pow_le_pow_right (by decide) (by decide))) (by omega)]
      unfold Go.Lib.itoa
      rw [if_neg (by omega)]
      simp
    · rw [RS_spec_l00Digits]
      dsimp only
      rw [br_neg (eq_f hm), br_pos (lt_t (by omega)), sub_id (by unfold I64; omega)]
      obtain ⟨u, hu⟩ := Int.eq_ofNat_of_zero_le (show 0 ≤ 0 - n by omega)
      rw [hu, digits_nat 98 u (by decide) (Nat.lt_of_lt_of_le (show u < 10 ^ 20 by omega) (Nat.pow_le_pow_right (by decide) (by decide))) (by omega), bnd_s]
      dsimp only
      have hl := dec_len 19 u (by omega)
      rw [br_pos (by unfold fits2 lim; simp; omega)]
      unfold Go.Lib.itoa
      rw [if_pos (by omega), show n.natAbs = u by omega]
      simp [appL]
end Go.Den.G
namespace Go.Den.G
open Go.Den

/-- A word and numbers, a blank ahead of each. -/
def numsL (l : List Int) : List UInt8 := l.flatMap fun n => 32 :: Go.Lib.itoa n
theorem numsL_len : ∀ {l : List Int}, (∀ n ∈ l, I64 n) → (numsL l).length ≤ 21 * l.length
  | [], _ => by simp [numsL]
  | a :: r, h => by
    have h1 := itoa_len (h a (by simp))
    have h2 := numsL_len (l := r) fun n hn => h n (by simp [hn])
    unfold numsL at h2 ⊢
    simp only [List.flatMap_cons, List.length_append, List.length_cons]
    omega
theorem drop_cons {α : Type} {l : List α} {i : Nat} (h : i < l.length) : l.drop i = l[i] :: l.drop (i + 1) := List.drop_eq_getElem_cons h
theorem l16Numbers_eq (name : List UInt8) (l : List Int) (hn : name.length ≤ 1000) (hl : l.length ≤ 16777216) (hw : ∀ n ∈ l, I64 n) :
    S_spec_l16Numbers ((name, (l, ())), ()) = some (name ++ numsL l, ()) := by
  unfold S_spec_l16Numbers
  refine (iter_eq (fun x => x.1.2.1 = l ∧ 0 ≤ x.1.2.2.1 ∧ x.1.2.2.1 ≤ (l.length : Int) ∧ (x.1.1.length : Int) ≤ 1000 + 21 * x.1.2.2.1) (fun x => ((l.length : Int) - x.1.2.2.1).toNat)
    (fun x => some (x.1.1 ++ numsL (l.drop x.1.2.2.1.toNat), ())) ?_ F _ ⟨rfl, Int.le_refl 0, by show (0 : Int) ≤ _; omega, by show (name.length : Int) ≤ 1000 + 21 * 0; omega⟩ (by show ((l.length : Int) - 0).toNat < F; unfold F; omega)).trans ?_
  · rintro ⟨⟨acc, l', i, _⟩, _⟩ rec ⟨rfl, h0, h1, h2⟩ hrec
    dsimp only at h0 h1 h2 hrec hl hw ⊢
    obtain ⟨j, rfl⟩ := Int.eq_ofNat_of_zero_le h0
    simp only [lenL_nat]
    by_cases hi : j < l'.length
    · rw [br_pos (lt_t (by omega)), br_pos (inR_t h0 (by omega)), getL_nat hi]
      have hwj := hw l'[j] (List.getElem_mem hi)
      have hlen := itoa_len hwj
      rw [l00Digits_eq hwj, bnd_s]
      dsimp only
      rw [br_pos (by unfold fits2 lim; simp; omega), br_pos (by unfold fits2 lim appL; simp; omega), add_id (by unfold I64; omega)]
      rw [hrec _ ⟨rfl, by dsimp only; omega, by dsimp only; omega, by dsimp only; simp only [appL, List.length_append, List.length_cons, List.length_nil]; omega⟩ (by dsimp only; omega)]
      dsimp only
      simp only [Int.toNat_natCast]
      rw [show ((j : Int) + 1).toNat = j + 1 by omega, drop_cons hi]
      simp only [appL, numsL, List.flatMap_cons, List.append_assoc, List.cons_append, List.nil_append]
    · rw [br_neg (lt_f (by omega))]
      simp only [Int.toNat_natCast]
      rw [List.drop_eq_nil_of_le (by omega)]
      simp [numsL]
  · simp
theorem wordsLine_eq (name : List UInt8) (l : List Int) (hn : name.length ≤ 1000) (hl : l.length ≤ 16777216) (hw : ∀ n ∈ l, I64 n) :
    S_impl_wordsLine ((name, (l, ())), ()) = some (name ++ numsL l, ()) := by
  unfold S_impl_wordsLine
  refine (iter_eq (fun x => x.1.2.1 = l ∧ x.1.2.2.1 = (l.length : Int) ∧ 0 ≤ x.1.2.2.2.1 ∧ x.1.2.2.2.1 ≤ (l.length : Int) ∧ (x.1.1.length : Int) ≤ 1000 + 21 * x.1.2.2.2.1) (fun x => ((l.length : Int) - x.1.2.2.2.1).toNat)
    (fun x => some (x.1.1 ++ numsL (l.drop x.1.2.2.2.1.toNat), ())) ?_ F _ ⟨rfl, rfl, Int.le_refl 0, by show (0 : Int) ≤ _; omega, by show (name.length : Int) ≤ 1000 + 21 * 0; omega⟩ (by show ((l.length : Int) - 0).toNat < F; unfold F; omega)).trans ?_
  · rintro ⟨⟨acc, l', n, i, _⟩, _⟩ rec ⟨rfl, h3, h0, h1, h2⟩ hrec
    dsimp only at h0 h1 h2 h3 hrec hl hw ⊢
    obtain ⟨j, rfl⟩ := Int.eq_ofNat_of_zero_le h0
    subst h3
    simp only [lenL_nat]
    by_cases hi : j < l'.length
    · rw [br_pos (lt_t (by omega)), br_pos (inR_t h0 (by omega)), getL_nat hi]
      have hwj := hw l'[j] (List.getElem_mem hi)
      have hlen := itoa_len hwj
      have e : S_strconv_Itoa ((l'[j], ()), ()) = some (Go.Lib.itoa l'[j], ()) := by
        unfold S_strconv_Itoa pItoa i64B
        unfold I64 at hwj
        dsimp only
        rw [le_t hwj.1, le_t (by omega)]; rfl
      rw [e, bnd_s]
      dsimp only
      rw [br_pos (by unfold fits2 lim; simp; omega), br_pos (by unfold fits2 lim appL; simp; omega), add_id (by unfold I64; omega)]
      rw [hrec _ ⟨rfl, rfl, by dsimp only; omega, by dsimp only; omega, by dsimp only; simp only [appL, List.length_append, List.length_cons, List.length_nil]; omega⟩ (by dsimp only; omega)]
      dsimp only
      simp only [Int.toNat_natCast]
      rw [show ((j : Int) + 1).toNat = j + 1 by omega, drop_cons hi]
      simp only [appL, numsL, List.flatMap_cons, List.append_assoc, List.cons_append, List.nil_append]
    · rw [br_neg (lt_f (by omega))]
      simp only [Int.toNat_natCast]
      rw [List.drop_eq_nil_of_le (by omega)]
      simp [numsL]
  · simp
end Go.Den.G
namespace Go.Den.G
open Go.Den

/-! ### what a law marks, and finds again -/
theorem drop_cons2 {α : Type} {l : List α} {i : Nat} (h : i < l.length) : l.drop i = l[i] :: l.drop (i + 1) := List.drop_eq_getElem_cons h
theorem eqStringS_refl (l : List (List UInt8)) (hl : l.length ≤ 1073741824) : S_laws_eqStringS ((l, (l, ())), ()) = some (true, ()) := by
  unfold S_laws_eqStringS
  dsimp only
  rw [br_neg (by simp [eqI, notB])]
  refine iter_eq (fun x => x.1.1 = l ∧ x.1.2.1 = l ∧ 0 ≤ x.1.2.2.1 ∧ x.1.2.2.1 ≤ (l.length : Int)) (fun x => ((l.length : Int) - x.1.2.2.1).toNat) (fun _ => some (true, ())) ?_ F _ ⟨rfl, rfl, Int.le_refl 0, by show (0 : Int) ≤ _; omega⟩ (by show ((l.length : Int) - 0).toNat < F; unfold F; omega)
  rintro ⟨⟨a, b, i, _⟩, _⟩ rec ⟨ha, hb, h0, h1⟩ hrec
  dsimp only at ha hb h0 h1 hrec hl ⊢
  rw [ha, hb]
  obtain ⟨j, rfl⟩ := Int.eq_ofNat_of_zero_le h0
  simp only [lenL_nat]
  by_cases hi : j < l.length
  · rw [br_pos (lt_t (by omega)), br_pos (inR_t h0 (by omega)), br_pos (inR_t h0 (by omega)), br_neg (by simp [eqS, notB]), add_id (by unfold I64; omega)]
    exact hrec _ ⟨rfl, rfl, by dsimp only; omega, by dsimp only; omega⟩ (by dsimp only; omega)
  · rw [br_neg (lt_f (by omega))]
theorem eqIntS_refl (l : List Int) (hl : l.length ≤ 1073741824) : S_laws_eqIntS ((l, (l, ())), ()) = some (true, ()) := by
  unfold S_laws_eqIntS
  dsimp only
  rw [br_neg (by simp [eqI, notB])]
  refine iter_eq (fun x => x.1.1 = l ∧ x.1.2.1 = l ∧ 0 ≤ x.1.2.2.1 ∧ x.1.2.2.1 ≤ (l.length : Int)) (fun x => ((l.length : Int) - x.1.2.2.1).toNat) (fun _ => some (true, ())) ?_ F _ ⟨rfl, rfl, Int.le_refl 0, by show (0 : Int) ≤ _; omega⟩ (by show ((l.length : Int) - 0).toNat < F; unfold F; omega)
  rintro ⟨⟨a, b, i, _⟩, _⟩ rec ⟨ha, hb, h0, h1⟩ hrec
  dsimp only at ha hb h0 h1 hrec hl ⊢
  rw [ha, hb]
  obtain ⟨j, rfl⟩ := Int.eq_ofNat_of_zero_le h0
  simp only [lenL_nat]
  by_cases hi : j < l.length
  · rw [br_pos (lt_t (by omega)), br_pos (inR_t h0 (by omega)), br_pos (inR_t h0 (by omega)), br_neg (by simp [eqI, notB]), add_id (by unfold I64; omega)]
    exact hrec _ ⟨rfl, rfl, by dsimp only; omega, by dsimp only; omega⟩ (by dsimp only; omega)
  · rw [br_neg (lt_f (by omega))]
theorem markIntS_ok (m : Int) (l : List Int) (h0 : 0 ≤ m) (h1 : m ≤ 1099511627776) (hl : l.length ≤ 1073741824) : ∃ l', S_laws_markIntS ((m, ()), (l, ())) = some (m + l.length, (l', ())) := by
  unfold S_laws_markIntS
  refine iter_ind (fun x => x.2.1.length = l.length ∧ 0 ≤ x.1.2.1 ∧ x.1.2.1 ≤ (l.length : Int) ∧ x.1.1 = m + x.1.2.1) (fun x => ((l.length : Int) - x.1.2.1).toNat)
    (fun _ r => ∃ l', r = some (m + l.length, (l', ()))) ?_ F _ ⟨rfl, Int.le_refl 0, by show (0 : Int) ≤ _; omega, by show m = m + 0; omega⟩ (by show ((l.length : Int) - 0).toNat < F; unfold F; omega)
  rintro ⟨⟨q, i, _⟩, a, _⟩ rec ⟨ha, h2, h3, h4⟩ hrec
  dsimp only at ha h2 h3 h4 hrec ⊢
  obtain ⟨j, rfl⟩ := Int.eq_ofNat_of_zero_le h2
  simp only [lenL_nat]
  by_cases hi : j < l.length
  · rw [br_pos (lt_t (by omega)), br_pos (inR_t h2 (by omega)), add_id (by unfold I64; omega), add_id (by unfold I64; omega)]
    exact hrec _ ⟨by simp [setL, ha], by dsimp only; omega, by dsimp only; omega, by dsimp only; omega⟩ (by dsimp only; omega)
  · rw [br_neg (lt_f (by omega))]
    exact ⟨a, by rw [h4, show (j : Int) = l.length by omega]⟩
theorem markText_ok (n : Int) (h0 : 1 ≤ n) (h1 : n ≤ 274877906944) : ∃ t, S_laws_markText ((n, ()), ()) = some (t, ()) := by
  unfold S_laws_markText
  dsimp only
  rw [br_neg (le_f (by omega))]
  refine iter_ind (fun x => 0 ≤ x.1.1 ∧ (x.1.2.1.length : Int) + x.1.1 ≤ n) (fun x => x.1.1.toNat) (fun _ r => ∃ t, r = some (t, ())) ?_ F _ ⟨by show (0 : Int) ≤ n; omega, by show ((0 : Nat) : Int) + n ≤ n; omega⟩ (by show n.toNat < F; unfold F; omega)
  rintro ⟨⟨x, s, _⟩, _⟩ rec ⟨h2, h3⟩ hrec
  dsimp only at h2 h3 hrec ⊢
  by_cases hx : 0 < x
  · have hq : quoI .i64 x 10 = x / 10 := by
      unfold quoI
      rw [Int.tdiv_eq_ediv_of_nonneg h2]
      exact wrap64_id (by unfold I64; omega)
    rw [br_pos (lt_t hx), br_pos (by unfold fits2 lim toStr; simp; omega), hq]
    exact hrec _ ⟨by dsimp only; omega, by dsimp only; unfold appL toStr; simp; omega⟩ (by dsimp only; omega)
  · rw [br_neg (lt_f hx), br_pos (by unfold fits2 lim; simp; omega)]
    exact ⟨_, rfl⟩
noncomputable def mt (n : Int) : List UInt8 := match S_laws_markText ((n, ()), ()) with
  | some x => x.1
  | none => []
theorem markText_eq (n : Int) (h0 : 1 ≤ n) (h1 : n ≤ 274877906944) : S_laws_markText ((n, ()), ()) = some (mt n, ()) := by
  obtain ⟨t, h⟩ := markText_ok n h0 h1
  unfold mt; rw [h]
noncomputable def mts (m : Int) (n : Nat) : List (List UInt8) := (List.range n).map fun i => mt (m + (i : Nat))
theorem mts_len (m : Int) (n : Nat) : (mts m n).length = n := by simp [mts]
theorem markStringS_eq (m : Int) (l : List (List UInt8)) (h0 : 1 ≤ m) (h1 : m ≤ 137438953472) (hl : l.length ≤ 1073741824) :
    S_laws_markStringS ((m, ()), (l, ())) = some (m + l.length, (mts m l.length, ())) := by
  unfold S_laws_markStringS
  refine iter_eq (fun x => 0 ≤ x.1.2.1 ∧ x.1.2.1 ≤ (l.length : Int) ∧ x.1.1 = m + x.1.2.1 ∧ x.2.1 = mts m x.1.2.1.toNat ++ l.drop x.1.2.1.toNat) (fun x => ((l.length : Int) - x.1.2.1).toNat)
    (fun _ => some (m + l.length, (mts m l.length, ()))) ?_ F _ ⟨Int.le_refl 0, by show (0 : Int) ≤ _; omega, by show m = m + 0; omega, by show l = mts m 0 ++ l.drop 0; simp [mts]⟩ (by show ((l.length : Int) - 0).toNat < F; unfold F; omega)
  rintro ⟨⟨q, i, _⟩, a, _⟩ rec ⟨h2, h3, h4, h5⟩ hrec
  dsimp only at h2 h3 h4 h5 hrec ⊢
  obtain ⟨j, rfl⟩ := Int.eq_ofNat_of_zero_le h2
  simp only [Int.toNat_natCast] at h5
  have hlen : a.length = l.length := by rw [h5, List.length_append, mts_len, List.length_drop]; omega
  simp only [lenL_nat, hlen]
  by_cases hi : j < l.length
  · rw [br_pos (lt_t (by omega)), markText_eq q (by omega) (by omega), bnd_s, br_pos (inR_t h2 (by omega)), add_id (by unfold I64; omega), add_id (by unfold I64; omega)]
    refine hrec _ ⟨by dsimp only; omega, by dsimp only; omega, by dsimp only; omega, ?_⟩ (by dsimp only; omega)
    dsimp only
    rw [show ((j : Int) + 1).toNat = j + 1 by omega, h5, drop_cons2 hi]
    unfold setL
    rw [Int.toNat_natCast, List.set_append, if_neg (by rw [mts_len]; omega), mts_len, Nat.sub_self, List.set_cons_zero]
    unfold mts
    rw [List.range_succ, List.map_append, h4]
    simp
  · rw [br_neg (lt_f (by omega))]
    have : j = l.length := by omega
    subst this
    rw [h4, h5]; simp
theorem heldStringS_eq (m : Int) (n : Nat) (h0 : 1 ≤ m) (h1 : m ≤ 137438953472) (hl : n ≤ 1073741824) : S_laws_heldStringS ((mts m n, (m, ())), ()) = some (m + n, ()) := by
  unfold S_laws_heldStringS
  refine iter_eq (fun x => x.1.1 = mts m n ∧ 0 ≤ x.1.2.2.1 ∧ x.1.2.2.1 ≤ (n : Int) ∧ x.1.2.1 = m + x.1.2.2.1) (fun x => ((n : Int) - x.1.2.2.1).toNat)
    (fun _ => some (m + n, ())) ?_ F _ ⟨rfl, Int.le_refl 0, by show (0 : Int) ≤ _; omega, by show m = m + 0; omega⟩ (by show ((n : Int) - 0).toNat < F; unfold F; omega)
  rintro ⟨⟨a, q, i, _⟩, _⟩ rec ⟨h5, h2, h3, h4⟩ hrec
  dsimp only at h2 h3 h4 h5 hrec ⊢
  obtain ⟨j, rfl⟩ := Int.eq_ofNat_of_zero_le h2
  subst h5
  simp only [lenL_nat, mts_len]
  by_cases hi : j < n
  · rw [br_pos (lt_t (by omega)), br_pos (inR_t h2 (by omega)), markText_eq q (by omega) (by omega), bnd_s]
    dsimp only
    have e : getL (mts m n) (j : Int) (dflt .s) = mt q := by
      rw [getL_nat (by rw [mts_len]; exact hi)]
      simp [mts, h4]
    rw [e, br_neg (by simp [eqS, notB]), add_id (by unfold I64; omega), add_id (by unfold I64; omega)]
    exact hrec _ ⟨rfl, by dsimp only; omega, by dsimp only; omega, by dsimp only; omega⟩ (by dsimp only; omega)
  · rw [br_neg (lt_f (by omega)), h4, show (j : Int) = n by omega]
theorem toIntS_eq (l : List Int) (hl : l.length ≤ 1073741824) : S_laws_toIntS ((l, ()), ()) = some ((), (l, ())) := by
  unfold S_laws_toIntS
  simp only [lenL_nat]
  rw [br_pos (inC_t (by omega) (Int.le_refl _)), br_pos (inLim_t (by omega))]
  refine iter_eq (fun x => x.1.1 = l ∧ 0 ≤ x.1.2.1 ∧ x.1.2.1 ≤ (l.length : Int) ∧ ∃ r, r.length = l.length ∧ x.2.1 = l.take x.1.2.1.toNat ++ r.drop x.1.2.1.toNat) (fun x => ((l.length : Int) - x.1.2.1).toNat)
    (fun _ => some ((), (l, ()))) ?_ F _ ⟨rfl, Int.le_refl 0, by show (0 : Int) ≤ _; omega, repL (l.length : Int) (dflt .i), by simp [repL], by show _ = l.take 0 ++ (repL (l.length : Int) (dflt .i)).drop 0; simp⟩ (by show ((l.length : Int) - 0).toNat < F; unfold F; omega)
  rintro ⟨⟨a, i, _⟩, b, _⟩ rec ⟨rfl, h2, h3, r, hr, h5⟩ hrec
  dsimp only at h2 h3 h5 hr hrec hl ⊢
  obtain ⟨j, rfl⟩ := Int.eq_ofNat_of_zero_le h2
  simp only [Int.toNat_natCast] at h5
  have hlen : b.length = a.length := by rw [h5, List.length_append, List.length_take, List.length_drop]; omega
  simp only [hlen, lenL_nat]
  by_cases hi : j < a.length
  · rw [br_pos (lt_t (by omega)), br_pos (inR_t h2 (by omega)), br_pos (inR_t h2 (by omega)), add_id (by unfold I64; omega), getL_nat hi]
    refine hrec _ ⟨rfl, by dsimp only; omega, by dsimp only; omega, r, hr, ?_⟩ (by dsimp only; omega)
    dsimp only
    rw [show ((j : Int) + 1).toNat = j + 1 by omega, h5, drop_cons2 (show j < r.length by omega)]
    unfold setL
    rw [Int.toNat_natCast, List.set_append, if_neg (by rw [List.length_take]; omega), List.length_take, show j - min j a.length = 0 by omega, List.set_cons_zero, List.take_succ_eq_append_getElem hi, List.append_assoc]
    rfl
  · rw [br_neg (lt_f (by omega))]
    have : j = a.length := by omega
    subst this
    rw [h5, List.take_length, List.drop_eq_nil_of_le (by omega)]; simp
end Go.Den.G
namespace Go.Den.G
open Go.Den

def rl (s i g : List Int) (a : Int) : List (List UInt8) := [[115, 116, 97, 114, 116, 115] ++ numsL s, [105, 110, 110, 101, 114] ++ numsL i, [103, 111, 97, 108, 115] ++ numsL g, [97, 116, 32] ++ Go.Lib.itoa a]
theorem br_nt {α : Type} {x y : α} : br (notB true) x y = y := rfl
theorem lt4096 (l : List Int) : ltI 4096 (lenL l) = decide (4096 < (l.length : Int)) := rfl
theorem or_eq (a b : Bool) : br a (some true) (some b) = some (a || b) := by cases a <;> rfl
def big3 (s i g : List Int) : Bool := ltI 4096 (lenL s) || ltI 4096 (lenL i) || ltI 4096 (lenL g)
theorem spec_RL (s i g : List Int) (a : Int) (hs : ∀ n ∈ s, I64 n) (hi : ∀ n ∈ i, I64 n) (hg : ∀ n ∈ g, I64 n) (ha : I64 a) (l1 : s.length ≤ 1048576) (l2 : i.length ≤ 1048576) (l3 : g.length ≤ 1048576) :
    S_spec_ReportLines (((s, (i, (g, (a, ())))), ()), ()) = some (if big3 s i g = true then ([], (1, ())) else (rl s i g a, (0, ())), ()) := by
  unfold S_spec_ReportLines
  dsimp only
  rw [or_eq, bnd_s, or_eq, bnd_s]
  change br (big3 s i g) _ _ = _
  cases big3 s i g with
  | true => rfl
  | false =>
    rw [br_f]
    unfold S_spec_l16Report
    dsimp only
    rw [l16Numbers_eq _ _ (by simp) (by omega) hs, bnd_s, l16Numbers_eq _ _ (by simp) (by omega) hi, bnd_s, l16Numbers_eq _ _ (by simp) (by omega) hg, bnd_s, l00Digits_eq ha, bnd_s]
    have := itoa_len ha
    rw [br_pos (by unfold fits2 lim; simp; omega)]
    rfl
theorem impl_RL (s i g : List Int) (a : Int) (hs : ∀ n ∈ s, I64 n) (hi : ∀ n ∈ i, I64 n) (hg : ∀ n ∈ g, I64 n) (ha : I64 a) (l1 : s.length ≤ 1048576) (l2 : i.length ≤ 1048576) (l3 : g.length ≤ 1048576) :
    S_impl_ReportLines (((s, (i, (g, (a, ())))), ()), ()) = some (if big3 s i g = true then ((1, ()), ([], ())) else ((0, ()), (rl s i g a, ()))) := by
  unfold S_impl_ReportLines
  dsimp only
  rw [or_eq, bnd_s, or_eq, bnd_s]
  change br (big3 s i g) _ _ = _
  cases big3 s i g with
  | true => rfl
  | false =>
    rw [br_f]
    rw [wordsLine_eq _ _ (by simp) (by omega) hs, bnd_s, wordsLine_eq _ _ (by simp) (by omega) hi, bnd_s, wordsLine_eq _ _ (by simp) (by omega) hg, bnd_s, wordsLine_eq _ [a] (by simp) (by simp) (by simpa using ha), bnd_s]
    simp [rl, numsL]
theorem szIntS_eq (l : List Int) (left : Int) (h0 : 0 ≤ left) (h1 : left ≤ 1048576) (hl : (l.length : Int) ≤ 9223372036854775807) :
    S_laws_szIntS ((l, (left, ())), ()) = some (if left - l.length < 0 then -1 else left - l.length, ()) := by
  unfold S_laws_szIntS
  simp only [lenL_nat]
  rw [sub_id (by unfold I64; omega)]
  by_cases h : left - (l.length : Int) < 0
  · rw [br_pos (lt_t h), if_pos h]
  · rw [br_neg (lt_f h), if_neg h]
theorem pure_ReportLines (y : VTL.Ty [.agg [.list .i, .list .i, .list .i, .int .i64]]) (h : VTL.wf [.agg [.list .i, .list .i, .list .i, .int .i64]] y) : S_laws_FnExactReportLines (y, ()) = some (true, ()) := by
  obtain ⟨⟨s, i, g, a, _⟩, _⟩ := y
  obtain ⟨⟨⟨m1, w1⟩, ⟨m2, w2⟩, ⟨m3, w3⟩, w4, _⟩, _⟩ := h
  have el : ∀ x : Int, elWf .i x → I64 x := fun x hx => by
    obtain ⟨⟨n, e, w⟩, _⟩ := hx
    have e : x = n := by injection e
    rw [e]; exact wf64 w
  have hs : ∀ n ∈ s, I64 n := fun n hn => el n (w1 n hn)
  have hi : ∀ n ∈ i, I64 n := fun n hn => el n (w2 n hn)
  have hg : ∀ n ∈ g, I64 n := fun n hn => el n (w3 n hn)
  have ha : I64 a := wf64 w4
  have m1 : s.length ≤ maxLen := m1
  have m2 : i.length ≤ maxLen := m2
  have m3 : g.length ≤ maxLen := m3
  have hmx : (maxLen : Int) ≤ 9223372036854775807 := by decide
  unfold S_laws_FnExactReportLines
  dsimp only
  -- the size
  have hsz : (∃ r : Int, r < 0 ∧ S_laws_szReport (((s, (i, (g, (a, ())))), (1048576, ())), ()) = some (r, ())) ∨
      (s.length ≤ 1048576 ∧ i.length ≤ 1048576 ∧ g.length ≤ 1048576 ∧ ∃ r : Int, 0 ≤ r ∧ S_laws_szReport (((s, (i, (g, (a, ())))), (1048576, ())), ()) = some (r, ())) := by
    unfold S_laws_szReport
    dsimp only
    rw [szIntS_eq s _ (by decide) (by decide) (by omega), bnd_s]
    by_cases h1 : (1048576 : Int) - s.length < 0
    · rw [if_pos h1]; exact .inl ⟨-1, by decide, rfl⟩
    · rw [if_neg h1, br_neg (lt_f (by dsimp only; omega))]
      dsimp only
      rw [szIntS_eq i _ (by omega) (by omega) (by omega), bnd_s]
      by_cases h2 : (1048576 : Int) - s.length - i.length < 0
      · rw [if_pos h2]; exact .inl ⟨-1, by decide, rfl⟩
      · rw [if_neg h2, br_neg (lt_f (by dsimp only; omega))]
        dsimp only
        rw [szIntS_eq g _ (by omega) (by omega) (by omega), bnd_s]
        by_cases h3 : (1048576 : Int) - s.length - i.length - g.length < 0
        · rw [if_pos h3]; exact .inl ⟨-1, by decide, rfl⟩
        · rw [if_neg h3, br_neg (lt_f (by dsimp only; omega))]
          exact .inr ⟨by omega, by omega, by omega, _, by omega, rfl⟩
  rcases hsz with ⟨r, hr, e⟩ | ⟨l1, l2, l3, r, hr, e⟩
  · rw [e, bnd_s, br_pos (lt_t hr)]
  · rw [e, bnd_s, br_neg (lt_f (by dsimp only; omega))]
    have hto : S_laws_toReport (((s, (i, (g, (a, ())))), ()), ()) = some ((a, ()), (s, (i, (g, ())))) := by
      unfold S_laws_toReport
      dsimp only
      rw [toIntS_eq s (by omega), bnd_s, toIntS_eq i (by omega), bnd_s, toIntS_eq g (by omega), bnd_s]
    have hrep : S_laws_eqReport (((s, (i, (g, (a, ())))), ((s, (i, (g, (a, ())))), ())), ()) = some (true, ()) := by
      unfold S_laws_eqReport
      dsimp only
      simp only [eqIntS_refl s (by omega), eqIntS_refl i (by omega), eqIntS_refl g (by omega), bnd_s, br_nt]
      rw [br_neg (by simp [eqI, notB])]
    have hmk : ∃ (m : Int) (l : List Int × (List Int × (List Int × Unit))), 0 ≤ m ∧ S_laws_markReport (((a, ()), (1, ())), (s, (i, (g, ())))) = some (m, l) := by
      unfold S_laws_markReport
      dsimp only
      obtain ⟨s', e1⟩ := markIntS_ok 1 s (by decide) (by decide) (by omega)
      rw [e1, bnd_s]
      obtain ⟨i', e2⟩ := markIntS_ok (1 + s.length) i (by omega) (by omega) (by omega)
      dsimp only
      rw [e2, bnd_s]
      obtain ⟨g', e3⟩ := markIntS_ok (1 + s.length + i.length) g (by omega) (by omega) (by omega)
      dsimp only
      rw [e3, bnd_s]
      exact ⟨_, _, by omega, rfl⟩
    rw [hto, bnd_s]
    dsimp only
    rw [spec_RL s i g a hs hi hg ha l1 l2 l3, bnd_s]
    dsimp only
    rw [bnd_s, impl_RL s i g a hs hi hg ha l1 l2 l3, bnd_s]
    obtain ⟨c, t, ht, e1, e2⟩ : ∃ (c : Int) (t : List (List UInt8)), t.length ≤ 4 ∧ (if big3 s i g = true then (([] : List (List UInt8)), ((1 : Int), ())) else (rl s i g a, (0, ()))) = (t, (c, ())) ∧
        (if big3 s i g = true then (((1 : Int), ()), (([] : List (List UInt8)), ())) else ((0, ()), (rl s i g a, ()))) = ((c, ()), (t, ())) := by
      cases big3 s i g with
      | true => exact ⟨1, [], by simp, rfl, rfl⟩
      | false => exact ⟨0, rl s i g a, by simp [rl], rfl, rfl⟩
    rw [e1, e2]
    dsimp only
    have heq : S_laws_eqStringS ((t, (t, ())), ()) = some (true, ()) := eqStringS_refl t (by omega)
    have hc : notB (eqI c c) = false := by simp [eqI, notB]
    have hmark := markStringS_eq 1 t (by decide) (by decide) (by omega)
    have hheld := heldStringS_eq 1 t.length (by decide) (by decide) (by omega)
    obtain ⟨m, l, hm, e3⟩ := hmk
    have hlt : ltI (1 + (t.length : Int)) 0 = false := lt_f (by omega)
    have heq2 : notB (eqI (1 + (t.length : Int)) (1 + (t.length : Int))) = false := by simp [eqI, notB]
    have hm0 : ltI m 0 = false := lt_f (by omega)
    simp only [heq, hc, hrep, e3, hmark, hheld, hlt, heq2, hm0, e2, impl_RL s i g a hs hi hg ha l1 l2 l3, bnd_s, br_nt, br_f]
end Go.Den.G
