/- Theory for the proofs of this claim: see its last text. -/
import Derived.Test.YthgjocpbmnpjjaaGreatDoorFnListLines
import Derived.Test.YthgjocpbmnpjjaaGreatDoorDenF
import Derived.KernelRfl
import Derived.Test.YthgjocpbmnpjjaaGreatDoorPaListLines
namespace Go.Den.G
open Go.Den
set_option maxRecDepth 100000

/-! ### operands: the reference -/
section
variable {t : List UInt8} {a c x : Int} {w : Bool}
theorem ext_s0 (hx : rexOK x) : S_spec_l04In_ext ((0, ()), ((t, (a, (x, (w, (c, ()))))), ())) = some (extM x 0, ((t, (a, (x, (w, (c, ()))))), ())) := sext_eq hx 0 (by decide)
theorem ext_s1 (hx : rexOK x) : S_spec_l04In_ext ((1, ()), ((t, (a, (x, (w, (c, ()))))), ())) = some (extM x 1, ((t, (a, (x, (w, (c, ()))))), ())) := sext_eq hx 1 (by decide)
theorem ext_s2 (hx : rexOK x) : S_spec_l04In_ext ((2, ()), ((t, (a, (x, (w, (c, ()))))), ())) = some (extM x 2, ((t, (a, (x, (w, (c, ()))))), ())) := sext_eq hx 2 (by decide)
theorem simm_eq {z : Int} (hz : sizeP z) (hl : (t.length : Int) ≤ 1099511627776) (hp : (posOf a c).In t) :
    ∃ a' c', S_spec_l04In_imm ((z, ()), ((t, (a, (x, (w, (c, ()))))), ())) = some (tOpd (immD (rdS t (imin 4 z) (posOf a c))) (), ((t, (a', (x, (w, (c', ()))))), ())) ∧ posOf a' c' = adv t (imin 4 z) (posOf a c) := by
  have e4 : imin z 4 = imin 4 z := by unfold sizeP at hz; rcases hz with rfl | rfl | rfl | rfl <;> decide
  obtain ⟨a', c', e, h⟩ := snumber_eq (x := x) (w := w) (imin 4 z) (imin_sz hz).1 (imin_sz hz).2 hl hp
  unfold S_spec_l04In_imm
  dsimp only
  rw [e4, e, bnd_s]
  exact ⟨a', c', rfl, h⟩
theorem shl_smallU {b : Int} (h0 : 0 ≤ b) (h1 : b < 256) : wrapI .u64 (b / 64) = b / 64 := wrapIU_id (by omega) (by omega)
theorem smemory_eq {md rm : Int} (hx : rexOK x) (hrm : 0 ≤ rm ∧ rm ≤ 7) (hl : (t.length : Int) ≤ 1099511627776) (hp : (posOf a c).In t) :
    ∃ a' c', S_spec_l04In_memory ((md, (rm, ())), ((t, (a, (x, (w, (c, ()))))), ())) = some (tOpd (memM t x md rm (posOf a c)).1 (), ((t, (a', (x, (w, (c', ()))))), ())) ∧ posOf a' c' = (memM t x md rm (posOf a c)).2 := by
  obtain ⟨e0, e8, ez⟩ := ext_le (x := x) (k := 0) (by decide)
  obtain ⟨f0, f8, _⟩ := ext_le (x := x) (k := 1) (by decide)
  unfold S_spec_l04In_memory memM
  rw [ext_s0 hx, bnd_s]
  dsimp only [d6]
  by_cases h4 : rm = 4
  · rw [br_pos (eq_t h4), if_pos h4]
    obtain ⟨a1, c1, hn, hq⟩ := sbyte_eq (x := x) (w := w) hl hp
    have hin : (posOf a1 c1).In t := by rw [hq]; exact hp.adv (by decide)
    rw [hn, bnd_s]
    dsimp only
    rw [ext_s0 hx, bnd_s, ext_s1 hx, bnd_s]
    dsimp only
    rw [← hq]
    have hb := rdU1_range t (posOf a c) hp
    generalize rdU t 1 (posOf a c) = b at hb ⊢
    rw [remI_pos hb.1, quoI_pos hb.1 (by decide) (by omega), quoI_pos hb.1 (by decide) (by omega), remI_pos (by omega), addI_id (by omega) (by omega), addI_id (by omega) (by omega), shl_smallU hb.1 hb.2, shl_small hb.1 hb.2]
    have hle : leI 0 (b / 64) = true := le_t (by omega)
    refine ex_ret (Ret.bnd (Q := fun y => ∃ a2 c2, y = Sum.inl ((md, ()), (t, a2, x, w, c2, ()), (0, 0, 0, 0, 0, 0, 0, ()),
        (2, 0, (if md = 0 ∧ b % 8 = 5 then -1 else b % 8 + extM x 0), (if b / 8 % 8 + extM x 1 = 4 then -1 else b / 8 % 8 + extM x 1), (if b / 8 % 8 + extM x 1 = 4 then 1 else 2 ^ (b / 64).toNat), (if md = 0 ∧ b % 8 = 5 then rdS t 4 (posOf a1 c1) else 0), 0, ()), ()) ∧
        posOf a2 c2 = if md = 0 ∧ b % 8 = 5 then adv t 4 (posOf a1 c1) else posOf a1 c1) ?_ ?_)
    · refine Ret.bnd (Q := fun y => y = Sum.inl ((md, b, ()), (t, a1, x, w, c1, ()), (0, 0, 0, 0, 0, 0, 0, ()),
        (2, 0, b % 8 + extM x 0, (if b / 8 % 8 + extM x 1 = 4 then -1 else b / 8 % 8 + extM x 1), (if b / 8 % 8 + extM x 1 = 4 then 1 else 2 ^ (b / 64).toNat), 0, 0, ()), ())) ?_ ?_
      · by_cases hA : b / 8 % 8 + extM x 1 = 4 <;> simp [hle, hA, eqI, notB, br, Ret]
      · rintro _ rfl
        rw [sumE_l]
        dsimp only
        rw [remI_pos hb.1]
        by_cases hC : b % 8 = 5
        · rw [br_pos (eq_t hC), bnd_s]
          by_cases hB : md = 0
          · rw [br_pos (eq_t hB)]
            simp only [if_pos (show md = 0 ∧ b % 8 = 5 from ⟨hB, hC⟩)]
            obtain ⟨a2, c2, hn2, hq2⟩ := snumber_eq (x := x) (w := w) 4 (by decide) (by decide) hl hin
            rw [hn2, bnd_s, bnd_s, sumE_l]
            exact Ret.some ⟨a2, c2, rfl, hq2⟩
          · rw [br_neg (eq_f hB), bnd_s, sumE_l]
            simp only [if_neg (show ¬ (md = 0 ∧ b % 8 = 5) from fun g => hB g.1)]
            exact Ret.some ⟨a1, c1, rfl, rfl⟩
        · rw [br_neg (eq_f hC), bnd_s, br_f, bnd_s, sumE_l]
          simp only [if_neg (show ¬ (md = 0 ∧ b % 8 = 5) from fun g => hC g.2)]
          exact Ret.some ⟨a1, c1, rfl, rfl⟩
    · rintro _ ⟨a2, c2, rfl, h2⟩
      rw [sumE_l]
      dsimp only
      by_cases hBC : md = 0 ∧ b % 8 = 5
      · have hd : dspW md rm b = 4 := by unfold dspW; rw [if_neg (by omega), if_neg (by omega), if_pos (by omega)]
        rw [if_pos hBC] at h2
        rw [if_pos hBC, if_pos hBC, eq_f (show md ≠ 1 by omega), br_f, bnd_s, sumE_l]
        dsimp only
        rw [eq_f (show md ≠ 2 by omega), br_f, hd]
        exact Ret.some ⟨a2, c2, rfl, h2⟩
      · rw [if_neg hBC] at h2
        rw [if_neg hBC, if_neg hBC]
        have hin2 : (posOf a2 c2).In t := by rw [h2]; exact hin
        by_cases m1 : md = 1
        · have hd : dspW md rm b = 1 := by unfold dspW; rw [if_neg (by omega), if_pos m1]
          obtain ⟨a3, c3, hn3, hq3⟩ := snumber_eq (x := x) (w := w) 1 (by decide) (by decide) hl hin2
          rw [eq_t m1, br_t, hn3, bnd_s, bnd_s, sumE_l]
          dsimp only
          rw [eq_f (show md ≠ 2 by omega), br_f, hd, ← h2]
          exact Ret.some ⟨a3, c3, rfl, hq3⟩
        · rw [eq_f m1, br_f, bnd_s, sumE_l]
          dsimp only
          by_cases m2 : md = 2
          · have hd : dspW md rm b = 4 := by unfold dspW; rw [if_pos m2]
            obtain ⟨a3, c3, hn3, hq3⟩ := snumber_eq (x := x) (w := w) 4 (by decide) (by decide) hl hin2
            rw [eq_t m2, br_t, hn3, bnd_s, hd, ← h2]
            exact Ret.some ⟨a3, c3, rfl, hq3⟩
          · have hd : dspW md rm b = 0 := by unfold dspW; rw [if_neg m2, if_neg m1, if_neg (by omega)]
            rw [eq_f m2, br_f, hd]
            exact Ret.some ⟨a2, c2, rfl, h2⟩
  · rw [br_neg (eq_f h4), if_neg h4]
    refine ex_ret (Ret.bnd (Q := fun y => ∃ a2 c2, y = Sum.inl ((md, ()), (t, a2, x, w, c2, ()), (0, 0, 0, 0, 0, 0, 0, ()),
        (2, 0, (if rm = 5 ∧ md = 0 then 16 else rm + extM x 0), -1, 1, (if rm = 5 ∧ md = 0 then rdS t 4 (posOf a c) else 0), 0, ()), ()) ∧
        posOf a2 c2 = if rm = 5 ∧ md = 0 then adv t 4 (posOf a c) else posOf a c) ?_ ?_)
    · by_cases hR : rm = 5 ∧ md = 0
      · rw [br_pos (eq_t hR.1), bnd_s, eq_t hR.2, br_t, if_pos hR, if_pos hR, if_pos hR]
        obtain ⟨a2, c2, hn2, hq2⟩ := snumber_eq (x := x) (w := w) 4 (by decide) (by decide) hl hp
        rw [hn2, bnd_s, bnd_s, sumE_l]
        exact Ret.some ⟨a2, c2, rfl, hq2⟩
      · rw [if_neg hR, if_neg hR, if_neg hR]
        refine Ret.bnd (Q := fun y => y = false) ?_ ?_
        · by_cases h5 : rm = 5
          · rw [br_pos (eq_t h5)]
            exact Ret.some (eq_f (fun g => hR ⟨h5, g⟩))
          · rw [br_neg (eq_f h5)]
            exact Ret.some rfl
        · rintro _ rfl
          rw [br_f, bnd_s, sumE_l, addI_id (by omega) (by omega)]
          exact Ret.some ⟨a, c, rfl, rfl⟩
    · rintro _ ⟨a2, c2, rfl, h2⟩
      rw [sumE_l]
      dsimp only
      by_cases hR : rm = 5 ∧ md = 0
      · rw [if_pos hR] at h2
        rw [if_pos hR, if_pos hR, if_pos hR, eq_f (show md ≠ 1 by omega), br_f, bnd_s, sumE_l]
        dsimp only
        rw [eq_f (show md ≠ 2 by omega), br_f]
        exact Ret.some ⟨a2, c2, rfl, h2⟩
      · rw [if_neg hR] at h2
        rw [if_neg hR, if_neg hR, if_neg hR]
        have hin2 : (posOf a2 c2).In t := by rw [h2]; exact hp
        by_cases m1 : md = 1
        · have hd : dspW md rm 0 = 1 := by unfold dspW; rw [if_neg (by omega), if_pos m1]
          obtain ⟨a3, c3, hn3, hq3⟩ := snumber_eq (x := x) (w := w) 1 (by decide) (by decide) hl hin2
          rw [eq_t m1, br_t, hn3, bnd_s, bnd_s, sumE_l]
          dsimp only
          rw [eq_f (show md ≠ 2 by omega), br_f, hd, ← h2]
          exact Ret.some ⟨a3, c3, rfl, hq3⟩
        · rw [eq_f m1, br_f, bnd_s, sumE_l]
          dsimp only
          by_cases m2 : md = 2
          · have hd : dspW md rm 0 = 4 := by unfold dspW; rw [if_pos m2]
            obtain ⟨a3, c3, hn3, hq3⟩ := snumber_eq (x := x) (w := w) 4 (by decide) (by decide) hl hin2
            rw [eq_t m2, br_t, hn3, bnd_s, hd, ← h2]
            exact Ret.some ⟨a3, c3, rfl, hq3⟩
          · have hd : dspW md rm 0 = 0 := by unfold dspW; rw [if_neg m2, if_neg m1, if_neg (by omega)]
            rw [eq_f m2, br_f, hd]
            exact Ret.some ⟨a2, c2, rfl, h2⟩
end
end Go.Den.G
namespace Go.Den.G
open Go.Den
set_option maxRecDepth 100000
section
variable {t : List UInt8} {a c x : Int} {w : Bool}
theorem sOne_eq (y : Ins) (o : Opd) (h1 : y.dst = noD) (h2 : y.src = noD) : S_spec_l04One ((y, tOpd o (), ()), ()) = some (if srcB y.op = true then ⟨y.op, y.size, y.cond, y.frm, noD, o, y.len⟩ else ⟨y.op, y.size, y.cond, y.frm, o, noD, y.len⟩, ()) := by
  unfold S_spec_l04One
  dsimp only
  simp only [sw1, bnd_s, sumE_l, srcB_eq]
  cases hs : srcB y.op with
  | true =>
    rw [br_t, bnd_s, sumE_r, if_pos rfl]
    obtain ⟨_, _, _, _, d, e, _⟩ := y
    dsimp only at h1 h2
    subst h1 h2; rfl
  | false =>
    rw [br_f, bnd_s, sumE_l, if_neg (by decide)]
    obtain ⟨_, _, _, _, d, e, _⟩ := y
    dsimp only at h1 h2
    subst h1 h2; rfl
theorem smodrm_eq {m z f frm op cd : Int} (hx : rexOK x) (hm0 : 0 ≤ m) (hm : m < 256) (b : Int) (z0 z2 : Int) (z3 : Bool) (hf : hasMB f = true) (hz : (f = 5 ∨ f = 6) → sizeP z) (hl : (t.length : Int) ≤ 1099511627776) (hp : (posOf a c).In t) :
    ∃ a' c', S_spec_l04In_modrm ((⟨op, z, cd, frm, noD, noD, 0⟩, (z0, f, z2, z3, frm, ()), m, ()), (t, a, x, w, c, ()), ()) =
      some (⟨op, z, cd, frm, (opsM t f frm op z x b m (posOf a c)).1, (opsM t f frm op z x b m (posOf a c)).2.1, 0⟩, (t, a', x, w, c', ()), ()) ∧ posOf a' c' = (opsM t f frm op z x b m (posOf a c)).2.2 := by
  obtain ⟨e0, e8, ez⟩ := ext_le (x := x) (k := 0) (by decide)
  obtain ⟨g0, g8, gz⟩ := ext_le (x := x) (k := 2) (by decide)
  unfold S_spec_l04In_modrm
  dsimp only
  obtain ⟨Z, hZ⟩ : ∃ Z, Z = if f = 17 then frm else z := ⟨_, rfl⟩
  have hm8 : quoI .i64 m 8 = m / 8 := quoI_pos hm0 (by decide) (by omega)
  have hm64 : quoI .i64 m 64 = m / 64 := quoI_pos hm0 (by decide) (by omega)
  have hr8 : remI m 8 = m % 8 := remI_pos hm0
  have hr88 : remI (m / 8) 8 = m / 8 % 8 := remI_pos (by omega)
  refine ex_ret (Ret.bnd (Q := fun y => y = Sum.inl ((m, Z, ()), (t, a, x, w, c, ()), tIns ⟨op, z, cd, frm, noD, noD, 0⟩ (), (z0, f, z2, z3, frm, ()), (0, 0, 0, 0, 0, 0, 0, 0, 0, 0, 0, 0, 0, 0, 0, 0, 0, 0, 0, ()), ())) ?_ ?_)
  · by_cases h17 : f = 17
    · rw [br_pos (eq_t h17)]; exact Ret.some (by rw [hZ, if_pos h17])
    · rw [br_neg (eq_f h17)]; exact Ret.some (by rw [hZ, if_neg h17])
  · rintro _ rfl
    rw [sumE_l]
    dsimp only
    rw [ext_s2 hx, bnd_s, hm8, hm64, hr8, hr88]
    dsimp only
    rw [addI_id (by omega) (by omega), sreg_eq (by omega) (by omega), bnd_s]
    refine Ret.bnd (Q := fun y => ∃ a1 c1, y = Sum.inl ((), (t, a1, x, w, c1, ()), tIns ⟨op, z, cd, frm, noD, noD, 0⟩ (), (z0, f, z2, z3, frm, ()), (0, 0, 0, 0, 0, 0, 0, 0, 0, 0, 0, 0, 0, 0, 0, 0, 0, 0, 0, ()),
      tOpd (regD (regNo x (m / 8 % 8 + extM x 2) z)) (), tOpd (plM t x m Z (posOf a c)).1 (), ()) ∧ posOf a1 c1 = (plM t x m Z (posOf a c)).2) ?_ ?_
    · unfold plM
      by_cases h3 : m / 64 = 3
      · rw [br_pos (eq_t h3), if_pos h3, ext_s0 hx, bnd_s]
        dsimp only
        rw [addI_id (by omega) (by omega), sreg_eq (by omega) (by omega), bnd_s]
        exact Ret.some ⟨a, c, rfl, rfl⟩
      · rw [br_neg (eq_f h3), if_neg h3]
        obtain ⟨a1, c1, e, h⟩ := smemory_eq (w := w) (md := m / 64) (rm := m % 8) hx (by omega) hl hp
        rw [e, bnd_s]
        exact Ret.some ⟨a1, c1, rfl, h⟩
    · rintro _ ⟨a1, c1, rfl, h⟩
      have hin : (posOf a1 c1).In t := by rw [h]; exact plM_in hp
      rw [sumE_l]
      dsimp only [p5, p6, d5]
      unfold opsM
      by_cases f1 : f = 1
      · rw [br_pos (eq_t f1), if_pos f1]
        rw [if_neg (by omega)] at hZ
        subst hZ
        exact Ret.some ⟨a1, c1, rfl, h⟩
      rw [br_neg (eq_f f1), if_neg f1]
      simp only [sw2, bnd_s, sumE_l]
      by_cases f2 : f = 2
      · rw [if_pos f2, br_pos (by simp [eqI, f2])]
        rw [if_neg (by omega)] at hZ
        subst hZ
        exact Ret.some ⟨a1, c1, rfl, h⟩
      rw [if_neg f2]
      by_cases f17 : f = 17
      · rw [if_pos f17, br_pos (by simp [eqI, f17])]
        rw [if_pos f17] at hZ
        subst hZ
        exact Ret.some ⟨a1, c1, rfl, h⟩
      rw [if_neg f17, br_neg (by simp [eqI, f17, f2])]
      rw [if_neg f17] at hZ
      subst hZ
      rw [if_neg (show ¬ f = 3 by rintro rfl; revert hf; decide)]
      by_cases f4 : f = 4
      · rw [if_pos f4, br_pos (eq_t f4)]
        obtain ⟨a2, c2, e2, h2⟩ := simm_eq (x := x) (w := w) (z := 1) (.inl rfl) hl hin
        rw [e2, bnd_s, ← h]
        exact Ret.some ⟨a2, c2, rfl, h2⟩
      rw [if_neg f4, br_neg (eq_f f4)]
      by_cases f5 : f = 5
      · rw [if_pos f5, br_pos (eq_t f5)]
        obtain ⟨a2, c2, e2, h2⟩ := simm_eq (x := x) (w := w) (z := Z) (hz (.inl f5)) hl hin
        refine Ret.bnd (Q := fun y => y = _) (Ret.of_eq e2 rfl) ?_
        rintro _ rfl
        rw [← h]
        exact Ret.some ⟨a2, c2, rfl, h2⟩
      rw [if_neg f5, br_neg (eq_f f5)]
      by_cases f11 : f = 11
      · rw [br_pos (eq_t f11), if_neg (by omega), if_neg (by omega), if_neg (by omega), if_neg (by omega), if_neg (by omega), if_neg (by omega), if_pos f11]
        obtain ⟨a2, c2, e2, h2⟩ := sbyte_eq (x := x) (w := w) hl hin
        rw [e2, bnd_s, ← h]
        exact Ret.some ⟨a2, c2, rfl, h2⟩
      rw [br_neg (eq_f f11)]
      by_cases f12 : f = 12
      · rw [br_pos (eq_t f12), if_neg (by omega), if_neg (by omega), if_neg (by omega), if_neg (by omega), if_neg (by omega), if_neg (by omega), if_neg (by omega), if_pos f12]
        exact Ret.some ⟨a1, c1, rfl, h⟩
      rw [br_neg (eq_f f12)]
      by_cases f13 : f = 13
      · rw [br_pos (eq_t f13), if_neg (by omega), if_neg (by omega), if_neg (by omega), if_neg (by omega), if_neg (by omega), if_neg (by omega), if_neg (by omega), if_neg (by omega), if_pos f13]
        exact Ret.some ⟨a1, c1, rfl, h⟩
      rw [br_neg (eq_f f13)]
      have f6 : f = 6 := by
        unfold hasMB at hf
        have := of_decide_eq_true hf
        omega
      rw [if_pos f6]
      refine Ret.bnd (Q := fun y => y = _) (Ret.of_eq (sOne_eq ⟨op, Z, cd, frm, noD, noD, 0⟩ _ rfl rfl) rfl) ?_
      rintro _ rfl
      unfold oneM
      dsimp only
      cases hs : srcB op with
      | true =>
        rw [if_pos rfl, if_pos rfl]
        dsimp only
        rw [eq_f (show op ≠ 10 by rintro rfl; revert hs; decide), br_f]
        exact Ret.some ⟨a1, c1, rfl, h⟩
      | false =>
        rw [if_neg (by decide), if_neg (by decide)]
        dsimp only
        by_cases h10 : op = 10
        · rw [if_pos h10, eq_t h10, br_t]
          obtain ⟨a2, c2, e2, h2⟩ := simm_eq (x := x) (w := w) (z := Z) (hz (.inr f6)) hl hin
          rw [e2, bnd_s, ← h]
          exact Ret.some ⟨a2, c2, rfl, h2⟩
        · rw [if_neg h10, eq_f h10, br_f]
          exact Ret.some ⟨a1, c1, rfl, h⟩
theorem splain_eq {m z f frm op cd : Int} (hx : rexOK x) {b : Int} (hb0 : 0 ≤ b) (z0 z2 : Int) (z3 : Bool) (hf : hasMB f = false) (hz : (f = 3 ∨ f = 8) → sizeP z) (hl : (t.length : Int) ≤ 1099511627776) (hp : (posOf a c).In t) :
    ∃ a' c', S_spec_l04In_plain ((⟨op, z, cd, frm, noD, noD, 0⟩, (z0, f, z2, z3, frm, ()), b, ()), (t, a, x, w, c, ()), ()) =
      some (⟨op, z, cd, frm, (opsM t f frm op z x b m (posOf a c)).1, (opsM t f frm op z x b m (posOf a c)).2.1, 0⟩, (t, a', x, w, c', ()), ()) ∧ posOf a' c' = (opsM t f frm op z x b m (posOf a c)).2.2 := by
  obtain ⟨e0, e8, ez⟩ := ext_le (x := x) (k := 0) (by decide)
  have hM : ¬ (f = 1 ∨ f = 2 ∨ f = 4 ∨ f = 5 ∨ f = 6 ∨ f = 11 ∨ f = 12 ∨ f = 13 ∨ f = 17) := by unfold hasMB at hf; exact of_decide_eq_false hf
  have hr8 : remI b 8 = b % 8 := remI_pos hb0
  unfold S_spec_l04In_plain opsM
  dsimp only
  rw [if_neg (show ¬ f = 1 by omega), if_neg (show ¬ f = 2 by omega), if_neg (show ¬ f = 17 by omega)]
  by_cases f3 : f = 3
  · rw [if_pos f3, br_pos (eq_t f3)]
    obtain ⟨a2, c2, e2, h2⟩ := simm_eq (x := x) (w := w) (z := z) (hz (.inl f3)) hl hp
    rw [e2, bnd_s]
    exact ⟨a2, c2, rfl, h2⟩
  rw [if_neg f3, br_neg (eq_f f3), if_neg (show ¬ f = 4 by omega), if_neg (show ¬ f = 5 by omega), if_neg (show ¬ f = 6 by omega)]
  by_cases f7 : f = 7
  · rw [if_pos f7, br_pos (eq_t f7), ext_s0 hx, bnd_s, hr8]
    dsimp only
    rw [addI_id (by omega) (by omega)]
    by_cases ho : op = 29
    · rw [if_pos ho, eq_t ho]; exact ⟨a, c, rfl, rfl⟩
    · rw [if_neg ho, eq_f ho]; exact ⟨a, c, rfl, rfl⟩
  rw [if_neg f7, br_neg (eq_f f7)]
  by_cases f8 : f = 8
  · rw [if_pos f8, br_pos (eq_t f8), ext_s0 hx, bnd_s, hr8]
    dsimp only
    rw [addI_id (by omega) (by omega), sreg_eq (by omega) (by omega), bnd_s]
    obtain ⟨s1, s8⟩ := sz18 (hz (.inr f8))
    obtain ⟨a2, c2, e2, h2⟩ := snumber_eq (x := x) (w := w) z s1 s8 hl hp
    rw [e2, bnd_s]
    exact ⟨a2, c2, rfl, h2⟩
  rw [if_neg f8, br_neg (eq_f f8)]
  by_cases f9 : f = 9
  · rw [if_pos f9, br_pos (eq_t f9)]
    obtain ⟨a2, c2, e2, h2⟩ := simm_eq (x := x) (w := w) (z := 1) (.inl rfl) hl hp
    rw [e2, bnd_s]
    exact ⟨a2, c2, rfl, h2⟩
  rw [if_neg f9, br_neg (eq_f f9)]
  simp only [sw2, bnd_s, sumE_l]
  by_cases f10 : f = 10 ∨ f = 16
  · rw [if_neg (show ¬ f = 15 by omega), if_pos f10, br_pos (by simpa [eqI] using f10)]
    obtain ⟨a2, c2, e2, h2⟩ := simm_eq (x := x) (w := w) (z := 4) (.inr (.inr (.inl rfl))) hl hp
    rw [e2, bnd_s]
    exact ⟨a2, c2, rfl, h2⟩
  rw [br_neg (by simpa [eqI] using f10)]
  by_cases f15 : f = 15
  · rw [if_pos f15, br_pos (eq_t f15)]
    obtain ⟨a2, c2, e2, h2⟩ := simm_eq (x := x) (w := w) (z := 1) (.inl rfl) hl hp
    rw [e2, bnd_s]
    refine ex_ret ?_
    by_cases ho : op = 44
    · subst ho
      rw [if_pos rfl]
      have hr := rdU1_range t (posOf a c) hp
      have hzz := l01Zero_eq (sx_range 7 (by decide) (rdU t 1 (posOf a c))) 1 rfl
      rw [sx_byte hr.1 hr.2, show ((1 : Nat) : Int) = 1 from rfl] at hzz
      refine Ret.mono (Ret.of_eq (x := (⟨44, z, cd, frm, noD, immD (rdU t 1 (posOf a c)), 0⟩, (t, a2, x, w, c2, ()), ())) ?_ rfl) (fun y hy => ⟨a2, c2, hy.symm, h2⟩)
      show bnd (S_spec_l01Zero ((sx 7 (rdU t 1 (posOf a c)), 1, ()), ())) _ = _
      rw [hzz, bnd_s]
      rfl
    · rw [if_neg ho]
      refine Ret.mono (Ret.of_eq (x := (⟨op, z, cd, frm, noD, immD (rdS t 1 (posOf a c)), 0⟩, (t, a2, x, w, c2, ()), ())) ?_ rfl) (fun y hy => ⟨a2, c2, hy.symm, h2⟩)
      show br (eqI op 44) _ _ = _
      rw [eq_f ho]
      rfl
  rw [if_neg f15, br_neg (eq_f f15), if_neg f10, if_neg (show ¬ f = 11 by omega), if_neg (show ¬ f = 12 by omega), if_neg (show ¬ f = 13 by omega)]
  exact ⟨a, c, rfl, rfl⟩
end
end Go.Den.G
namespace Go.Den.G
open Go.Den
set_option maxRecDepth 100000

/-! ### the head of an instruction: the model -/
/-- The next byte, -1 if there is none. -/
def pkB (t : List UInt8) (p : Pos) : Int := match p with
  | .ok a => if a < t.length then byteAt t a else -1
  | .error _ => -1
def wdM (t : List UInt8) (p : Pos) : Bool := decide (pkB t p = 102)
def p1M (t : List UInt8) (p : Pos) : Pos := if wdM t p = true then adv t 1 p else p
def p2M (t : List UInt8) (p : Pos) : Pos := exb (p1M t p) fun a => if pkB t (p1M t p) ∈ pfxL then .error 10 else .ok a
def hxM (t : List UInt8) (p : Pos) : Bool := decide (64 ≤ pkB t (p2M t p) ∧ pkB t (p2M t p) ≤ 79)
def xM (t : List UInt8) (p : Pos) : Int := if hxM t p = true then pkB t (p2M t p) else 0
def p3M (t : List UInt8) (p : Pos) : Pos := if hxM t p = true then adv t 1 (p2M t p) else p2M t p
def secM (t : List UInt8) (p : Pos) : Bool := decide (rdU t 1 (p3M t p) = 15)
def p5M (t : List UInt8) (p : Pos) : Pos := if secM t p = true then adv t 1 (adv t 1 (p3M t p)) else adv t 1 (p3M t p)
def bM (t : List UInt8) (p : Pos) : Int := if secM t p = true then rdU t 1 (adv t 1 (p3M t p)) else rdU t 1 (p3M t p)
def zM (t : List UInt8) (p : Pos) : Shz := shz (secM t p) (bM t p).toNat
def p6M (t : List UInt8) (p : Pos) : Pos := exb (p5M t p) fun a => if (zM t p).2.1 = 0 then .error 11 else .ok a
theorem rexOK_xM (t : List UInt8) (p : Pos) : rexOK (xM t p) := by
  unfold xM rexOK
  split
  · rename_i h
    unfold hxM at h
    exact .inr (of_decide_eq_true h)
  · exact .inl rfl
theorem exb_in {t : List UInt8} {p : Pos} {q : Int → Prop} [DecidablePred q] {k : Int} (h : p.In t) : Pos.In (exb p fun a => if q a then .error k else .ok a) t := by
  intro a ha
  cases p with
  | error c => cases ha
  | ok b =>
    unfold exb at ha
    dsimp only at ha
    split at ha
    · cases ha
    · exact h a (by cases ha; rfl)
theorem p1M_in {t : List UInt8} {p : Pos} (h : p.In t) : (p1M t p).In t := by unfold p1M; split; exact h.adv (by decide); exact h
theorem p2M_in {t : List UInt8} {p : Pos} (h : p.In t) : (p2M t p).In t := exb_in (q := fun _ => pkB t (p1M t p) ∈ pfxL) (p1M_in h)
theorem p3M_in {t : List UInt8} {p : Pos} (h : p.In t) : (p3M t p).In t := by unfold p3M; split; exact (p2M_in h).adv (by decide); exact p2M_in h
theorem p4M_in {t : List UInt8} {p : Pos} (h : p.In t) : (adv t 1 (p3M t p)).In t := (p3M_in h).adv (by decide)
theorem p5M_in {t : List UInt8} {p : Pos} (h : p.In t) : (p5M t p).In t := by unfold p5M; split; exact (p4M_in h).adv (by decide); exact p4M_in h
theorem p6M_in {t : List UInt8} {p : Pos} (h : p.In t) : (p6M t p).In t := exb_in (q := fun _ => (zM t p).2.1 = 0) (p5M_in h)
theorem bM_range {t : List UInt8} {p : Pos} (h : p.In t) : 0 ≤ bM t p ∧ bM t p < 256 := by
  unfold bM; split
  · exact rdU1_range t _ (p4M_in h)
  · exact rdU1_range t _ (p3M_in h)
theorem pkB_rd {t : List UInt8} {p : Pos} (hp : p.In t) (h : 0 ≤ pkB t p) : rdU t 1 p = pkB t p ∧ ∃ a, p = .ok a ∧ a + 1 ≤ t.length ∧ adv t 1 p = .ok (a + 1) := by
  cases p with
  | error _ => unfold pkB at h; dsimp only at h; omega
  | ok a =>
    obtain ⟨h0, h1⟩ := hp a rfl
    unfold pkB at h ⊢
    unfold rdU adv exb
    dsimp only at h ⊢
    by_cases hl : a < t.length
    · rw [if_pos hl, if_pos (by omega), if_pos (by omega), lw_byte h0 hl]
      exact ⟨rfl, a, rfl, by omega, rfl⟩
    · rw [if_neg hl] at h; omega
section
variable {t : List UInt8} {a c : Int}
theorem dpeek_eq {lo hi : Int} (r : _) (h0 : 0 ≤ lo) (hp : (posOf a c).In t) : S_impl_decoder_peek ((lo, hi, ()), (t, a, c, r), ()) = some (decide (lo ≤ pkB t (posOf a c) ∧ pkB t (posOf a c) ≤ hi), (t, a, c, r), ()) := by
  unfold S_impl_decoder_peek
  dsimp only
  by_cases hc : c = 0
  · subst hc
    obtain ⟨p0, p1⟩ := hp a posOf_ok
    rw [posOf_ok, br_pos (eq_t rfl)]
    by_cases hl : a < t.length
    · have hpk : pkB t (.ok a) = byteAt t a := if_pos hl
      rw [br_pos (lt_t (by rw [lenL_nat]; exact hl)), br_pos (inR_t p0 (by rw [lenL_nat]; exact hl)), hpk, wrapII_id (by have := byteAt_range t a; omega) (by have := byteAt_range t a; omega), within_dec, bnd_s]
    · have hpk : pkB t (.ok a) = -1 := if_neg hl
      rw [br_neg (lt_f (by rw [lenL_nat]; exact hl)), hpk, decide_eq_false (by omega)]
  · have hpk : pkB t (.error c) = -1 := rfl
    rw [br_neg (eq_f hc), posOf_bad hc, hpk, decide_eq_false (by omega)]
theorem disPrefix_eq (r : _) (hp : (posOf a c).In t) : S_impl_decoder_isPrefix ((), (t, a, c, r), ()) = some (decide (pkB t (posOf a c) ∈ pfxL), (t, a, c, r), ()) := by
  unfold S_impl_decoder_isPrefix
  dsimp only
  refine (iter_eq (fun y => ∃ i : Nat, i ≤ 11 ∧ y = ((11, (i : Int), ()), (t, a, c, r), pfxL, ())) (fun y => 11 - y.1.2.1.toNat) (fun y => some (decide (pkB t (posOf a c) ∈ pfxL.drop y.1.2.1.toNat), (t, a, c, r), ())) ?_ F _ ⟨0, by omega, rfl⟩ (by unfold F; dsimp only; omega)).trans rfl
  rintro _ rec ⟨i, hi, rfl⟩ hrec
  dsimp only
  by_cases h : i < 11
  · have hL : i < pfxL.length := h
    rw [br_pos (lt_t (by omega)), br_pos (inR_t (by omega) (by rw [lenL_nat]; omega)), getL_nat hL]
    have hnn : 0 ≤ pfxL[i] := by
      have : ∀ y ∈ pfxL, (0 : Int) ≤ y := by decide
      exact this _ (List.getElem_mem hL)
    rw [dpeek_eq r hnn hp, bnd_s]
    dsimp only
    rw [Int.toNat_natCast, List.drop_eq_getElem_cons hL]
    by_cases e : pkB t (posOf a c) = pfxL[i]
    · rw [br_pos (decide_eq_true (by omega)), decide_eq_true (by rw [e]; exact List.mem_cons_self)]
    · rw [br_neg (decide_eq_false (by omega)), addI_id (by omega) (by omega), hrec ((11, (i : Int) + 1, ()), (t, a, c, r), pfxL, ()) ⟨i + 1, by omega, rfl⟩ (by dsimp only; omega)]
      dsimp only
      rw [show ((i : Int) + 1).toNat = i + 1 by omega]
      have hm : ∀ l : List Int, (pkB t (posOf a c) ∈ pfxL[i] :: l) = (pkB t (posOf a c) ∈ l) := fun l => by rw [List.mem_cons, eq_false e, false_or]
      simp only [hm]
  · have : i = 11 := by omega
    subst this
    rw [br_neg (lt_f (by omega))]
    simp [pfxL]
theorem dprefixes_eq (r : _) (hl : (t.length : Int) ≤ 1099511627776) (hp : (posOf a c).In t) :
    ∃ a' c', S_impl_decoder_prefixes ((), (t, a, c, false, 0, false, r), ()) = some ((), (t, a', c', wdM t (posOf a c), xM t (posOf a c) % 16, decide (xM t (posOf a c) ≠ 0), r), ()) ∧ posOf a' c' = p3M t (posOf a c) := by
  unfold S_impl_decoder_prefixes
  dsimp only
  rw [dpeek_eq _ (by decide) hp, bnd_s]
  dsimp only
  refine ex_ret (Ret.bnd (Q := fun y => ∃ a1 c1, y = Sum.inl ((), (t, a1, c1, wdM t (posOf a c), 0, false, r), ()) ∧ posOf a1 c1 = p1M t (posOf a c)) ?_ ?_)
  · unfold p1M wdM
    by_cases h : pkB t (posOf a c) = 102
    · rw [decide_eq_true (show 102 ≤ pkB t (posOf a c) ∧ pkB t (posOf a c) ≤ 102 by omega), br_t, decide_eq_true h, if_pos rfl]
      obtain ⟨a1, c1, e, h1⟩ := dnext_eq 1 (true, 0, false, r) (by decide) (by decide) hl hp
      rw [e, bnd_s]
      exact Ret.some ⟨a1, c1, rfl, h1⟩
    · rw [decide_eq_false (show ¬ (102 ≤ pkB t (posOf a c) ∧ pkB t (posOf a c) ≤ 102) by omega), br_f, decide_eq_false h, if_neg (by decide)]
      exact Ret.some ⟨a, c, rfl, rfl⟩
  · rintro _ ⟨a1, c1, rfl, h1⟩
    have hin1 : (posOf a1 c1).In t := by rw [h1]; exact p1M_in hp
    rw [sumE_l]
    dsimp only [d6]
    rw [disPrefix_eq _ hin1, bnd_s]
    dsimp only
    rw [dwrong_eq, bnd_s]
    dsimp only
    have h2 : posOf a1 (if decide (pkB t (posOf a1 c1) ∈ pfxL) = true ∧ c1 = 0 then 10 else c1) = p2M t (posOf a c) := by
      rw [wrong_pos (by decide)]
      unfold p2M
      rw [← h1]
      simp only [decide_eq_true_eq]
    generalize (if decide (pkB t (posOf a1 c1) ∈ pfxL) = true ∧ c1 = 0 then (10 : Int) else c1) = c2 at h2 ⊢
    have hin2 : (posOf a1 c2).In t := by rw [h2]; exact p2M_in hp
    rw [dpeek_eq _ (by decide) hin2, bnd_s]
    dsimp only
    rw [h2]
    unfold p3M xM hxM
    by_cases h : 64 ≤ pkB t (p2M t (posOf a c)) ∧ pkB t (p2M t (posOf a c)) ≤ 79
    · rw [decide_eq_true h, br_t, if_pos rfl, if_pos rfl]
      obtain ⟨a3, c3, e, h3⟩ := dnext_eq 1 (wdM t (posOf a c), 0, true, r) (by decide) (by decide) hl hin2
      have hrd := (pkB_rd hin2 (by rw [h2]; omega)).1
      rw [e, bnd_s, hrd, h2, decide_eq_true (show pkB t (p2M t (posOf a c)) ≠ 0 by omega)]
      dsimp only
      rw [(bI (show 0 ≤ pkB t (p2M t (posOf a c)) by omega) (by omega)).2.2.2]
      exact Ret.some ⟨a3, c3, rfl, by rw [h3, h2]⟩
    · rw [decide_eq_false h, br_f, if_neg (by decide), if_neg (by decide)]
      exact Ret.some ⟨a1, c2, rfl, h2⟩
end
end Go.Den.G
namespace Go.Den.G
open Go.Den
set_option maxRecDepth 100000

/-! ### the whole: the model -/
def grpB (z : Shz) : Bool := decide (0 < z.2.2.1)
def mM (t : List UInt8) (p : Pos) : Int := if hasMB (zM t p).2.1 = true then rdU t 1 (p6M t p) else 0
def p7M (t : List UInt8) (p : Pos) : Pos := if hasMB (zM t p).2.1 = true then adv t 1 (p6M t p) else p6M t p
def opM (t : List UInt8) (p : Pos) : Int := if grpB (zM t p) = true then grp (zM t p).2.2.1.toNat (mM t p / 8 % 8).toNat else (zM t p).1
def p8M (t : List UInt8) (p : Pos) : Pos := exb (p7M t p) fun a => if grpB (zM t p) = true ∧ opM t p = 0 then .error 11 else .ok a
def zsM (t : List UInt8) (p : Pos) : Int := szM (zM t p).2.2.2.1 (opM t p) (wdM t p) (xM t p)
def badM (w by' : Bool) (frm op z m : Int) : Int :=
  if (w = true ∧ (eightB op = true ∨ zeroB op = true ∨ by' = true)) ∨ (frm = 4 ∧ z ≠ 8) ∨ ((frm = 1 ∨ frm = 2) ∧ z ≤ frm) then 10 else if op = 25 ∧ m / 64 = 3 then 12 else 0
def p9M (t : List UInt8) (p : Pos) : Pos := exb (p8M t p) fun a => if badM (wdM t p) (zM t p).2.2.2.1 (zM t p).2.2.2.2.1 (opM t p) (zsM t p) (mM t p) ≠ 0 then .error (badM (wdM t p) (zM t p).2.2.2.1 (zM t p).2.2.2.2.1 (opM t p) (zsM t p) (mM t p)) else .ok a
def oM (t : List UInt8) (p : Pos) : Opd × Opd × Pos := opsM t (zM t p).2.1 (zM t p).2.2.2.2.1 (opM t p) (zsM t p) (xM t p) (bM t p) (mM t p) (p9M t p)
def cdM (t : List UInt8) (p : Pos) : Int := if opM t p = 33 ∨ opM t p = 35 ∨ opM t p = 36 then bM t p % 16 else 0
/-- The instruction at a place, or what is wrong. -/
def decM (t : List UInt8) (at0 : Int) : Ins × Int := match (oM t (.ok at0)).2.2 with
  | .ok a => (⟨opM t (.ok at0), zsM t (.ok at0), cdM t (.ok at0), (zM t (.ok at0)).2.2.2.2.1, (oM t (.ok at0)).1, (oM t (.ok at0)).2.1, a - at0⟩, 0)
  | .error c => (dfltI, c)
theorem zM_fact {t : List UInt8} {p : Pos} (h : p.In t) : shP (zM t p) = true := sh_facts _ (by have := bM_range h; omega)
theorem mM_range {t : List UInt8} {p : Pos} (h : p.In t) : 0 ≤ mM t p ∧ mM t p < 256 := by
  unfold mM; split
  · exact rdU1_range t _ (p6M_in h)
  · omega
theorem opM_range {t : List UInt8} {p : Pos} (h : p.In t) : 0 ≤ opM t p ∧ opM t p ≤ 44 := by
  have hz := of_decide_eq_true (zM_fact h)
  have hm := mM_range h
  unfold opM; split
  · exact grp_range _ (by omega) _ (by omega)
  · exact ⟨hz.1, hz.2.1⟩
section
variable {t : List UInt8} {a c : Int}
theorem posOf_inj {a c a' : Int} (h : posOf a c = .ok a') : a = a' ∧ c = 0 := by
  unfold posOf at h
  by_cases hc : c = 0
  · rw [if_pos hc] at h; cases h; exact ⟨rfl, hc⟩
  · rw [if_neg hc] at h; cases h
theorem posOf_err {a c k : Int} (h : posOf a c = .error k) : c = k ∧ c ≠ 0 := by
  unfold posOf at h
  by_cases hc : c = 0
  · rw [if_pos hc] at h; cases h
  · rw [if_neg hc] at h; cases h; exact ⟨rfl, hc⟩
theorem rd_ok {p : Pos} {n : Int} (h : rdU t n p ≠ 0) : ∃ b, adv t n p = .ok b := by
  unfold rdU at h
  unfold adv exb
  cases p with
  | error _ => exact absurd rfl h
  | ok b =>
    dsimp only at h ⊢
    by_cases hl : b + n ≤ t.length
    · rw [if_pos hl]; exact ⟨_, rfl⟩
    · rw [if_neg hl] at h; exact absurd rfl h
/-- The bytes of the operation, read. -/
theorem doperation_eq (q : Pos) (nw : Bool) (rx : Int) (hr : Bool) (r : _) (hl : (t.length : Int) ≤ 1099511627776) (hq : q.In t) (hp : posOf a c = p3M t q) :
    Ret (S_impl_decoder_operation ((), (t, a, c, nw, rx, hr, 0, 0, 0, 0, false, 0, 0, 0, 0, 0, r), ())) fun y =>
      posOf y.2.1.2.1 y.2.1.2.2.1 = p6M t q ∧ ∀ e, p6M t q = .ok e → y = ((), (t, e, 0, nw, rx, hr, bM t q, (zM t q).1, (zM t q).2.1, (zM t q).2.2.1, (zM t q).2.2.2.1, (zM t q).2.2.2.2.1, 0, 0, 0, (zM t q).1, r), ()) := by
  have hin : (posOf a c).In t := by rw [hp]; exact p3M_in hq
  unfold S_impl_decoder_operation
  dsimp only [p5, p6, d7]
  obtain ⟨a1, c1, e1, h1⟩ := dnext_eq 1 (nw, rx, hr, 0, 0, 0, 0, false, 0, 0, 0, 0, 0, r) (by decide) (by decide) hl hin
  rw [e1, bnd_s]
  dsimp only
  rw [hp] at h1 ⊢
  have hin1 : (posOf a1 c1).In t := by rw [h1]; exact p4M_in hq
  have hx3 : (br (eqI (rdU t 1 (p3M t q)) 15) (some (eqI c1 0)) (some false)) = some (secM t q) := by
    unfold secM
    by_cases h : rdU t 1 (p3M t q) = 15
    · obtain ⟨b, hb⟩ := rd_ok (t := t) (p := p3M t q) (n := 1) (by omega)
      have hc : c1 = 0 := (posOf_inj (h1.trans hb)).2
      rw [br_pos (eq_t h), eq_t hc, decide_eq_true h]
    · rw [br_neg (eq_f h), decide_eq_false h]
  rw [hx3, bnd_s]
  refine Ret.bnd (Q := fun y => ∃ a2 c2, y = Sum.inl ((secM t q, ()), (t, a2, c2, nw, rx, hr, bM t q, 0, 0, 0, false, 0, 0, 0, 0, 0, r), ()) ∧ posOf a2 c2 = p5M t q) ?_ ?_
  · unfold p5M bM
    cases hs : secM t q with
    | true =>
      obtain ⟨a2, c2, e2, h2⟩ := dnext_eq 1 (nw, rx, hr, rdU t 1 (p3M t q), 0, 0, 0, false, 0, 0, 0, 0, 0, r) (by decide) (by decide) hl hin1
      rw [br_t, e2, bnd_s, if_pos rfl, if_pos rfl, h1]
      exact Ret.some ⟨a2, c2, rfl, by rw [h2, h1]⟩
    | false =>
      rw [br_f, if_neg (by decide), if_neg (by decide)]
      exact Ret.some ⟨a1, c1, rfl, h1⟩
  · rintro _ ⟨a2, c2, rfl, h2⟩
    rw [sumE_l]
    dsimp only [p6, p5, p12, p13, p14, d16]
    by_cases hc : c2 = 0
    · subst hc
      have hbr := bM_range hq
      have hS := ShapeOf_eq (secM t q) (show (bM t q).toNat < 256 by omega)
      rw [Int.toNat_of_nonneg hbr.1] at hS
      rw [show notB (eqI 0 0) = false from rfl, br_f, hS, bnd_s]
      dsimp only [shR]
      rw [dwrong_eq, bnd_s]
      have h6 : p6M t q = if (zM t q).2.1 = 0 then .error 11 else .ok a2 := by
        unfold p6M; rw [← h2]; rfl
      show Ret (some _) _
      refine Ret.some ?_
      dsimp only
      change posOf a2 (if notB (eqI (if (zM t q).2.1 = 0 then 11 else 0) 0) = true ∧ (0 : Int) = 0 then (if (zM t q).2.1 = 0 then 11 else 0) else 0) = p6M t q ∧ _
      rw [h6]
      by_cases hz : (zM t q).2.1 = 0
      · simp only [if_pos hz]
        exact ⟨rfl, fun e he => by cases he⟩
      · simp only [if_neg hz]
        refine ⟨rfl, fun e he => ?_⟩
        cases he
        have hz' : ¬ (shz (secM t q) (bM t q).toNat).2.1 = 0 := hz
        simp only [if_neg hz']
        rfl
    · rw [eq_f hc, notB_f, br_t]
      refine Ret.some ?_
      dsimp only
      have h6 : p6M t q = .error c2 := by unfold p6M; rw [← h2, posOf_bad hc]; rfl
      rw [h6, posOf_bad hc]
      exact ⟨rfl, fun e he => by cases he⟩
end
end Go.Den.G
namespace Go.Den.G
open Go.Den
set_option maxRecDepth 100000
section
variable {t : List UInt8} {a c : Int}
theorem fixedSize_eq {op : Int} (h : 0 ≤ op ∧ op ≤ 44) : S_impl_fixedSize ((op, ()), ()) = some ((if eightB op = true then (8, (true, ())) else if zeroB op = true then (0, (true, ())) else (0, (false, ()))), ()) := by
  obtain ⟨n, rfl⟩ := Int.eq_ofNat_of_zero_le h.1
  exact fixed_impl n (by omega)
theorem hasModrm_eq {f : Int} (h : 0 ≤ f ∧ f < 18) : S_impl_hasModrm ((f, ()), ()) = some (hasMB f, ()) := by
  obtain ⟨n, rfl⟩ := Int.eq_ofNat_of_zero_le h.1
  exact hasM_impl n (by omega)
theorem dmodrm_eq (q : Pos) (e : Int) (nw : Bool) (rx : Int) (hr : Bool) (r : _) (hl : (t.length : Int) ≤ 1099511627776) (hq : q.In t) (hp : p6M t q = .ok e) :
    Ret (S_impl_decoder_modrm ((), (t, e, 0, nw, rx, hr, bM t q, (zM t q).1, (zM t q).2.1, (zM t q).2.2.1, (zM t q).2.2.2.1, (zM t q).2.2.2.2.1, 0, 0, 0, (zM t q).1, r), ())) fun y =>
      posOf y.2.1.2.1 y.2.1.2.2.1 = p8M t q ∧ ∀ e, p8M t q = .ok e → y = ((), (t, e, 0, nw, rx, hr, bM t q, (zM t q).1, (zM t q).2.1, (zM t q).2.2.1, (zM t q).2.2.2.1, (zM t q).2.2.2.2.1, mM t q / 64, mM t q / 8 % 8, mM t q % 8, opM t q, r), ()) := by
  have hin : (posOf e 0).In t := by rw [posOf_ok, ← hp]; exact p6M_in hq
  have hz := of_decide_eq_true (zM_fact hq)
  have hm := mM_range hq
  unfold S_impl_decoder_modrm
  dsimp only [p8, p9, d15, d16]
  rw [hasModrm_eq ⟨hz.2.2.1, hz.2.2.2.1⟩]
  rw [show notB (eqI 0 0) = false from rfl, br_f, bnd_s, bnd_s]
  cases hM : hasMB (zM t q).2.1 with
  | false =>
    rw [notB_f, br_t]
    have hg : grpB (zM t q) = false := decide_eq_false fun g => by
      have := (hz.2.2.2.2.2.2.2.2.1 g).1
      rw [hM] at this; cases this
    have e1 : mM t q = 0 := by unfold mM; rw [hM, if_neg (by decide)]
    have e2 : opM t q = (zM t q).1 := by unfold opM; rw [hg, if_neg (by decide)]
    have e3 : p8M t q = .ok e := by unfold p8M p7M; rw [hM, hg, if_neg (by decide), hp]; simp [exb]
    refine Ret.some ⟨?_, fun e' he => ?_⟩
    · rw [e3]; rfl
    · rw [e3] at he; cases he
      rw [e1, e2]
      rfl
  | true =>
    obtain ⟨a1, c1, ee, h1⟩ := dnext_eq 1 (nw, rx, hr, bM t q, (zM t q).1, (zM t q).2.1, (zM t q).2.2.1, (zM t q).2.2.2.1, (zM t q).2.2.2.2.1, 0, 0, 0, (zM t q).1, r) (by decide) (by decide) hl hin
    have e1 : mM t q = rdU t 1 (posOf e 0) := by unfold mM; rw [hM, if_pos rfl, hp]; rfl
    have e7 : p7M t q = posOf a1 c1 := by unfold p7M; rw [hM, if_pos rfl, hp, h1]; rfl
    rw [notB_t, br_f, ee, ← e1, bnd_s]
    dsimp only
    obtain ⟨b6, b3, b0, _⟩ := bI hm.1 hm.2
    rw [b6, b3, b0]
    by_cases hg : 0 < (zM t q).2.2.1
    · have hgB : grpB (zM t q) = true := decide_eq_true hg
      rw [br_pos (lt_t hg), bnd_s]
      have e8 : p8M t q = exb (posOf a1 c1) fun a => if opM t q = 0 then .error 11 else .ok a := by
        unfold p8M; rw [e7, hgB]; simp only [true_and]
      by_cases hc : c1 = 0
      · subst hc
        have hgo := GroupOp_eq (g := (zM t q).2.2.1.toNat) (d := (mM t q / 8 % 8).toNat) (by omega) (by omega) (by omega)
        rw [Int.toNat_of_nonneg (by omega), Int.toNat_of_nonneg (by omega)] at hgo
        have eo : grp (zM t q).2.2.1.toNat (mM t q / 8 % 8).toNat = opM t q := by unfold opM; rw [hgB, if_pos rfl]
        rw [eo] at hgo
        rw [eq_t rfl, br_t, hgo, bnd_s]
        dsimp only [gpR]
        rw [dwrong_eq, bnd_s]
        refine Ret.some ?_
        rw [posOf_ok] at e8
        unfold exb at e8
        dsimp only at e8 ⊢
        rw [e8]
        by_cases ho : opM t q = 0
        · simp only [if_pos ho]
          exact ⟨rfl, fun e he => by cases he⟩
        · simp only [if_neg ho]
          refine ⟨rfl, fun e he => ?_⟩
          cases he
          rfl
      · rw [eq_f hc, br_f]
        refine Ret.some ?_
        rw [posOf_bad hc] at e8
        unfold exb at e8
        dsimp only at e8 ⊢
        rw [e8, posOf_bad hc]
        exact ⟨rfl, fun e he => by cases he⟩
    · have hgB : grpB (zM t q) = false := decide_eq_false hg
      have e2 : opM t q = (zM t q).1 := by unfold opM; rw [hgB, if_neg (by decide)]
      have e8 : p8M t q = posOf a1 c1 := by
        unfold p8M; rw [e7, hgB]
        cases posOf a1 c1 <;> simp [exb]
      rw [br_neg (lt_f hg), bnd_s, br_f]
      refine Ret.some ?_
      dsimp only
      rw [e8]
      refine ⟨rfl, fun e he => ?_⟩
      obtain ⟨rfl, rfl⟩ := posOf_inj he
      rw [e2]
theorem ext3 (x : Int) : notB (eqI (extM x 3) 0) = decide (x / 8 % 2 = 1) := by
  rw [Bool.eq_iff_iff, notB_iff, eq_nf, decide_eq_true_eq]
  unfold extM
  rw [show (2 : Int) ^ 3 = 8 from rfl]
  omega
theorem dsize_eq {x m z1 f g frm op b : Int} {nw by' : Bool} {zz rg rm : Int} {e : Int} (r : _) (ho : 0 ≤ op ∧ op ≤ 44) (hsz : zz = szM by' op nw x) :
    ∃ c', S_impl_decoder_size ((), (t, e, 0, nw, x % 16, decide (x ≠ 0), b, z1, f, g, by', frm, m / 64, rg, rm, op, 0, r), ()) =
      some ((), (t, e, c', nw, x % 16, decide (x ≠ 0), b, z1, f, g, by', frm, m / 64, rg, rm, op, zz, r), ()) ∧ c' = badM nw by' frm op zz m := by
  unfold S_impl_decoder_size
  dsimp only [p15, p10, d17, cp16]
  rw [fixedSize_eq ho, bnd_s]
  have fin : ∀ o : Option _, Ret o (fun y => ∃ c', y = ((), (t, e, c', nw, x % 16, decide (x ≠ 0), b, z1, f, g, by', frm, m / 64, rg, rm, op, zz, r), ()) ∧ c' = badM nw by' frm op zz m) → ∃ c', o = some ((), (t, e, c', nw, x % 16, decide (x ≠ 0), b, z1, f, g, by', frm, m / 64, rg, rm, op, zz, r), ()) ∧ c' = badM nw by' frm op zz m := by
    rintro o ⟨y, e, c', rfl, h⟩
    exact ⟨c', e, h⟩
  refine fin _ (Ret.bnd (Q := fun y => y = Sum.inl ((eightB op || zeroB op, ()), (t, e, 0, nw, x % 16, decide (x ≠ 0), b, z1, f, g, by', frm, m / 64, rg, rm, op, zz, r), ())) ?_ ?_)
  · unfold szM at hsz
    cases h8 : eightB op with
    | true =>
      rw [h8, if_pos rfl] at hsz
      rw [if_pos rfl, hsz]
      exact Ret.some rfl
    | false =>
      rw [h8, if_neg (by decide)] at hsz
      rw [if_neg (by decide)]
      cases h0 : zeroB op with
      | true =>
        rw [h0, if_pos rfl] at hsz
        rw [if_pos rfl, hsz]
        exact Ret.some rfl
      | false =>
        rw [h0, if_neg (by decide)] at hsz
        rw [if_neg (by decide)]
        dsimp only
        rw [br_f]
        cases hb : by' with
        | true =>
          rw [hb, if_pos rfl] at hsz
          rw [br_t, bnd_s, sumE_l, hsz]
          exact Ret.some rfl
        | false =>
          rw [hb, if_neg (by decide)] at hsz
          rw [br_f, dbit3, bnd_s]
          dsimp only
          rw [ext3]
          by_cases h3 : x / 8 % 2 = 1
          · rw [if_pos h3] at hsz
            rw [decide_eq_true h3, br_t, bnd_s, sumE_l, bnd_s, sumE_l, hsz]
            exact Ret.some rfl
          · rw [if_neg h3] at hsz
            rw [decide_eq_false h3, br_f]
            cases hw : nw with
            | true =>
              rw [hw, if_pos rfl] at hsz
              rw [br_t, bnd_s, sumE_l, bnd_s, sumE_l, bnd_s, sumE_l, hsz]
              exact Ret.some rfl
            | false =>
              rw [hw, if_neg (by decide)] at hsz
              rw [br_f, bnd_s, sumE_l, bnd_s, sumE_l, bnd_s, sumE_l, hsz]
              exact Ret.some rfl
  · rintro _ rfl
    rw [sumE_l]
    dsimp only [p10, p11, p16, p15, p12]
    have h13 : (br nw (bnd (br (eightB op || zeroB op) (some true) (some by')) fun x12 => some x12) (some false)) = some (nw && (eightB op || zeroB op || by')) := by
      cases nw <;> cases eightB op <;> cases zeroB op <;> cases by' <;> rfl
    rw [h13, bnd_s, dwrong_eq, bnd_s]
    dsimp only
    have h15 : (br (eqI frm 4) (some (notB (eqI zz 8))) (some false)) = some (eqI frm 4 && notB (eqI zz 8)) := by cases eqI frm 4 <;> rfl
    rw [h15, bnd_s, dwrong_eq, bnd_s]
    dsimp only
    rw [within_dec, bnd_s]
    dsimp only
    have h19 : (br (eqI op 25) (some (eqI (m / 64) 3)) (some false)) = some (eqI op 25 && eqI (m / 64) 3) := by cases eqI op 25 <;> rfl
    refine Ret.mono (Q := fun y => y = ((), (t, e, badM nw by' frm op zz m, nw, x % 16, decide (x ≠ 0), b, z1, f, g, by', frm, m / 64, rg, rm, op, zz, r), ())) ?_ (fun y hy => ⟨_, hy, rfl⟩)
    have step : ∀ u : Bool, (u = true ↔ (frm = 1 ∨ frm = 2) ∧ zz ≤ frm) →
        (if (eqI op 25 && eqI (m / 64) 3) = true ∧ (if u = true ∧ (if (eqI frm 4 && notB (eqI zz 8)) = true ∧ (if (nw && (eightB op || zeroB op || by')) = true ∧ (0 : Int) = 0 then (10 : Int) else 0) = 0 then (10 : Int) else (if (nw && (eightB op || zeroB op || by')) = true ∧ (0 : Int) = 0 then (10 : Int) else 0)) = 0 then (10 : Int) else (if (eqI frm 4 && notB (eqI zz 8)) = true ∧ (if (nw && (eightB op || zeroB op || by')) = true ∧ (0 : Int) = 0 then (10 : Int) else 0) = 0 then (10 : Int) else (if (nw && (eightB op || zeroB op || by')) = true ∧ (0 : Int) = 0 then (10 : Int) else 0))) = 0 then (12 : Int) else
          (if u = true ∧ (if (eqI frm 4 && notB (eqI zz 8)) = true ∧ (if (nw && (eightB op || zeroB op || by')) = true ∧ (0 : Int) = 0 then (10 : Int) else 0) = 0 then (10 : Int) else (if (nw && (eightB op || zeroB op || by')) = true ∧ (0 : Int) = 0 then (10 : Int) else 0)) = 0 then (10 : Int) else (if (eqI frm 4 && notB (eqI zz 8)) = true ∧ (if (nw && (eightB op || zeroB op || by')) = true ∧ (0 : Int) = 0 then (10 : Int) else 0) = 0 then (10 : Int) else (if (nw && (eightB op || zeroB op || by')) = true ∧ (0 : Int) = 0 then (10 : Int) else 0)))) = badM nw by' frm op zz m := fun u hu => by
      have e1 : (eqI op 25 && eqI (m / 64) 3) = true ↔ op = 25 ∧ m / 64 = 3 := by simp [eqI]
      have e2 : (eqI frm 4 && notB (eqI zz 8)) = true ↔ frm = 4 ∧ zz ≠ 8 := by simp [eqI, notB]
      have e3 : (nw && (eightB op || zeroB op || by')) = true ↔ (nw = true ∧ (eightB op = true ∨ zeroB op = true ∨ by' = true)) := by simp [or_assoc]
      unfold badM
      simp only [hu, e1, e2, e3, and_true]
      by_cases p : (nw = true ∧ (eightB op = true ∨ zeroB op = true ∨ by' = true))
      · simp [p]
      · simp only [p, if_false, and_true, false_or]
        by_cases p2 : frm = 4 ∧ zz ≠ 8
        · simp [p2]
        · simp only [p2, if_false, and_true, false_or]
          by_cases p3 : (frm = 1 ∨ frm = 2) ∧ zz ≤ frm
          · simp [p3]
          · simp only [p3, if_false, and_true]
    by_cases hfr : frm = 1 ∨ frm = 2
    · have hd : decide (1 ≤ frm ∧ frm ≤ 2) = true := decide_eq_true (by omega)
      rw [hd, br_t, dwrong_eq, bnd_s]
      dsimp only
      rw [h19, bnd_s, dwrong_eq, bnd_s]
      dsimp only
      have hs := step (leI zz frm) (by rw [le_iff]; exact ⟨fun h => ⟨hfr, h⟩, fun h => h.2⟩)
      exact Ret.some (by rw [hs])
    · have hd : decide (1 ≤ frm ∧ frm ≤ 2) = false := decide_eq_false (by omega)
      rw [hd, br_f, dwrong_eq, bnd_s]
      dsimp only
      rw [h19, bnd_s, dwrong_eq, bnd_s]
      dsimp only
      have hs := step false ⟨fun h => (by cases h), fun h => absurd h.1 hfr⟩
      exact Ret.some (by rw [hs])
end
end Go.Den.G
namespace Go.Den.G
open Go.Den
set_option maxRecDepth 100000
section
variable {t : List UInt8}
theorem p7M_in {q : Pos} (h : q.In t) : (p7M t q).In t := by unfold p7M; split; exact (p6M_in h).adv (by decide); exact p6M_in h
theorem p8M_in {q : Pos} (h : q.In t) : (p8M t q).In t := exb_in (q := fun _ => grpB (zM t q) = true ∧ opM t q = 0) (p7M_in h)
theorem p9M_in {q : Pos} (h : q.In t) : (p9M t q).In t := exb_in (q := fun _ => badM (wdM t q) (zM t q).2.2.2.1 (zM t q).2.2.2.2.1 (opM t q) (zsM t q) (mM t q) ≠ 0) (p8M_in h)
/-- Sizes of operations that work on some. -/
theorem szM_cases (by' w : Bool) (op x : Int) : (zeroB op = false → sizeP (szM by' op w x)) ∧ (zeroB op = true → szM by' op w x = 0) := by
  unfold szM sizeP
  cases h8 : eightB op <;> cases h0 : zeroB op <;> cases by' <;> cases w <;> by_cases h3 : x / 8 % 2 = 1 <;> simp [h3]
  all_goals
    unfold eightB at h8
    unfold zeroB at h0
    have := of_decide_eq_true h8
    have := of_decide_eq_true h0
    omega
def needF (sec : Bool) (n : Nat) : Bool := decide (((shz sec n).2.1 = 3 ∨ (shz sec n).2.1 = 5 ∨ (shz sec n).2.1 = 6 ∨ (shz sec n).2.1 = 8) → ((shz sec n).2.2.1 = 0 → zeroB (shz sec n).1 = false) ∧ ∀ d : Nat, d < 8 → zeroB (grp (shz sec n).2.2.1.toNat d) = false)
theorem needF_F : ∀ n : Nat, n < 256 → needF false n = true := by decide +kernel
theorem needF_T : ∀ n : Nat, n < 256 → needF true n = true := by decide +kernel
theorem needF_all (sec : Bool) {n : Nat} (h : n < 256) : needF sec n = true := by
  cases sec
  · exact needF_F n h
  · exact needF_T n h
theorem zs_need {q : Pos} (h : q.In t) (hf : (zM t q).2.1 = 3 ∨ (zM t q).2.1 = 5 ∨ (zM t q).2.1 = 6 ∨ (zM t q).2.1 = 8) : sizeP (zsM t q) := by
  have hb := bM_range h
  have hm := mM_range h
  have hn := of_decide_eq_true (needF_all (secM t q) (show (bM t q).toNat < 256 by omega)) hf
  refine (szM_cases _ _ _ _).1 ?_
  unfold opM
  cases hg : grpB (zM t q) with
  | true => rw [if_pos rfl]; exact hn.2 _ (by omega)
  | false =>
    rw [if_neg (by decide)]
    have hz := of_decide_eq_true (zM_fact h)
    have : ¬ 0 < (zM t q).2.2.1 := of_decide_eq_false hg
    exact hn.1 (show (zM t q).2.2.1 = 0 by omega)
theorem frm_17 {q : Pos} (h : q.In t) : (if (zM t q).2.1 = 17 then (zM t q).2.2.2.2.1 else 0) = (zM t q).2.2.2.2.1 := by
  have hz := of_decide_eq_true (zM_fact h)
  split
  · rfl
  · omega
theorem adv_err {n c : Int} {p : Pos} (h : p = .error c) : adv t n p = .error c := by rw [h]; rfl
theorem exb_err {f : Int → Except Int Int} {c : Int} {p : Pos} (h : p = .error c) : exb p f = .error c := by rw [h]; rfl
theorem p6_err {q : Pos} {c : Int} (h : p3M t q = .error c) : p6M t q = .error c := by
  unfold p6M p5M
  rw [adv_err h, adv_err rfl]
  split <;> rfl
theorem p8_err {q : Pos} {c : Int} (h : p6M t q = .error c) : p8M t q = .error c := by
  unfold p8M p7M
  rw [h, adv_err rfl]
  split <;> rfl
theorem p9_err {q : Pos} {c : Int} (h : p8M t q = .error c) : p9M t q = .error c := by unfold p9M; exact exb_err h
theorem dspP_err {w c : Int} {p : Pos} (h : p = .error c) : dspP t w p = .error c := by
  unfold dspP; split
  · exact h
  · exact adv_err h
theorem plM_err {x m z c : Int} {p : Pos} (h : p = .error c) : (plM t x m z p).2 = .error c := by
  unfold plM memM
  split
  · exact h
  · split
    · exact dspP_err (adv_err h)
    · split
      · exact dspP_err (w := 4) h
      · exact dspP_err h
theorem opsM_err {f frm op z x b m c : Int} {p : Pos} (h : p = .error c) : (opsM t f frm op z x b m p).2.2 = .error c := by
  unfold opsM
  by_cases f1 : f = 1
  · rw [if_pos f1]
    exact plM_err h
  rw [if_neg f1]
  by_cases f2 : f = 2
  · rw [if_pos f2]
    exact plM_err h
  rw [if_neg f2]
  by_cases f17 : f = 17
  · rw [if_pos f17]
    exact plM_err h
  rw [if_neg f17]
  by_cases f3 : f = 3
  · rw [if_pos f3]
    exact adv_err h
  rw [if_neg f3]
  by_cases f4 : f = 4
  · rw [if_pos f4]
    exact adv_err (plM_err h)
  rw [if_neg f4]
  by_cases f5 : f = 5
  · rw [if_pos f5]
    exact adv_err (plM_err h)
  rw [if_neg f5]
  by_cases f6 : f = 6
  · rw [if_pos f6]
    unfold oneM
    cases srcB op
    · rw [if_neg (by decide)]
      by_cases ho : op = 10
      · rw [if_pos ho]
        exact adv_err (plM_err h)
      · rw [if_neg ho]
        exact plM_err h
    · rw [if_pos rfl]
      exact plM_err h
  rw [if_neg f6]
  by_cases f7 : f = 7
  · rw [if_pos f7]
    by_cases ho : op = 29
    · rw [if_pos ho]
      exact h
    · rw [if_neg ho]
      exact h
  rw [if_neg f7]
  by_cases f8 : f = 8
  · rw [if_pos f8]
    exact adv_err h
  rw [if_neg f8]
  by_cases f9 : f = 9
  · rw [if_pos f9]
    exact adv_err h
  rw [if_neg f9]
  by_cases f15 : f = 15
  · rw [if_pos f15]
    exact adv_err h
  rw [if_neg f15]
  by_cases f10 : f = 10 ∨ f = 16
  · rw [if_pos f10]
    exact adv_err h
  rw [if_neg f10]
  by_cases f11 : f = 11
  · rw [if_pos f11]
    exact adv_err (plM_err h)
  rw [if_neg f11]
  by_cases f12 : f = 12
  · rw [if_pos f12]
    exact plM_err h
  rw [if_neg f12]
  by_cases f13 : f = 13
  · rw [if_pos f13]
    exact plM_err h
  rw [if_neg f13]
  exact h
theorem decM_err {at0 c : Int} (h : p9M t (.ok at0) = .error c) : decM t at0 = (dfltI, c) := by
  have : (oM t (.ok at0)).2.2 = .error c := opsM_err h
  unfold decM
  rw [this]
theorem decM_ok {at0 e : Int} (h : (oM t (.ok at0)).2.2 = .ok e) : decM t at0 = (⟨opM t (.ok at0), zsM t (.ok at0), cdM t (.ok at0), (zM t (.ok at0)).2.2.2.2.1, (oM t (.ok at0)).1, (oM t (.ok at0)).2.1, e - at0⟩, 0) := by
  unfold decM
  rw [h]
theorem opsM_in {f frm op z x b m : Int} {p : Pos} (h : p.In t) (hz : (f = 3 ∨ f = 5 ∨ f = 6 ∨ f = 8) → sizeP z) : (opsM t f frm op z x b m p).2.2.In t := by
  unfold opsM
  by_cases f1 : f = 1
  · rw [if_pos f1]
    exact plM_in h
  rw [if_neg f1]
  by_cases f2 : f = 2
  · rw [if_pos f2]
    exact plM_in h
  rw [if_neg f2]
  by_cases f17 : f = 17
  · rw [if_pos f17]
    exact plM_in h
  rw [if_neg f17]
  by_cases f3 : f = 3
  · rw [if_pos f3]
    exact h.adv (Int.le_trans (by decide) (imin_sz (hz (.inl f3))).1)
  rw [if_neg f3]
  by_cases f4 : f = 4
  · rw [if_pos f4]
    exact (plM_in h).adv (by decide)
  rw [if_neg f4]
  by_cases f5 : f = 5
  · rw [if_pos f5]
    exact (plM_in h).adv (Int.le_trans (by decide) (imin_sz (hz (.inr (.inl f5)))).1)
  rw [if_neg f5]
  by_cases f6 : f = 6
  · rw [if_pos f6]
    unfold oneM
    cases srcB op
    · rw [if_neg (by decide)]
      by_cases ho : op = 10
      · rw [if_pos ho]
        exact (plM_in h).adv (Int.le_trans (by decide) (imin_sz (hz (.inr (.inr (.inl f6))))).1)
      · rw [if_neg ho]
        exact plM_in h
    · rw [if_pos rfl]
      exact plM_in h
  rw [if_neg f6]
  by_cases f7 : f = 7
  · rw [if_pos f7]
    by_cases ho : op = 29
    · rw [if_pos ho]
      exact h
    · rw [if_neg ho]
      exact h
  rw [if_neg f7]
  by_cases f8 : f = 8
  · rw [if_pos f8]
    exact h.adv (by have := sz18 (hz (.inr (.inr (.inr f8)))); omega)
  rw [if_neg f8]
  by_cases f9 : f = 9
  · rw [if_pos f9]
    exact h.adv (by decide)
  rw [if_neg f9]
  by_cases f15 : f = 15
  · rw [if_pos f15]
    exact h.adv (by decide)
  rw [if_neg f15]
  by_cases f10 : f = 10 ∨ f = 16
  · rw [if_pos f10]
    exact h.adv (by decide)
  rw [if_neg f10]
  by_cases f11 : f = 11
  · rw [if_pos f11]
    exact (plM_in h).adv (by decide)
  rw [if_neg f11]
  by_cases f12 : f = 12
  · rw [if_pos f12]
    exact plM_in h
  rw [if_neg f12]
  by_cases f13 : f = 13
  · rw [if_pos f13]
    exact plM_in h
  rw [if_neg f13]
  exact h
theorem wrong_ret {y : Int} (h : y ≠ 0) : notB (eqI y 0) = true := by rw [eq_f h]; rfl
/-- The program's decode. -/
theorem decode_eq {at0 : Int} (hl : (t.length : Int) ≤ 1099511627776) (h0 : 0 ≤ at0) (h1 : at0 ≤ t.length) : S_impl_decode ((t, at0, ()), ()) = some (((decM t at0).1, (decM t at0).2, ()), ()) := by
  have hq : Pos.In (.ok at0) t := fun a ha => by cases ha; exact ⟨h0, h1⟩
  have bad : ∀ {c}, c ≠ 0 → p9M t (.ok at0) = .error c → (some (((dfltI, c, ()), ()) : (Ins × Int × Unit) × Unit)) = some (((decM t at0).1, (decM t at0).2, ()), ()) := fun _ h => by rw [decM_err h]
  unfold S_impl_decode
  dsimp only [p5, d6]
  obtain ⟨a1, c1, e1, g1⟩ := dprefixes_eq (t := t) (a := at0) (c := 0) (0, 0, 0, 0, false, 0, 0, 0, 0, 0, 0, 0, 0, 0, 0, 0, 0, 0, 0, 0, 0, 0, 0, 0, 0, 0, 0, 0, ()) hl hq
  rw [e1, bnd_s]
  dsimp only
  rw [posOf_ok] at g1 ⊢
  by_cases n1 : c1 ≠ 0
  · rw [wrong_ret n1, br_t]
    rw [posOf_bad n1] at g1
    exact bad n1 (p9_err (p8_err (p6_err g1.symm)))
  obtain rfl : c1 = 0 := Decidable.not_not.1 n1
  rw [show notB (eqI 0 0) = false from rfl, br_f]
  obtain ⟨y2, e2, g2, k2⟩ := doperation_eq (.ok at0) (wdM t (.ok at0)) (xM t (.ok at0) % 16) (decide (xM t (.ok at0) ≠ 0)) (0, 0, 0, 0, 0, 0, 0, 0, 0, 0, 0, 0, 0, 0, 0, 0, 0, 0, ()) hl hq g1
  rw [e2, bnd_s]
  cases h6 : p6M t (.ok at0) with
  | error c =>
    rw [h6] at g2
    obtain ⟨rfl, n2⟩ := posOf_err g2
    rw [wrong_ret n2, br_t]
    exact bad n2 (p9_err (p8_err h6))
  | ok a2 =>
  obtain rfl := k2 a2 h6
  dsimp only
  rw [show notB (eqI 0 0) = false from rfl, br_f]
  obtain ⟨y3, e3, g3, k3⟩ := dmodrm_eq (.ok at0) a2 (wdM t (.ok at0)) (xM t (.ok at0) % 16) (decide (xM t (.ok at0) ≠ 0)) (0, 0, 0, 0, 0, 0, 0, 0, 0, 0, 0, 0, 0, 0, 0, 0, 0, 0, ()) hl hq h6
  refine (Ret.bnd (Q := fun y => y = y3) (Ret.of_eq e3 rfl) ?_).eq
  rintro _ rfl
  cases h8 : p8M t (.ok at0) with
  | error c =>
    rw [h8] at g3
    obtain ⟨rfl, n3⟩ := posOf_err g3
    rw [wrong_ret n3, br_t]
    exact Ret.of_eq (bad n3 (p9_err h8)) rfl
  | ok a3 =>
  obtain rfl := k3 a3 h8
  dsimp only [p12, p13, p14, p15]
  rw [show notB (eqI 0 0) = false from rfl, br_f]
  obtain ⟨c4, e4, k4⟩ := dsize_eq (t := t) (x := xM t (.ok at0)) (m := mM t (.ok at0)) (z1 := (zM t (.ok at0)).1) (f := (zM t (.ok at0)).2.1) (g := (zM t (.ok at0)).2.2.1) (frm := (zM t (.ok at0)).2.2.2.2.1) (op := opM t (.ok at0)) (b := bM t (.ok at0)) (nw := wdM t (.ok at0)) (by' := (zM t (.ok at0)).2.2.2.1) (zz := zsM t (.ok at0)) (rg := mM t (.ok at0) / 8 % 8) (rm := mM t (.ok at0) % 8) (e := a3) (0, 0, 0, 0, 0, 0, 0, 0, 0, 0, 0, 0, 0, 0, 0, 0, 0, ()) (opM_range hq) rfl
  refine Ret.bnd (Q := fun y => y = _) (Ret.of_eq e4 rfl) ?_
  rintro _ rfl
  dsimp only [p16]
  have h9 : p9M t (.ok at0) = if c4 ≠ 0 then .error c4 else .ok a3 := by unfold p9M; rw [h8, k4]; rfl
  by_cases n4 : c4 ≠ 0
  · rw [wrong_ret n4, br_t]
    rw [if_pos n4] at h9
    exact Ret.of_eq (bad n4 h9) rfl
  obtain rfl : c4 = 0 := Decidable.not_not.1 n4
  rw [if_neg n4] at h9
  rw [show notB (eqI 0 0) = false from rfl, br_f]
  have hm := mM_range hq
  have hb := bM_range hq
  have hin9 : (posOf a3 0).In t := by rw [posOf_ok, ← h9]; exact p9M_in hq
  obtain ⟨a5, c5, e5, g5⟩ := doperands_eq (x := xM t (.ok at0)) (z := zsM t (.ok at0)) (f := (zM t (.ok at0)).2.1) (frm := (zM t (.ok at0)).2.2.2.2.1) (op := opM t (.ok at0)) hm.1 hm.2 hb.1 hb.2 (wdM t (.ok at0)) (zM t (.ok at0)).1 (zM t (.ok at0)).2.2.1 (zM t (.ok at0)).2.2.2.1 (zs_need hq) hl hin9
  rw [frm_17 hq, posOf_ok, ← h9] at e5
  rw [posOf_ok, ← h9] at g5
  refine Ret.bnd (Q := fun y => y = _) (Ret.of_eq e5 rfl) ?_
  rintro _ rfl
  change posOf a5 c5 = (oM t (.ok at0)).2.2 at g5
  dsimp only [p16, p18, d18, p15]
  by_cases n5 : c5 ≠ 0
  · rw [wrong_ret n5, br_t]
    rw [posOf_bad n5] at g5
    refine Ret.some ?_
    unfold decM
    rw [← g5]
    rfl
  obtain rfl : c5 = 0 := Decidable.not_not.1 n5
  rw [posOf_ok] at g5
  rw [show notB (eqI 0 0) = false from rfl, br_f, decM_ok g5.symm]
  have hin5 : 0 ≤ a5 ∧ a5 ≤ t.length := (opsM_in (p9M_in hq) (zs_need hq)) a5 g5.symm
  simp only [sw2, bnd_s, sumE_l]
  have hb15 := (bI hb.1 hb.2).2.2.2
  unfold cdM
  by_cases ho : opM t (.ok at0) = 33 ∨ opM t (.ok at0) = 35 ∨ opM t (.ok at0) = 36
  · rw [if_pos ho, show (eqI (opM t (.ok at0)) 33 || (eqI (opM t (.ok at0)) 35 || eqI (opM t (.ok at0)) 36)) = true by simpa [eqI] using ho, br_t, bnd_s, sumE_l]
    dsimp only
    rw [subI_id (by omega) (by omega), ← hb15]
    exact Ret.some rfl
  · rw [if_neg ho, show (eqI (opM t (.ok at0)) 33 || (eqI (opM t (.ok at0)) 35 || eqI (opM t (.ok at0)) 36)) = false by simpa [eqI] using ho, br_f, bnd_s, sumE_l]
    dsimp only
    rw [subI_id (by omega) (by omega)]
    exact Ret.some rfl
end
end Go.Den.G
namespace Go.Den.G
open Go.Den
set_option maxRecDepth 100000

/-! ### the head: the reference -/
section
variable {t : List UInt8}
theorem l04Prefix_eq {b : Int} (h0 : 0 ≤ b) (h1 : b < 256) : S_spec_l04Prefix ((b, ()), ()) = some (decide (b ∈ pfxL ∧ b ≠ 102), ()) := by
  obtain ⟨n, rfl⟩ := Int.eq_ofNat_of_zero_le h0
  rw [pfx_spec n (by omega)]
  have : ((n : Int) ≠ 102) ↔ n ≠ 102 := by omega
  simp only [this]
theorem pk_of_adv {p : Pos} {a : Int} (hp : p.In t) (h : adv t 1 p = .ok a) : pkB t p = rdU t 1 p := by
  cases p with
  | error _ => cases h
  | ok b =>
    unfold adv exb at h
    dsimp only at h
    by_cases hl : b + 1 ≤ t.length
    · exact (pkB_rd hp (by unfold pkB; dsimp only; rw [if_pos (by omega)]; exact (byteAt_range t b).1)).1.symm
    · rw [if_neg hl] at h; cases h
theorem pk_of_err {p : Pos} {a c : Int} (hp : p = .ok a) (h : adv t 1 p = .error c) : pkB t p = -1 ∧ rdU t 1 p = 0 := by
  subst hp
  unfold adv exb at h
  unfold pkB rdU
  dsimp only at h ⊢
  by_cases hl : a + 1 ≤ t.length
  · rw [if_pos hl] at h; cases h
  · rw [if_neg (by omega), if_neg hl]; exact ⟨rfl, rfl⟩
def zeroS : Shz := (0, 0, 0, false, 0, ())
theorem shead_eq {at0 : Int} (hl : (t.length : Int) ≤ 1099511627776) (h0 : 0 ≤ at0) (h1 : at0 ≤ t.length) :
    Ret (S_spec_l04In_head ((), (t, at0, 0, false, 0, ()), ())) fun y => posOf y.2.1.2.1 y.2.1.2.2.2.2.1 = p6M t (.ok at0) ∧
      ∀ e, p6M t (.ok at0) = .ok e → y = ((zM t (.ok at0), bM t (.ok at0), ()), (t, e, xM t (.ok at0), wdM t (.ok at0), 0, ()), ()) := by
  have hq : Pos.In (.ok at0) t := fun a ha => by cases ha; exact ⟨h0, h1⟩
  obtain ⟨q, hqq⟩ : ∃ q : Pos, q = .ok at0 := ⟨_, rfl⟩
  unfold S_spec_l04In_head
  obtain ⟨a1, c1, e1, g1⟩ := sbyte_eq (t := t) (a := at0) (c := 0) (x := 0) (w := false) hl hq
  rw [e1, bnd_s]
  dsimp only
  rw [posOf_ok] at g1 ⊢
  rw [← hqq] at g1 hq ⊢
  refine Ret.iter (fun x => (∃ a c, x = ((rdU t 1 q, ()), (t, a, 0, false, c, ()), zeroS, ()) ∧ posOf a c = adv t 1 q) ∨
      (∃ a c, x = ((rdU t 1 (p1M t q), ()), (t, a, 0, true, c, ()), zeroS, ()) ∧ posOf a c = adv t 1 (p1M t q) ∧ wdM t q = true) ∨
      (∃ a, x = ((0, ()), (t, a, 0, true, 10, ()), zeroS, ()) ∧ p2M t q = .error 10))
    (fun x => (if x.2.1.2.2.2.1 = true then 0 else 2) + (if x.2.1.2.2.2.2.1 = 0 then 1 else 0)) ?_ F _ (.inl ⟨a1, c1, rfl, g1⟩) (by unfold F; dsimp only; split <;> split <;> omega)
  intro x rec hI hrec
  have hcase : (∃ a c w, x = ((rdU t 1 (p2M t q), ()), (t, a, 0, w, c, ()), zeroS, ()) ∧ posOf a c = adv t 1 (p2M t q) ∧ (∀ e, p2M t q = .ok e → w = wdM t q) ∧ (c = 0 → ¬ rdU t 1 (p2M t q) ∈ pfxL)) ∨
      (∃ a w p, x = ((rdU t 1 p, ()), (t, a, 0, w, 0, ()), zeroS, ()) ∧ p.In t ∧ posOf a 0 = adv t 1 p ∧ rdU t 1 p ∈ pfxL ∧ (w = false ∧ p = q ∨ w = true ∧ p = p1M t q ∧ wdM t q = true)) := by
    rcases hI with ⟨a, c, rfl, h⟩ | ⟨a, c, rfl, h, hw⟩ | ⟨a, rfl, h⟩
    · by_cases hs : c = 0 ∧ rdU t 1 q ∈ pfxL
      · obtain ⟨rfl, hs⟩ := hs
        exact .inr ⟨a, false, q, rfl, hq, h, hs, .inl ⟨rfl, rfl⟩⟩
      · have hpk : ¬ pkB t q ∈ pfxL := by
          by_cases hc : c = 0
          · subst hc
            rw [pk_of_adv hq h.symm]; exact fun g => hs ⟨rfl, g⟩
          · rw [posOf_bad hc] at h
            rw [(pk_of_err hqq h.symm).1]; decide
        have hw : wdM t q = false := decide_eq_false fun g => hpk (by rw [g]; decide)
        have e1 : p1M t q = q := by unfold p1M; rw [hw, if_neg (by decide)]
        have e2 : p2M t q = q := by
          unfold p2M; rw [e1, hqq]; unfold exb; dsimp only; rw [if_neg (by rw [hqq] at hpk; exact hpk)]
        refine .inl ⟨a, c, false, by rw [e2], by rw [e2]; exact h, fun _ _ => hw.symm, fun hc => ?_⟩
        rw [e2]; exact fun g => hs ⟨hc, g⟩
    · by_cases hs : c = 0 ∧ rdU t 1 (p1M t q) ∈ pfxL
      · obtain ⟨rfl, hs⟩ := hs
        exact .inr ⟨a, true, p1M t q, rfl, p1M_in hq, h, hs, .inr ⟨rfl, rfl, hw⟩⟩
      · have hp1 : p1M t q = adv t 1 q := by unfold p1M; rw [hw, if_pos rfl]
        have hpk : ¬ pkB t (p1M t q) ∈ pfxL := by
          by_cases hc : c = 0
          · subst hc
            rw [pk_of_adv (p1M_in hq) h.symm]; exact fun g => hs ⟨rfl, g⟩
          · rw [posOf_bad hc] at h
            cases hp : p1M t q with
            | error _ => unfold pkB; dsimp only; decide
            | ok a' => rw [(pk_of_err rfl (hp ▸ h.symm)).1]; decide
        have e2 : p2M t q = p1M t q := by
          unfold p2M
          cases hp : p1M t q with
          | error _ => rfl
          | ok a' => rw [hp] at hpk; unfold exb; dsimp only; rw [if_neg hpk]
        refine .inl ⟨a, c, true, by rw [e2], by rw [e2]; exact h, fun _ _ => hw.symm, fun hc => ?_⟩
        rw [e2]; exact fun g => hs ⟨hc, g⟩
    · refine .inl ⟨a, 10, true, by rw [h]; rfl, by rw [h]; rfl, fun e he => ?_, fun hc => ?_⟩
      · rw [h] at he; cases he
      · cases hc
  rcases hcase with ⟨a, c, w, rfl, hpos, hw, hend⟩ | ⟨a, w, p, rfl, hpin, hpos, hpf, hS⟩
  · have hb2 := rdU1_range t (p2M t q) (p2M_in hq)
    have hb3 := rdU1_range t (p3M t q) (p3M_in hq)
    dsimp only
    refine Ret.bnd (Q := fun y => y = false) ?_ ?_
    · by_cases hc : c = 0
      · have hn := hend hc
        rw [eq_t hc, br_t, eq_f (fun g => hn (by rw [g]; decide)), br_f, l04Prefix_eq hb2.1 hb2.2, bnd_s, bnd_s, decide_eq_false (fun g => hn g.1)]
        exact Ret.some rfl
      · rw [eq_f hc, br_f]; exact Ret.some rfl
    rintro _ rfl
    rw [br_f]
    refine Ret.bnd (Q := fun y => y = hxM t q) ?_ ?_
    · by_cases hc : c = 0
      · subst hc
        rw [eq_t rfl, br_t, quoI_pos hb2.1 (by decide) (by omega)]
        refine Ret.some ?_
        unfold hxM
        rw [pk_of_adv (p2M_in hq) hpos.symm, Bool.eq_iff_iff, eq_iff, decide_eq_true_eq]
        omega
      · rw [eq_f hc, br_f]
        refine Ret.some ?_
        symm
        refine decide_eq_false fun g => ?_
        obtain ⟨_, _, _, _, hk⟩ := pkB_rd (p2M_in hq) (show 0 ≤ pkB t (p2M t q) by omega)
        rw [hk, posOf_bad hc] at hpos
        cases hpos
    rintro _ rfl
    refine Ret.bnd (Q := fun y => ∃ a c, y = Sum.inl ((rdU t 1 (p3M t q), ()), (t, a, xM t q, w, c, ()), zeroS, ()) ∧ posOf a c = adv t 1 (p3M t q)) ?_ ?_
    · cases hh : hxM t q with
      | true =>
        have hg : 64 ≤ pkB t (p2M t q) ∧ pkB t (p2M t q) ≤ 79 := of_decide_eq_true hh
        obtain ⟨hk, _⟩ := pkB_rd (p2M_in hq) (show 0 ≤ pkB t (p2M t q) by omega)
        have hin : (posOf a c).In t := by rw [hpos]; exact (p2M_in hq).adv (by decide)
        obtain ⟨a3, c3, e3, g3⟩ := sbyte_eq (x := rdU t 1 (p2M t q)) (w := w) hl hin
        have e4 : p3M t q = adv t 1 (p2M t q) := by unfold p3M; rw [hh, if_pos rfl]
        have e5 : xM t q = rdU t 1 (p2M t q) := by unfold xM; rw [hh, if_pos rfl, hk]
        rw [br_t, e3, bnd_s]
        exact Ret.some ⟨a3, c3, by rw [e4, e5, hpos], by rw [e4, g3, hpos]⟩
      | false =>
        have e4 : p3M t q = p2M t q := by unfold p3M; rw [hh, if_neg (by decide)]
        have e5 : xM t q = 0 := by unfold xM; rw [hh, if_neg (by decide)]
        rw [br_f]
        exact Ret.some ⟨a, c, by rw [e4, e5], by rw [e4, hpos]⟩
    rintro _ ⟨a3, c3, rfl, h3⟩
    rw [sumE_l]
    dsimp only
    have hin3 : (posOf a3 c3).In t := by rw [h3]; exact p4M_in hq
    refine Ret.bnd (Q := fun y => y = secM t q) ?_ ?_
    · by_cases hc : c3 = 0
      · rw [eq_t hc, br_t]; exact Ret.some rfl
      · rw [eq_f hc, br_f]
        refine Ret.some ?_
        symm
        refine decide_eq_false fun g => ?_
        obtain ⟨b, hb⟩ := rd_ok (t := t) (p := p3M t q) (n := 1) (by omega)
        exact hc (posOf_inj (h3.trans hb)).2
    rintro _ rfl
    refine Ret.bnd (Q := fun y => ∃ a c, y = Sum.inl ((bM t q, secM t q, ()), (t, a, xM t q, w, c, ()), zeroS, ()) ∧ posOf a c = p5M t q) ?_ ?_
    · unfold bM p5M
      cases hs : secM t q with
      | true =>
        obtain ⟨a4, c4, e4, g4⟩ := sbyte_eq (x := xM t q) (w := w) hl hin3
        rw [br_t, e4, bnd_s, if_pos rfl, if_pos rfl]
        exact Ret.some ⟨a4, c4, by rw [h3], by rw [g4, h3]⟩
      | false =>
        rw [br_f, if_neg (by decide), if_neg (by decide)]
        exact Ret.some ⟨a3, c3, rfl, h3⟩
    rintro _ ⟨a5, c5, rfl, h5⟩
    rw [sumE_l]
    dsimp only
    have hbr := bM_range hq
    have hS := l03Shape_eq (secM t q) (show (bM t q).toNat < 256 by omega)
    rw [Int.toNat_of_nonneg hbr.1] at hS
    rw [hS, bnd_s]
    dsimp only
    have h6 : posOf a5 (if (zM t q).2.1 = 0 then (if c5 = 0 then 11 else c5) else c5) = p6M t q := by
      unfold p6M
      rw [← h5]
      by_cases hc : c5 = 0
      · subst hc
        by_cases hz : (zM t q).2.1 = 0
        · rw [if_pos hz, if_pos rfl, posOf_ok]; unfold exb; dsimp only; rw [if_pos hz]; rfl
        · rw [if_neg hz, posOf_ok]; unfold exb; dsimp only; rw [if_neg hz]
      · rw [if_neg hc, posOf_bad hc]
        split <;> exact posOf_bad hc
    refine Ret.bnd (Q := fun y => y = Sum.inl ((bM t q, ()), (t, a5, xM t q, w, (if (zM t q).2.1 = 0 then (if c5 = 0 then 11 else c5) else c5), ()), zeroS, (zM t q, ()))) ?_ ?_
    · by_cases hz : (zM t q).2.1 = 0
      · have hz' : (shz (secM t q) (bM t q).toNat).2.1 = 0 := hz
        rw [eq_t hz', br_t, sfail_eq, bnd_s, if_pos hz]
        exact Ret.some rfl
      · have hz' : ¬ (shz (secM t q) (bM t q).toNat).2.1 = 0 := hz
        rw [eq_f hz', br_f, if_neg hz]
        exact Ret.some rfl
    rintro _ rfl
    rw [sumE_l]
    refine Ret.some ⟨h6, fun e he => ?_⟩
    rw [he] at h6
    obtain ⟨ha, hc⟩ := posOf_inj h6
    have hwe : w = wdM t q := by
      cases hp : p2M t q with
      | ok e' => exact hw e' hp
      | error k =>
        exfalso
        have : p3M t q = .error k := by unfold p3M hxM; rw [hp]; rw [show pkB t (.error k) = -1 from rfl, if_neg (by decide)]
        rw [p6_err this] at he
        cases he
    dsimp only
    rw [hc, ha, hwe]
  · have hb := rdU1_range t p hpin
    dsimp only at hrec ⊢
    refine Ret.bnd (Q := fun y => y = true) ?_ ?_
    · rw [eq_t rfl, br_t]
      by_cases h102 : rdU t 1 p = 102
      · rw [eq_t h102, br_t, bnd_s]; exact Ret.some rfl
      · rw [eq_f h102, br_f, l04Prefix_eq hb.1 hb.2, bnd_s, bnd_s, decide_eq_true ⟨hpf, h102⟩]; exact Ret.some rfl
    rintro _ rfl
    rw [br_t]
    have hpk : pkB t p = rdU t 1 p := pk_of_adv hpin hpos.symm
    by_cases hgo : rdU t 1 p = 102 ∧ w = false
    · -- the first prefix
      obtain ⟨h102, rfl⟩ := hgo
      obtain rfl : p = q := by
        rcases hS with ⟨_, g⟩ | ⟨g, _⟩
        · exact g
        · cases g
      have hwd : wdM t p = true := decide_eq_true (by rw [hpk]; exact h102)
      have e1 : p1M t p = adv t 1 p := by unfold p1M; rw [hwd, if_pos rfl]
      have hin : (posOf a 0).In t := by rw [hpos]; exact hpin.adv (by decide)
      obtain ⟨a3, c3, e3, g3⟩ := sbyte_eq (x := 0) (w := true) hl hin
      rw [eq_t h102, notB_t, br_f, bnd_s, br_f, bnd_s, sumE_l]
      dsimp only
      rw [e3, bnd_s]
      refine hrec _ (.inr (.inl ⟨a3, c3, by rw [e1, hpos], by rw [g3, hpos, e1], hwd⟩)) ?_
      dsimp only
      rw [if_pos rfl, if_neg (show ¬ false = true by decide), if_pos rfl]
      split <;> omega
    · refine Ret.bnd (Q := fun y => y = true) ?_ ?_
      · by_cases h102 : rdU t 1 p = 102
        · have hw : w = true := by
            cases w with
            | true => rfl
            | false => exact absurd ⟨h102, rfl⟩ hgo
          rw [eq_t h102, notB_t, br_f]
          exact Ret.some hw
        · rw [eq_f h102, notB_f, br_t]; exact Ret.some rfl
      rintro _ rfl
      rw [br_t, sfail_eq, bnd_s, bnd_s, sumE_l, if_pos rfl]
      dsimp only
      have h2 : p2M t q = .error 10 := by
        rcases hS with ⟨rfl, rfl⟩ | ⟨rfl, rfl, hwd⟩
        · have hwd : wdM t p = false := decide_eq_false fun g => hgo ⟨by rw [← hpk]; exact g, rfl⟩
          have e1 : p1M t p = p := by unfold p1M; rw [hwd, if_neg (by decide)]
          unfold p2M
          rw [e1, hpk, hqq]
          rw [hqq] at hpf
          unfold exb
          dsimp only
          rw [if_pos hpf]
        · unfold p2M
          rw [hpk]
          cases hp : p1M t q with
          | error k => rw [hp] at hpos; cases hpos
          | ok e => rw [hp] at hpf; unfold exb; dsimp only; rw [if_pos hpf]
      obtain ⟨a3, c3, e3, g3⟩ := sbyte_eq (t := t) (a := a) (c := 10) (x := 0) (w := true) hl (fun e he => by cases he)
      rw [e3, bnd_s]
      have hc3 : c3 = 10 := (posOf_err (g3.trans (show adv t 1 (posOf a 10) = .error 10 from rfl))).1
      subst hc3
      refine hrec _ (.inr (.inr ⟨a3, rfl, h2⟩)) ?_
      dsimp only
      rw [if_pos rfl, if_neg (show ¬ (10 : Int) = 0 by decide), if_pos rfl]
      split <;> omega
end
end Go.Den.G
namespace Go.Den.G
open Go.Den
set_option maxRecDepth 100000
section
variable {t : List UInt8} {a c x : Int} {w : Bool}
theorem l04HasModRM_eq {f : Int} (h : 0 ≤ f ∧ f < 18) : S_spec_l04HasModRM ((f, ()), ()) = some (hasMB f, ()) := by
  obtain ⟨n, rfl⟩ := Int.eq_ofNat_of_zero_le h.1
  exact hasM_spec n (by omega)
theorem sw4 {α β γ : Type} {a b : Bool} {r : α} {y : γ} : br a (some (Sum.inl ((y, a, ()), r) : Sum ((γ × Bool × Unit) × α) β)) (some (Sum.inl ((y, b, ()), r))) = some (Sum.inl ((y, a || b, ()), r)) := by cases a <;> rfl
theorem fixed8 (op : Int) : (eqI op 29 || (eqI op 30 || (eqI op 31 || eqI op 32))) = eightB op := by rw [Bool.eq_iff_iff]; simp [eightB, eqI]
theorem fixed0 (op : Int) : (eqI op 33 || (eqI op 34 || (eqI op 37 || (eqI op 38 || (eqI op 43 || eqI op 44))))) = zeroB op := by rw [Bool.eq_iff_iff]; simp [zeroB, eqI]
theorem bit3 {x : Int} (hx : rexOK x) : S_spec_l01Bit ((x, 3, ()), ()) = some (x / 8 % 2, ()) := by
  rw [l01Bit_eq _ _ (by decide) (by decide)]
  have h1 : x % 2 ^ 64 = x := Int.emod_eq_of_lt (by unfold rexOK at hx; omega) (by unfold rexOK at hx; omega)
  rw [h1]; rfl
theorem ssize_eq (z : Shz) (op : Int) (hx : rexOK x) : S_spec_l04In_size ((z, op, ()), (t, a, x, w, c, ()), ()) = some (szM z.2.2.2.1 op w x, (t, a, x, w, c, ()), ()) := by
  unfold S_spec_l04In_size
  dsimp only
  simp only [sw4, bnd_s, sumE_l, fixed8]
  unfold szM
  cases h8 : eightB op with
  | true => rw [br_t, if_pos rfl]
  | false =>
    rw [br_f, if_neg (by decide)]
    simp only [sw1, bnd_s, sumE_l, fixed0]
    cases h0 : zeroB op with
    | true => rw [br_t, bnd_s, sumE_r, if_pos rfl]
    | false =>
      rw [br_f, bnd_s, sumE_l, if_neg (by decide)]
      dsimp only
      cases hb : z.2.2.2.1 with
      | true => rw [br_t, if_pos rfl]
      | false =>
        rw [br_f, if_neg (by decide), bit3 hx, bnd_s]
        by_cases h3 : x / 8 % 2 = 1
        · rw [if_pos h3, eq_t h3, br_t]
        · rw [if_neg h3, eq_f h3, br_f]
          cases w <;> rfl
theorem swide_eq (z : Shz) (op : Int) : S_spec_l04Wide ((z, op, ()), ()) = some (!(eightB op || zeroB op || z.2.2.2.1), ()) := by
  unfold S_spec_l04Wide
  dsimp only
  simp only [sw1, bnd_s, sumE_l]
  have e : (eqI op 29 || (eqI op 30 || (eqI op 31 || (eqI op 32 || (eqI op 33 || (eqI op 34 || (eqI op 37 || (eqI op 38 || (eqI op 43 || eqI op 44))))))))) = (eightB op || zeroB op) := by
    rw [← fixed8, ← fixed0]; simp only [Bool.or_assoc]
  rw [e]
  cases h : (eightB op || zeroB op) with
  | true => rw [br_t, bnd_s, sumE_r]; rfl
  | false => rw [br_f, bnd_s, sumE_l]; rfl
theorem ssuits_eq (y : Ins) (z : Shz) (hf : z.2.2.2.2.1 = 0 ∨ z.2.2.2.2.1 = 1 ∨ z.2.2.2.2.1 = 2 ∨ z.2.2.2.2.1 = 4) (m : Int) :
    S_spec_l04Suits ((y, z, w, ()), ()) = some (decide (badM w z.2.2.2.1 z.2.2.2.2.1 y.op y.size m ≠ 10), ()) := by
  unfold S_spec_l04Suits
  dsimp only
  refine (Ret.bnd (Q := fun u => u = (w && (eightB y.op || zeroB y.op || z.2.2.2.1))) ?_ ?_).eq
  · cases w with
    | true => rw [br_t, swide_eq, bnd_s]; exact Ret.some (by rw [notB_not]; simp)
    | false => rw [br_f]; exact Ret.some rfl
  rintro _ rfl
  unfold badM
  have e3 : (w && (eightB y.op || zeroB y.op || z.2.2.2.1)) = true ↔ (w = true ∧ (eightB y.op = true ∨ zeroB y.op = true ∨ z.2.2.2.1 = true)) := by simp [or_assoc]
  by_cases p : (w && (eightB y.op || zeroB y.op || z.2.2.2.1)) = true
  · rw [p, br_t, if_pos (.inl (e3.1 p))]
    exact Ret.some rfl
  · rw [Bool.not_eq_true] at p
    rw [p, br_f]
    have p' : ¬ (w = true ∧ (eightB y.op = true ∨ zeroB y.op = true ∨ z.2.2.2.1 = true)) := fun g => by rw [e3.2 g] at p; cases p
    by_cases h4 : z.2.2.2.2.1 = 4
    · rw [br_pos (eq_t h4)]
      refine Ret.some ?_
      congr 1
      by_cases h8 : y.size = 8
      · rw [if_neg (fun g => g.elim p' (by omega)), eq_t h8]
        split <;> rfl
      · rw [if_pos (.inr (.inl ⟨h4, h8⟩)), eq_f h8]; rfl
    · rw [br_neg (eq_f h4)]
      by_cases h0 : z.2.2.2.2.1 = 0
      · rw [br_pos (eq_t h0), bnd_s, if_neg (fun g => g.elim p' (by omega))]
        refine Ret.some ?_
        congr 1
        split <;> rfl
      · rw [br_neg (eq_f h0), bnd_s]
        refine Ret.some ?_
        congr 1
        by_cases hs : y.size ≤ z.2.2.2.2.1
        · rw [if_pos (.inr (.inr ⟨by omega, hs⟩)), lt_f (by omega)]; rfl
        · rw [if_neg (fun g => g.elim p' (by omega)), lt_t (by omega)]
          split <;> rfl
theorem badM_lea {w by' : Bool} {frm op z m : Int} (h : badM w by' frm op z m ≠ 10) : badM w by' frm op z m = if op = 25 ∧ m / 64 = 3 then 12 else 0 := by
  unfold badM at h ⊢
  split
  · rename_i g; rw [if_pos g] at h; exact absurd rfl h
  · rfl
end
end Go.Den.G
namespace Go.Den.G
open Go.Den
set_option maxRecDepth 100000
section
variable {t : List UInt8}
/-- The reference's decode. -/
theorem l04Decode_eq {at0 : Int} (hl : (t.length : Int) ≤ 1099511627776) (h0 : 0 ≤ at0) (h1 : at0 ≤ t.length) : S_spec_l04Decode ((t, at0, ()), ()) = some (((decM t at0).1, (decM t at0).2, ()), ()) := by
  have hq : Pos.In (.ok at0) t := fun a ha => by cases ha; exact ⟨h0, h1⟩
  have bad : ∀ {c}, p9M t (.ok at0) = .error c → (some (((dfltI, c, ()), ()) : (Ins × Int × Unit) × Unit)) = some (((decM t at0).1, (decM t at0).2, ()), ()) := fun h => by rw [decM_err h]
  have hz := of_decide_eq_true (zM_fact hq)
  have hm := mM_range hq
  have hb := bM_range hq
  have hx := rexOK_xM t (.ok at0)
  unfold S_spec_l04Decode
  dsimp only
  obtain ⟨y2, e2, g2, k2⟩ := shead_eq hl h0 h1
  refine (Ret.bnd (Q := fun y => y = y2) (Ret.of_eq e2 rfl) ?_).eq
  rintro _ rfl
  cases h6 : p6M t (.ok at0) with
  | error c =>
    rw [h6] at g2
    obtain ⟨rfl, n2⟩ := posOf_err g2
    rw [wrong_ret n2, br_t]
    exact Ret.of_eq (bad (p9_err (p8_err h6))) rfl
  | ok a2 =>
  obtain rfl := k2 a2 h6
  have hin6 : (posOf a2 0).In t := by rw [posOf_ok, ← h6]; exact p6M_in hq
  dsimp only
  rw [show notB (eqI 0 0) = false from rfl, br_f, l04HasModRM_eq ⟨hz.2.2.1, hz.2.2.2.1⟩, bnd_s]
  dsimp only
  refine Ret.bnd (Q := fun y => ∃ a c o, y = Sum.inl ((at0, bM t (.ok at0), mM t (.ok at0), ()), (0, 0, 0, 0, 0, 0, 0, 0, 0, 0, 0, 0, 0, 0, 0, 0, 0, 0, 0, ()), (t, a, xM t (.ok at0), wdM t (.ok at0), c, ()), zM t (.ok at0), (o, 0, 0, (zM t (.ok at0)).2.2.2.2.1, 0, 0, 0, 0, 0, 0, 0, 0, 0, 0, 0, 0, 0, 0, 0, ()), ()) ∧ posOf a c = p8M t (.ok at0) ∧ (c = 0 → o = opM t (.ok at0))) ?_ ?_
  · cases hM : hasMB (zM t (.ok at0)).2.1 with
    | false =>
      have hg : grpB (zM t (.ok at0)) = false := decide_eq_false fun g => by
        have := (hz.2.2.2.2.2.2.2.2.1 g).1
        rw [hM] at this; cases this
      have e1 : mM t (.ok at0) = 0 := by unfold mM; rw [hM, if_neg (by decide)]
      have e2 : opM t (.ok at0) = (zM t (.ok at0)).1 := by unfold opM; rw [hg, if_neg (by decide)]
      have e3 : p8M t (.ok at0) = .ok a2 := by unfold p8M p7M; rw [hM, hg, if_neg (by decide), h6]; simp [exb]
      rw [br_f]
      exact Ret.some ⟨a2, 0, opM t (.ok at0), by rw [e1, e2], by rw [e3]; rfl, fun _ => rfl⟩
    | true =>
      obtain ⟨a4, c4, e4, g4⟩ := sbyte_eq (x := xM t (.ok at0)) (w := wdM t (.ok at0)) hl hin6
      have e1 : mM t (.ok at0) = rdU t 1 (posOf a2 0) := by unfold mM; rw [hM, if_pos rfl, h6]; rfl
      have e7 : p7M t (.ok at0) = posOf a4 c4 := by unfold p7M; rw [hM, if_pos rfl, h6, g4]; rfl
      rw [br_t, e4, ← e1, bnd_s]
      dsimp only
      rw [quoI_pos hm.1 (by decide) (by omega), remI_pos (by omega)]
      by_cases hg : 0 < (zM t (.ok at0)).2.2.1
      · have hgB : grpB (zM t (.ok at0)) = true := decide_eq_true hg
        have e8 : p8M t (.ok at0) = exb (posOf a4 c4) fun a => if opM t (.ok at0) = 0 then .error 11 else .ok a := by
          unfold p8M; rw [e7, hgB]; simp only [true_and]
        have eo : grp (zM t (.ok at0)).2.2.1.toNat (mM t (.ok at0) / 8 % 8).toNat = opM t (.ok at0) := by unfold opM; rw [hgB, if_pos rfl]
        by_cases hc : c4 = 0
        · subst hc
          have hgo := l03Group_eq (zM t (.ok at0)).2.2.1.toNat (by omega) (by omega) (mM t (.ok at0) / 8 % 8).toNat (by omega)
          rw [Int.toNat_of_nonneg (by omega), Int.toNat_of_nonneg (by omega), eo] at hgo
          rw [eq_t rfl, br_t, bnd_s, lt_t hg, br_t, hgo, bnd_s]
          dsimp only
          rw [posOf_ok] at e8
          unfold exb at e8
          dsimp only at e8
          by_cases ho : opM t (.ok at0) = 0
          · rw [if_pos ho] at e8
            rw [eq_t ho, br_t, sfail_eq, bnd_s, bnd_s, sumE_l, if_pos rfl]
            exact Ret.some ⟨a4, 11, opM t (.ok at0), rfl, by rw [e8]; rfl, fun _ => rfl⟩
          · rw [if_neg ho] at e8
            rw [eq_f ho, br_f, bnd_s, sumE_l]
            exact Ret.some ⟨a4, 0, opM t (.ok at0), rfl, by rw [e8]; rfl, fun _ => rfl⟩
        · rw [posOf_bad hc] at e8
          unfold exb at e8
          dsimp only at e8
          rw [eq_f hc, br_f, bnd_s, br_f, bnd_s, sumE_l]
          exact Ret.some ⟨a4, c4, (zM t (.ok at0)).1, rfl, by rw [e8, posOf_bad hc], fun g => absurd g hc⟩
      · have hgB : grpB (zM t (.ok at0)) = false := decide_eq_false hg
        have e2 : opM t (.ok at0) = (zM t (.ok at0)).1 := by unfold opM; rw [hgB, if_neg (by decide)]
        have e8 : p8M t (.ok at0) = posOf a4 c4 := by
          unfold p8M; rw [e7, hgB]
          cases posOf a4 c4 <;> simp [exb]
        refine Ret.bnd (Q := fun y => y = false) ?_ ?_
        · rw [lt_f hg]
          cases eqI c4 0
          · rw [br_f]; exact Ret.some rfl
          · rw [br_t]; exact Ret.some rfl
        rintro _ rfl
        rw [br_f, bnd_s, sumE_l]
        exact Ret.some ⟨a4, c4, opM t (.ok at0), by rw [e2], by rw [e8], fun _ => rfl⟩
  rintro _ ⟨a8, c8, o8, rfl, g8, k8⟩
  rw [sumE_l]
  dsimp only
  cases h8 : p8M t (.ok at0) with
  | error c =>
    rw [h8] at g8
    obtain ⟨rfl, n3⟩ := posOf_err g8
    rw [wrong_ret n3, br_t]
    exact Ret.of_eq (bad (p9_err h8)) rfl
  | ok a3 =>
  rw [h8] at g8
  obtain ⟨rfl, rfl⟩ := posOf_inj g8
  obtain rfl := k8 rfl
  rw [show notB (eqI 0 0) = false from rfl, br_f, ssize_eq _ _ hx, bnd_s]
  dsimp only
  rw [ssuits_eq _ _ (by omega) (mM t (.ok at0)), bnd_s]
  have h9 : p9M t (.ok at0) = if badM (wdM t (.ok at0)) (zM t (.ok at0)).2.2.2.1 (zM t (.ok at0)).2.2.2.2.1 (opM t (.ok at0)) (zsM t (.ok at0)) (mM t (.ok at0)) ≠ 0 then .error (badM (wdM t (.ok at0)) (zM t (.ok at0)).2.2.2.1 (zM t (.ok at0)).2.2.2.2.1 (opM t (.ok at0)) (zsM t (.ok at0)) (mM t (.ok at0))) else .ok a8 := by unfold p9M; rw [h8]; rfl
  have hsz : szM (zM t (.ok at0)).2.2.2.1 (opM t (.ok at0)) (wdM t (.ok at0)) (xM t (.ok at0)) = zsM t (.ok at0) := rfl
  rw [hsz]
  dsimp only
  by_cases hb10 : badM (wdM t (.ok at0)) (zM t (.ok at0)).2.2.2.1 (zM t (.ok at0)).2.2.2.2.1 (opM t (.ok at0)) (zsM t (.ok at0)) (mM t (.ok at0)) = 10
  · rw [hb10, if_pos (by decide)] at h9
    rw [decide_eq_false (fun g => g hb10), notB_f, br_t]
    exact Ret.of_eq (bad h9) rfl
  rw [badM_lea hb10] at h9
  rw [decide_eq_true hb10, notB_t, br_f, quoI_pos hm.1 (by decide) (by omega)]
  refine Ret.bnd (Q := fun y => y = decide (opM t (.ok at0) = 25 ∧ mM t (.ok at0) / 64 = 3)) ?_ ?_
  · by_cases ho : opM t (.ok at0) = 25
    · rw [eq_t ho, br_t]; exact Ret.some (by simp [eqI, ho])
    · rw [eq_f ho, br_f]; exact Ret.some (by simp [ho])
  rintro _ rfl
  by_cases hlea : opM t (.ok at0) = 25 ∧ mM t (.ok at0) / 64 = 3
  · rw [if_pos hlea, if_pos (by decide)] at h9
    rw [decide_eq_true hlea, br_t]
    exact Ret.of_eq (bad h9) rfl
  rw [if_neg hlea, if_neg (by decide)] at h9
  rw [decide_eq_false hlea, br_f]
  have hin9 : (posOf a8 0).In t := by rw [posOf_ok, ← h9]; exact p9M_in hq
  simp only [br_or, bnd_s]
  refine Ret.bnd (Q := fun y => y = Sum.inl ((at0, bM t (.ok at0), mM t (.ok at0), ()), (0, 0, 0, 0, 0, 0, 0, 0, 0, 0, 0, 0, 0, 0, 0, 0, 0, 0, 0, ()), (t, a8, xM t (.ok at0), wdM t (.ok at0), 0, ()), zM t (.ok at0), (opM t (.ok at0), zsM t (.ok at0), cdM t (.ok at0), (zM t (.ok at0)).2.2.2.2.1, 0, 0, 0, 0, 0, 0, 0, 0, 0, 0, 0, 0, 0, 0, 0, ()), ())) ?_ ?_
  · unfold cdM
    by_cases ho : opM t (.ok at0) = 33 ∨ opM t (.ok at0) = 35 ∨ opM t (.ok at0) = 36
    · rw [if_pos ho, show (eqI (opM t (.ok at0)) 33 || eqI (opM t (.ok at0)) 35 || eqI (opM t (.ok at0)) 36) = true by simp [eqI]; omega, br_t, remI_pos hb.1]
      exact Ret.some rfl
    · rw [if_neg ho, show (eqI (opM t (.ok at0)) 33 || eqI (opM t (.ok at0)) 35 || eqI (opM t (.ok at0)) 36) = false by simp [eqI]; omega, br_f]
      exact Ret.some rfl
  rintro _ rfl
  rw [sumE_l]
  dsimp only
  rw [l04HasModRM_eq ⟨hz.2.2.1, hz.2.2.2.1⟩, bnd_s]
  dsimp only
  refine Ret.bnd (Q := fun y => ∃ a c, y = Sum.inl ((at0, ()), (0, 0, 0, 0, 0, 0, 0, 0, 0, 0, 0, 0, 0, 0, 0, 0, 0, 0, 0, ()), (t, a, xM t (.ok at0), wdM t (.ok at0), c, ()), tIns ⟨opM t (.ok at0), zsM t (.ok at0), cdM t (.ok at0), (zM t (.ok at0)).2.2.2.2.1, (oM t (.ok at0)).1, (oM t (.ok at0)).2.1, 0⟩ (), ()) ∧ posOf a c = (oM t (.ok at0)).2.2) ?_ ?_
  · unfold oM
    have e9 : p9M t (.ok at0) = posOf a8 0 := h9
    rw [e9]
    cases hM : hasMB (zM t (.ok at0)).2.1 with
    | true =>
      obtain ⟨a5, c5, e5, g5⟩ := smodrm_eq (w := wdM t (.ok at0)) (z := zsM t (.ok at0)) (f := (zM t (.ok at0)).2.1) (frm := (zM t (.ok at0)).2.2.2.2.1) (op := opM t (.ok at0)) (cd := cdM t (.ok at0)) hx hm.1 hm.2 (bM t (.ok at0)) (zM t (.ok at0)).1 (zM t (.ok at0)).2.2.1 (zM t (.ok at0)).2.2.2.1 hM (fun h => zs_need hq (by omega)) hl hin9
      rw [br_t]
      refine Ret.bnd (Q := fun y => y = _) (Ret.of_eq e5 rfl) ?_
      rintro _ rfl
      exact Ret.some ⟨a5, c5, rfl, g5⟩
    | false =>
      obtain ⟨a5, c5, e5, g5⟩ := splain_eq (w := wdM t (.ok at0)) (m := mM t (.ok at0)) (z := zsM t (.ok at0)) (f := (zM t (.ok at0)).2.1) (frm := (zM t (.ok at0)).2.2.2.2.1) (op := opM t (.ok at0)) (cd := cdM t (.ok at0)) hx hb.1 (zM t (.ok at0)).1 (zM t (.ok at0)).2.2.1 (zM t (.ok at0)).2.2.2.1 hM (fun h => zs_need hq (by omega)) hl hin9
      rw [br_f]
      refine Ret.bnd (Q := fun y => y = _) (Ret.of_eq e5 rfl) ?_
      rintro _ rfl
      exact Ret.some ⟨a5, c5, rfl, g5⟩
  rintro _ ⟨a5, c5, rfl, g5⟩
  rw [sumE_l]
  dsimp only
  by_cases n5 : c5 ≠ 0
  · rw [wrong_ret n5, br_t]
    rw [posOf_bad n5] at g5
    refine Ret.some ?_
    unfold decM
    rw [← g5]
    rfl
  obtain rfl : c5 = 0 := Decidable.not_not.1 n5
  rw [posOf_ok] at g5
  have hin5 : 0 ≤ a5 ∧ a5 ≤ t.length := (opsM_in (p9M_in hq) (zs_need hq)) a5 g5.symm
  rw [show notB (eqI 0 0) = false from rfl, br_f, decM_ok g5.symm, subI_id (by omega) (by omega)]
  exact Ret.some rfl
end
end Go.Den.G
namespace Go.Den.G
open Go.Den
set_option maxRecDepth 100000

/-! ### how long an instruction is -/
def Pos.Bd (p : Pos) (lo hi : Int) : Prop := ∀ a, p = .ok a → lo ≤ a ∧ a ≤ hi
section
variable {t : List UInt8} {lo hi : Int}
theorem Pos.Bd.adv {p : Pos} (h : p.Bd lo hi) (n : Int) : Pos.Bd (Go.Den.G.adv t n p) (lo + n) (hi + n) := by
  intro a ha
  cases p with
  | error _ => cases ha
  | ok b =>
    obtain ⟨h1, h2⟩ := h b rfl
    unfold Go.Den.G.adv exb at ha
    dsimp only at ha
    split at ha
    · cases ha; omega
    · cases ha
theorem Pos.Bd.mono {p : Pos} (h : p.Bd lo hi) {lo' hi' : Int} (h1 : lo' ≤ lo) (h2 : hi ≤ hi') : p.Bd lo' hi' := fun a ha => by
  have := h a ha; omega
theorem exb_bd {p : Pos} {q : Int → Prop} [DecidablePred q] {k : Int} (h : p.Bd lo hi) : Pos.Bd (exb p fun a => if q a then .error k else .ok a) lo hi := by
  intro a ha
  cases p with
  | error c => cases ha
  | ok b =>
    unfold exb at ha
    dsimp only at ha
    split at ha
    · cases ha
    · exact h a (by cases ha; rfl)
theorem p1M_bd {q : Pos} (h : q.Bd lo hi) : (p1M t q).Bd lo (hi + 1) := by
  unfold p1M; split
  · exact (h.adv 1).mono (by omega) (by omega)
  · exact h.mono (by omega) (by omega)
theorem p3M_bd {q : Pos} (h : q.Bd lo hi) : (p3M t q).Bd lo (hi + 2) := by
  have h2 : (p2M t q).Bd lo (hi + 1) := exb_bd (q := fun _ => pkB t (p1M t q) ∈ pfxL) (p1M_bd h)
  unfold p3M; split
  · exact (h2.adv 1).mono (by omega) (by omega)
  · exact h2.mono (by omega) (by omega)
theorem p6M_bd {q : Pos} (h : q.Bd lo hi) : (p6M t q).Bd (lo + 1) (hi + 4) := by
  refine exb_bd (q := fun _ => (zM t q).2.1 = 0) ?_
  have h3 := p3M_bd (t := t) h
  unfold p5M; split
  · exact ((h3.adv 1).adv 1).mono (by omega) (by omega)
  · exact (h3.adv 1).mono (by omega) (by omega)
theorem p9M_bd {q : Pos} (h : q.Bd lo hi) : (p9M t q).Bd (lo + 1) (hi + 5) := by
  refine exb_bd (q := fun _ => badM (wdM t q) (zM t q).2.2.2.1 (zM t q).2.2.2.2.1 (opM t q) (zsM t q) (mM t q) ≠ 0) (exb_bd (q := fun _ => grpB (zM t q) = true ∧ opM t q = 0) ?_)
  have h6 := p6M_bd (t := t) h
  unfold p7M; split
  · exact (h6.adv 1).mono (by omega) (by omega)
  · exact h6.mono (by omega) (by omega)
theorem dspW_le (mod rm b : Int) : 0 ≤ dspW mod rm b ∧ dspW mod rm b ≤ 4 := by unfold dspW; (repeat' split) <;> decide
theorem dspP_bd {w : Int} {p : Pos} (h : p.Bd lo hi) (hw : 0 ≤ w ∧ w ≤ 4) : (dspP t w p).Bd lo (hi + 4) := by
  unfold dspP; split
  · exact h.mono (by omega) (by omega)
  · exact (h.adv w).mono (by omega) (by omega)
theorem plM_bd {x m z : Int} {p : Pos} (h : p.Bd lo hi) : (plM t x m z p).2.Bd lo (hi + 5) := by
  unfold plM memM
  split
  · exact h.mono (by omega) (by omega)
  · split
    · exact (dspP_bd (h.adv 1) (dspW_le ..)).mono (by omega) (by omega)
    · split
      · exact (dspP_bd (w := 4) h (by decide)).mono (by omega) (by omega)
      · exact (dspP_bd h (dspW_le ..)).mono (by omega) (by omega)
theorem imin_le {z : Int} (h : sizeP z) : 1 ≤ imin 4 z ∧ imin 4 z ≤ 4 := by
  unfold sizeP at h
  rcases h with rfl | rfl | rfl | rfl <;> decide
theorem opsM_bd {f frm op z x b m : Int} {p : Pos} (h : p.Bd lo hi) (hz : (f = 3 ∨ f = 5 ∨ f = 6 ∨ f = 8) → sizeP z) : (opsM t f frm op z x b m p).2.2.Bd lo (hi + 9) := by
  unfold opsM
  by_cases f1 : f = 1
  · rw [if_pos f1]
    exact (plM_bd h).mono (by omega) (by omega)
  rw [if_neg f1]
  by_cases f2 : f = 2
  · rw [if_pos f2]
    exact (plM_bd h).mono (by omega) (by omega)
  rw [if_neg f2]
  by_cases f17 : f = 17
  · rw [if_pos f17]
    exact (plM_bd h).mono (by omega) (by omega)
  rw [if_neg f17]
  by_cases f3 : f = 3
  · rw [if_pos f3]
    have := imin_le (hz (.inl f3))
    exact (h.adv (imin 4 z)).mono (by omega) (by omega)
  rw [if_neg f3]
  by_cases f4 : f = 4
  · rw [if_pos f4]
    exact ((plM_bd h).adv 1).mono (by omega) (by omega)
  rw [if_neg f4]
  by_cases f5 : f = 5
  · rw [if_pos f5]
    have := imin_le (hz (.inr (.inl f5)))
    exact ((plM_bd h).adv (imin 4 z)).mono (by omega) (by omega)
  rw [if_neg f5]
  by_cases f6 : f = 6
  · rw [if_pos f6]
    unfold oneM
    cases srcB op
    · rw [if_neg (by decide)]
      by_cases ho : op = 10
      · rw [if_pos ho]
        have := imin_le (hz (.inr (.inr (.inl f6))))
        exact ((plM_bd h).adv (imin 4 z)).mono (by omega) (by omega)
      · rw [if_neg ho]
        exact (plM_bd h).mono (by omega) (by omega)
    · rw [if_pos rfl]
      exact (plM_bd h).mono (by omega) (by omega)
  rw [if_neg f6]
  by_cases f7 : f = 7
  · rw [if_pos f7]
    by_cases ho : op = 29
    · rw [if_pos ho]
      exact h.mono (by omega) (by omega)
    · rw [if_neg ho]
      exact h.mono (by omega) (by omega)
  rw [if_neg f7]
  by_cases f8 : f = 8
  · rw [if_pos f8]
    have := sz18 (hz (.inr (.inr (.inr f8))))
    exact (h.adv z).mono (by omega) (by omega)
  rw [if_neg f8]
  by_cases f9 : f = 9
  · rw [if_pos f9]
    exact (h.adv 1).mono (by omega) (by omega)
  rw [if_neg f9]
  by_cases f15 : f = 15
  · rw [if_pos f15]
    exact (h.adv 1).mono (by omega) (by omega)
  rw [if_neg f15]
  by_cases f10 : f = 10 ∨ f = 16
  · rw [if_pos f10]
    exact (h.adv 4).mono (by omega) (by omega)
  rw [if_neg f10]
  by_cases f11 : f = 11
  · rw [if_pos f11]
    exact ((plM_bd h).adv 1).mono (by omega) (by omega)
  rw [if_neg f11]
  by_cases f12 : f = 12
  · rw [if_pos f12]
    exact (plM_bd h).mono (by omega) (by omega)
  rw [if_neg f12]
  by_cases f13 : f = 13
  · rw [if_pos f13]
    exact (plM_bd h).mono (by omega) (by omega)
  rw [if_neg f13]
  exact h.mono (by omega) (by omega)
/-- An instruction that is read has one byte or more, fifteen at most. -/
theorem decLen {at0 e : Int} (h0 : 0 ≤ at0) (h1 : at0 ≤ t.length) (h : (oM t (.ok at0)).2.2 = .ok e) : at0 + 1 ≤ e ∧ e ≤ at0 + 14 ∧ e ≤ t.length := by
  have hq : Pos.In (.ok at0) t := fun a ha => by cases ha; exact ⟨h0, h1⟩
  have hb : Pos.Bd (.ok at0) at0 at0 := fun a ha => by cases ha; omega
  have := opsM_bd (p9M_bd (t := t) hb) (zs_need hq) e h
  have := opsM_in (p9M_in hq) (zs_need hq) e h
  omega
end
end Go.Den.G
namespace Go.Den.G
open Go.Den
set_option maxRecDepth 100000

/-! ### what is read is an instruction: its operands -/
theorem two_pow_int (m : Nat) : ((2 ^ m : Nat) : Int) = (2 : Int) ^ m := by simp
theorem sx_bd (m : Nat) (hm : m ≤ 63) (v : Int) : -(2 : Int) ^ m ≤ sx m v ∧ sx m v < 2 ^ m := by
  unfold sx
  have hp : (0 : Int) < 2 ^ (m + 1) := Int.pow_pos (by decide)
  have h1 := Int.emod_nonneg v (Int.ne_of_gt hp)
  have h2 := Int.emod_lt_of_pos v hp
  have hd : (2 : Int) ^ (m + 1) = 2 ^ m * 2 := Int.pow_succ 2 m
  have hb : v % 2 ^ 64 / 2 ^ m % 2 = v % 2 ^ (m + 1) / 2 ^ m := by
    have h64 : (2 : Int) ^ (m + 1) * 2 ^ (63 - m) = 2 ^ 64 := by rw [← Int.pow_add]; congr 1; omega
    have h1 : v % 2 ^ (m + 1) = v % 2 ^ 64 % 2 ^ (m + 1) := by
      rw [Int.emod_emod_of_dvd]
      exact ⟨2 ^ (63 - m), h64.symm⟩
    rw [h1, Int.pow_succ 2 m]
    have hu := uns_cast v
    rw [← hu]
    rw [← two_pow_int m]
    have h2 : ((2 ^ m : Nat) : Int) * 2 = ((2 ^ m * 2 : Nat) : Int) := by simp
    rw [h2]
    rw [← Int.natCast_ediv, ← Int.natCast_emod, ← Int.natCast_ediv, Nat.mod_mul_right_div_self]
    simp
  rw [hb]
  have hpm : (0 : Int) < 2 ^ m := Int.pow_pos (by decide)
  generalize v % 2 ^ (m + 1) = r at *
  by_cases hs : (2 : Int) ^ m ≤ r
  · have hq : r / 2 ^ m = 1 := by
      rw [Int.ediv_eq_iff_of_pos hpm]; omega
    rw [hq, if_pos rfl]; omega
  · have hq : r / 2 ^ m = 0 := Int.ediv_eq_zero_of_lt h1 (by omega)
    rw [hq, if_neg (by decide)]; omega
theorem sx7_id {u : Int} (h0 : -128 ≤ u) (h1 : u < 128) : sx 7 u = u := by
  unfold sx; rw [show (2 : Int) ^ (7 + 1) = 256 from rfl, show (2 : Int) ^ 7 = 128 from rfl, show (2 : Int) ^ 64 = 18446744073709551616 from rfl]; split <;> omega
theorem sx15_id {u : Int} (h0 : -32768 ≤ u) (h1 : u < 32768) : sx 15 u = u := by
  unfold sx; rw [show (2 : Int) ^ (15 + 1) = 65536 from rfl, show (2 : Int) ^ 15 = 32768 from rfl, show (2 : Int) ^ 64 = 18446744073709551616 from rfl]; split <;> omega
theorem sx31_id {u : Int} (h0 : -2147483648 ≤ u) (h1 : u < 2147483648) : sx 31 u = u := by
  unfold sx; rw [show (2 : Int) ^ (31 + 1) = 4294967296 from rfl, show (2 : Int) ^ 31 = 2147483648 from rfl, show (2 : Int) ^ 64 = 18446744073709551616 from rfl]; split <;> omega
section
variable {t : List UInt8}
theorem rdS_bd {w : Int} (hw : w = 1 ∨ w = 2 ∨ w = 4) (p : Pos) : -(2 : Int) ^ (8 * w - 1).toNat ≤ rdS t w p ∧ rdS t w p < 2 ^ (8 * w - 1).toNat := sx_bd _ (by omega) _
theorem rdS1_bd (p : Pos) : -128 ≤ rdS t 1 p ∧ rdS t 1 p < 128 := rdS_bd (.inl rfl) p
theorem rdS2_bd (p : Pos) : -32768 ≤ rdS t 2 p ∧ rdS t 2 p < 32768 := rdS_bd (.inr (.inl rfl)) p
theorem rdS4_bd (p : Pos) : -2147483648 ≤ rdS t 4 p ∧ rdS t 4 p < 2147483648 := rdS_bd (.inr (.inr rfl)) p
theorem fitB_eq {u z : Int} (hz : sizeP z) : fitB u z = true ↔ (z = 1 ∧ -128 ≤ u ∧ u < 128) ∨ (z = 2 ∧ -32768 ≤ u ∧ u < 32768) ∨ ((z = 4 ∨ z = 8) ∧ -2147483648 ≤ u ∧ u < 2147483648) := by
  unfold fitB fitsB
  rw [eq_iff]
  have h7 : -128 ≤ sx 7 u ∧ sx 7 u < 128 := sx_bd 7 (by decide) u
  have h15 : -32768 ≤ sx 15 u ∧ sx 15 u < 32768 := sx_bd 15 (by decide) u
  have h31 : -2147483648 ≤ sx 31 u ∧ sx 31 u < 2147483648 := sx_bd 31 (by decide) u
  rcases hz with rfl | rfl | rfl | rfl
  · show sx 7 u = u ↔ _
    constructor
    · intro h; omega
    · intro h; exact sx7_id (by omega) (by omega)
  · show sx 15 u = u ↔ _
    constructor
    · intro h; omega
    · intro h; exact sx15_id (by omega) (by omega)
  · show sx 31 u = u ↔ _
    constructor
    · intro h; omega
    · intro h; exact sx31_id (by omega) (by omega)
  · show sx 31 u = u ↔ _
    constructor
    · intro h; omega
    · intro h; exact sx31_id (by omega) (by omega)
theorem fitB_rd {z : Int} (hz : sizeP z) (p : Pos) : fitB (rdS t (imin 4 z) p) z = true := by
  rw [fitB_eq hz]
  have h1 := rdS1_bd (t := t) p
  have h2 := rdS2_bd (t := t) p
  have h4 := rdS4_bd (t := t) p
  rcases hz with rfl | rfl | rfl | rfl
  · exact .inl ⟨rfl, h1⟩
  · exact .inr (.inl ⟨rfl, h2⟩)
  · exact .inr (.inr ⟨.inl rfl, h4⟩)
  · exact .inr (.inr ⟨.inr rfl, h4⟩)
theorem fitB_rd1 {z : Int} (hz : sizeP z) (p : Pos) : fitB (rdS t 1 p) z = true := by
  rw [fitB_eq hz]
  have h1 := rdS1_bd (t := t) p
  unfold sizeP at hz
  omega
theorem fitB_0 {z : Int} (hz : sizeP z) : fitB 0 z = true := by
  rw [fitB_eq hz]
  unfold sizeP at hz
  omega
/-- An operand beside REX. -/
def oOK (x z : Int) (o : Opd) : Prop := opBo o z ∧ (x = 0 → ¬ rexPo o z) ∧ (x ≠ 0 → ¬ noPo o)
theorem oOK_reg {x n z : Int} (h0 : 0 ≤ n) (h15 : n ≤ 15) (h7 : x = 0 → n ≤ 7) : oOK x z (regD (regNo x n z)) := by
  unfold oOK opBo rexPo noPo opB rexP noP regX regD regNo
  dsimp only
  split <;> refine ⟨?_, ?_, ?_⟩ <;> omega
theorem oOK_low {x n z : Int} (h0 : 0 ≤ n) (h15 : n ≤ 15) (h7 : x = 0 → n ≤ 7) (hz : z ≠ 1 ∨ n ≤ 3) : oOK x z (regD n) := by
  unfold oOK opBo rexPo noPo opB rexP noP regX regD
  dsimp only
  refine ⟨?_, ?_, ?_⟩ <;> omega
theorem oOK_imm {x n z : Int} : oOK x z (immD n) := by
  unfold oOK opBo rexPo noPo opB rexP noP regX immD memP
  dsimp only
  refine ⟨?_, ?_, ?_⟩ <;> omega
theorem oOK_no {x z : Int} : oOK x z noD := by
  unfold oOK opBo rexPo noPo opB rexP noP regX noD memP
  dsimp only
  refine ⟨?_, ?_, ?_⟩ <;> omega
theorem oOK_mem {x z b i s d : Int} (h1 : memP 2 0 b i s d 0) (h2 : x = 0 → (b ≤ 7 ∨ b = 16) ∧ i ≤ 7) : oOK x z (memD b i s d) := by
  refine ⟨.inr (.inl h1), fun hx hr => ?_, fun _ hn => ?_⟩
  · have := h2 hx
    clear h1
    unfold rexPo rexP memD at hr
    dsimp only at hr
    omega
  · unfold noPo noP memD at hn
    dsimp only at hn
    omega
theorem dspV_bd {mod rm b : Int} (p : Pos) : -2147483648 ≤ dspV t (dspW mod rm b) p ∧ dspV t (dspW mod rm b) p ≤ 2147483647 := by
  have h1 := rdS1_bd (t := t) p
  have h4 := rdS4_bd (t := t) p
  have hw : dspW mod rm b = 0 ∨ dspW mod rm b = 1 ∨ dspW mod rm b = 4 := by unfold dspW; (repeat' split) <;> decide
  unfold dspV
  rcases hw with h | h | h <;> rw [h]
  · rw [if_pos rfl]; omega
  · rw [if_neg (by decide)]; omega
  · rw [if_neg (by decide)]; omega
theorem pow_cases {b : Int} (h0 : 0 ≤ b) (h1 : b < 256) : (2 : Int) ^ (b / 64).toNat = 1 ∨ (2 : Int) ^ (b / 64).toNat = 2 ∨ (2 : Int) ^ (b / 64).toNat = 4 ∨ (2 : Int) ^ (b / 64).toNat = 8 := by
  have : b / 64 = 0 ∨ b / 64 = 1 ∨ b / 64 = 2 ∨ b / 64 = 3 := by omega
  rcases this with h | h | h | h <;> rw [h] <;> decide
theorem memM_ok {x mod rm z : Int} {p : Pos} (hp : p.In t) (hrm : 0 ≤ rm ∧ rm ≤ 7) : oOK x z (memM t x mod rm p).1 := by
  have hb := rdU1_range t p hp
  obtain ⟨e0, e8, ez⟩ := ext_le (x := x) (k := 0) (by decide)
  obtain ⟨f0, f8, fz⟩ := ext_le (x := x) (k := 1) (by decide)
  have e2 := ext_range (x := x) (k := 1) (by decide)
  have hpw := pow_cases hb.1 hb.2
  unfold memM
  split
  · refine oOK_mem ?_ ?_
    · have hd := dspV_bd (t := t) (mod := mod) (rm := rm) (b := rdU t 1 p) (adv t 1 p)
      generalize dspV t (dspW mod rm (rdU t 1 p)) (adv t 1 p) = d at hd ⊢
      generalize (2 : Int) ^ (rdU t 1 p / 64).toNat = s at hpw ⊢
      unfold memP
      split <;> split <;> omega
    · intro h
      split <;> split <;> omega
  · split
    · refine oOK_mem ?_ (fun _ => by omega)
      have h4 : -2147483648 ≤ dspV t 4 p ∧ dspV t 4 p ≤ 2147483647 := by
        have := rdS4_bd (t := t) p
        unfold dspV; rw [if_neg (by decide)]; omega
      generalize dspV t 4 p = d at h4 ⊢
      unfold memP; omega
    · refine oOK_mem ?_ (fun _ => by omega)
      have hd := dspV_bd (t := t) (mod := mod) (rm := rm) (b := 0) p
      generalize dspV t (dspW mod rm 0) p = d at hd ⊢
      unfold memP; omega
theorem plM_ok {x m z : Int} {p : Pos} (hp : p.In t) : oOK x z (plM t x m z p).1 := by
  obtain ⟨e0, e8, ez⟩ := ext_le (x := x) (k := 0) (by decide)
  unfold plM
  split
  · exact oOK_reg (by omega) (by omega) (by omega)
  · exact memM_ok hp (by omega)
theorem plM_kind (t : List UInt8) (x m z : Int) (p : Pos) : ((plM t x m z p).1.kind = 1 ∨ (plM t x m z p).1.kind = 2) ∧ (plM t x m z p).1.imm = 0 ∧ (m / 64 ≠ 3 → (plM t x m z p).1.kind = 2) := by
  unfold plM memM
  split
  · exact ⟨.inl rfl, rfl, fun h => absurd (by assumption) h⟩
  · split
    · exact ⟨.inr rfl, rfl, fun _ => rfl⟩
    · split
      · exact ⟨.inr rfl, rfl, fun _ => rfl⟩
      · exact ⟨.inr rfl, rfl, fun _ => rfl⟩
end
end Go.Den.G
namespace Go.Den.G
open Go.Den
set_option maxRecDepth 100000

/-! ### what is read is an instruction -/
def tabP1 (f op : Int) (by' : Bool) : Prop :=
  (f = 1 ∧ (1 ≤ op ∧ op ≤ 10 ∨ op = 28)) ∨ (f = 2 ∧ (1 ≤ op ∧ op ≤ 9 ∨ (op = 17 ∨ op = 25 ∨ op = 36) ∧ by' = false)) ∨ (f = 3 ∧ (1 ≤ op ∧ op ≤ 8 ∨ op = 10)) ∨ (f = 4 ∧ 1 ≤ op ∧ op ≤ 8) ∨ (f = 5 ∧ 1 ≤ op ∧ op ≤ 9)
def tabP2 (f op : Int) (by' : Bool) (frm : Int) : Prop :=
  (f = 17 ∧ by' = false ∧ (op = 26 ∧ (frm = 1 ∨ frm = 2) ∨ op = 27 ∧ (frm = 1 ∨ frm = 2 ∨ frm = 4))) ∨ (f = 6 ∧ (10 ≤ op ∧ op ≤ 16 ∨ op = 18 ∨ op = 19 ∨ 29 ≤ op ∧ op ≤ 32 ∨ op = 35 ∧ by' = true)) ∨ (f = 7 ∧ (op = 29 ∨ op = 30)) ∨ (f = 8 ∧ op = 9)
def tabP3 (f op : Int) : Prop :=
  (f = 9 ∧ (op = 32 ∨ op = 33)) ∨ (f = 15 ∧ (op = 29 ∨ op = 44)) ∨ (f = 10 ∧ 31 ≤ op ∧ op ≤ 33) ∨ (f = 16 ∧ op = 29) ∨ ((f = 11 ∨ f = 12 ∨ f = 13) ∧ 20 ≤ op ∧ op ≤ 24)
def tabP4 (f op : Int) (by' : Bool) : Prop :=
  f = 14 ∧ (op = 34 ∨ op = 37 ∨ op = 38 ∨ op = 43 ∨ (op = 39 ∨ op = 40) ∧ by' = false ∨ (op = 41 ∨ op = 42) ∧ by' = true)
instance (f op : Int) (b : Bool) : Decidable (tabP1 f op b) := by unfold tabP1; infer_instance
instance (f op : Int) (b : Bool) (r : Int) : Decidable (tabP2 f op b r) := by unfold tabP2; infer_instance
instance (f op : Int) : Decidable (tabP3 f op) := by unfold tabP3; infer_instance
instance (f op : Int) (b : Bool) : Decidable (tabP4 f op b) := by unfold tabP4; infer_instance
def tabB (f op : Int) (by' : Bool) (frm : Int) : Bool := decide ((tabP1 f op by' ∨ tabP2 f op by' frm ∨ tabP3 f op ∨ tabP4 f op by') ∧ (f ≠ 17 → frm = 0))
def tabC (sec : Bool) (n : Nat) : Bool :=
  decide ((shz sec n).2.1 = 0) || (if 0 < (shz sec n).2.2.1 then (List.range 8).all fun d => decide (grp (shz sec n).2.2.1.toNat d = 0) || tabB (shz sec n).2.1 (grp (shz sec n).2.2.1.toNat d) (shz sec n).2.2.2.1 (shz sec n).2.2.2.2.1
    else tabB (shz sec n).2.1 (shz sec n).1 (shz sec n).2.2.2.1 (shz sec n).2.2.2.2.1)
theorem tab_F : ∀ n : Nat, n < 256 → tabC false n = true := by decide +kernel
theorem tab_T : ∀ n : Nat, n < 256 → tabC true n = true := by decide +kernel
theorem tab_all (sec : Bool) {n : Nat} (h : n < 256) : tabC sec n = true := by
  cases sec
  · exact tab_F n h
  · exact tab_T n h
section
variable {t : List UInt8}
theorem exb_ok {p : Pos} {q : Int → Prop} [DecidablePred q] {k e : Int} (h : (exb p fun a => if q a then .error k else .ok a : Except Int Int) = .ok e) : p = .ok e ∧ ¬ q e := by
  cases p with
  | error c => cases h
  | ok b =>
    unfold exb at h
    dsimp only at h
    split at h
    · cases h
    · rename_i hn
      cases h; exact ⟨rfl, hn⟩
theorem adv_ok {p : Pos} {n e : Int} (h : adv t n p = .ok e) : ∃ b, p = .ok b ∧ b + n ≤ t.length ∧ e = b + n := by
  cases p with
  | error c => cases h
  | ok b =>
    unfold adv exb at h
    dsimp only at h
    split at h
    · cases h; exact ⟨b, rfl, by assumption, rfl⟩
    · cases h
/-- What is known of an instruction that has been read. -/
theorem dec_facts {q : Pos} {e : Int} (hq : q.In t) (h : (oM t q).2.2 = .ok e) :
    tabB (zM t q).2.1 (opM t q) (zM t q).2.2.2.1 (zM t q).2.2.2.2.1 = true ∧ badM (wdM t q) (zM t q).2.2.2.1 (zM t q).2.2.2.2.1 (opM t q) (zsM t q) (mM t q) = 0 := by
  have hb := bM_range hq
  have hm := mM_range hq
  cases h9 : p9M t q with
  | error c => rw [show (oM t q).2.2 = .error c from opsM_err h9] at h; cases h
  | ok a9 =>
    obtain ⟨h8, hbad⟩ := exb_ok (q := fun _ => badM (wdM t q) (zM t q).2.2.2.1 (zM t q).2.2.2.2.1 (opM t q) (zsM t q) (mM t q) ≠ 0) h9
    obtain ⟨h7, hop⟩ := exb_ok (q := fun _ => grpB (zM t q) = true ∧ opM t q = 0) h8
    have h6 : ∃ b, p6M t q = .ok b := by
      unfold p7M at h7
      split at h7
      · obtain ⟨b, hb, _⟩ := adv_ok h7; exact ⟨b, hb⟩
      · exact ⟨_, h7⟩
    obtain ⟨b6, h6⟩ := h6
    obtain ⟨_, hf⟩ := exb_ok (q := fun _ => (zM t q).2.1 = 0) h6
    refine ⟨?_, Decidable.not_not.1 hbad⟩
    have ht := tab_all (secM t q) (show (bM t q).toNat < 256 by omega)
    unfold tabC at ht
    have hf' : ¬ (shz (secM t q) (bM t q).toNat).2.1 = 0 := hf
    rw [decide_eq_false hf', Bool.false_or] at ht
    change (if 0 < (zM t q).2.2.1 then _ else tabB (zM t q).2.1 (zM t q).1 (zM t q).2.2.2.1 (zM t q).2.2.2.2.1) = true at ht
    by_cases hg : 0 < (zM t q).2.2.1
    · rw [if_pos hg] at ht
      have hgB : grpB (zM t q) = true := decide_eq_true hg
      have eo : opM t q = grp (zM t q).2.2.1.toNat (mM t q / 8 % 8).toNat := by unfold opM; rw [hgB, if_pos rfl]
      have := List.all_eq_true.1 ht (mM t q / 8 % 8).toNat (List.mem_range.2 (by omega))
      change (decide (grp (zM t q).2.2.1.toNat _ = 0) || tabB (zM t q).2.1 (grp (zM t q).2.2.1.toNat _) (zM t q).2.2.2.1 (zM t q).2.2.2.2.1) = true at this
      rw [← eo, decide_eq_false (fun g => hop ⟨hgB, g⟩), Bool.false_or] at this
      exact this
    · rw [if_neg hg] at ht
      have hgB : grpB (zM t q) = false := decide_eq_false hg
      have eo : opM t q = (zM t q).1 := by unfold opM; rw [hgB, if_neg (by decide)]
      rw [eo]; exact ht
/-- Sizes. -/
theorem szM_val (by' w : Bool) (op x : Int) : (eightB op = true → szM by' op w x = 8) ∧ (eightB op = false → zeroB op = true → szM by' op w x = 0) ∧ (eightB op = false → zeroB op = false → (by' = true → szM by' op w x = 1) ∧ (by' = false → szM by' op w x = 2 ∨ szM by' op w x = 4 ∨ szM by' op w x = 8 ∧ x ≠ 0)) := by
  unfold szM
  refine ⟨fun h => by rw [if_pos h], fun h g => by rw [if_neg (by rw [h]; decide), if_pos g], fun h g => ⟨fun k => ?_, fun k => ?_⟩⟩
  · rw [if_neg (by rw [h]; decide), if_neg (by rw [g]; decide), if_pos k]
  · rw [if_neg (by rw [h]; decide), if_neg (by rw [g]; decide), if_neg (by rw [k]; decide)]
    split
    · right; right; exact ⟨rfl, by rintro rfl; omega⟩
    · split
      · exact .inl rfl
      · exact .inr (.inl rfl)
def kOK (n : Nat) (kd ks : Int) : Bool := (prK n).any (pairB kd ks)
theorem k_f1 : ∀ n, n < 45 → (1 ≤ n ∧ n ≤ 10 ∨ n = 28) → kOK n 1 1 = true ∧ kOK n 2 1 = true := by decide +kernel
theorem k_f2 : ∀ n, n < 45 → (1 ≤ n ∧ n ≤ 9 ∨ n = 17 ∨ n = 36 ∨ n = 26 ∨ n = 27) → kOK n 1 1 = true ∧ kOK n 1 2 = true := by decide +kernel
theorem k_lea : kOK 25 1 2 = true := by decide +kernel
theorem k_ri : ∀ n, n < 45 → (1 ≤ n ∧ n ≤ 10 ∨ 20 ≤ n ∧ n ≤ 24) → kOK n 1 3 = true ∧ kOK n 2 3 = true := by decide +kernel
theorem k_sh : ∀ n, n < 45 → 20 ≤ n → n ≤ 24 → kOK n 1 1 = true ∧ kOK n 2 1 = true := by decide +kernel
theorem k_r0 : ∀ n, n < 45 → (n = 11 ∨ n = 12 ∨ n = 18 ∨ n = 19 ∨ n = 30 ∨ n = 35) → kOK n 1 0 = true ∧ kOK n 2 0 = true := by decide +kernel
theorem k_0r : ∀ n, n < 45 → (13 ≤ n ∧ n ≤ 16 ∨ n = 29 ∨ n = 31 ∨ n = 32) → kOK n 0 1 = true ∧ kOK n 0 2 = true := by decide +kernel
theorem k_0i : ∀ n, n < 45 → (n = 29 ∨ n = 31 ∨ n = 32 ∨ n = 33 ∨ n = 44) → kOK n 0 3 = true := by decide +kernel
theorem k_00 : ∀ n, n < 45 → (n = 34 ∨ 37 ≤ n ∧ n ≤ 43) → kOK n 0 0 = true := by decide +kernel
end
end Go.Den.G
namespace Go.Den.G
open Go.Den
set_option maxRecDepth 100000
theorem numB_a {x : Ins} {n : Nat} (h : n ≤ 8 ∨ n = 10) : numB x n = fitB x.src.imm x.size := by unfold numB; rw [if_pos h]
theorem numB_9 {x : Ins} : numB x 9 = (decide (x.size = 8 ∧ x.dst.kind = 1) || fitB x.src.imm x.size) := by unfold numB; rw [if_neg (by decide), if_pos rfl]
theorem numB_sh {x : Ins} {n : Nat} (h : 20 ≤ n ∧ n ≤ 24) : numB x n = decide (¬ (x.src.kind = 1 ∧ x.src.reg ≠ 1) ∧ 0 ≤ x.src.imm ∧ x.src.imm ≤ 255) := by
  unfold numB; rw [if_neg (by omega), if_neg (by omega), if_pos h]
theorem numB_26 {x : Ins} : numB x 26 = decide (x.frm = 1 ∨ x.frm = 2 ∧ 2 < x.size) := rfl
theorem numB_27 {x : Ins} : numB x 27 = decide (x.frm = 1 ∨ x.frm = 2 ∧ 2 < x.size ∨ x.frm = 4 ∧ x.size = 8) := rfl
theorem numB_fl {x : Ins} {n : Nat} (h : n = 29 ∨ n = 31 ∨ n = 32 ∨ n = 33) : numB x n = fitB x.src.imm 4 := by rcases h with rfl | rfl | rfl | rfl <;> rfl
theorem numB_44 {x : Ins} : numB x 44 = decide (0 ≤ x.src.imm ∧ x.src.imm ≤ 255) := rfl
theorem numB_t {x : Ins} {n : Nat} (h : 11 ≤ n ∧ n ≤ 19 ∨ n = 25 ∨ n = 28 ∨ n = 30 ∨ 34 ≤ n ∧ n ≤ 43) : numB x n = true := by
  unfold numB; rw [if_neg (by omega), if_neg (by omega), if_neg (by omega), if_neg (by omega), if_neg (by omega), if_neg (by omega), if_neg (by omega)]
/-- Sizes, in numbers. -/
structure SzV (z op : Int) (by' : Bool) (x : Int) : Prop where
  ve : 29 ≤ op ∧ op ≤ 32 → z = 8
  vz : op = 33 ∨ op = 34 ∨ op = 37 ∨ op = 38 ∨ op = 43 ∨ op = 44 → z = 0
  vb : ¬ (29 ≤ op ∧ op ≤ 34 ∨ op = 37 ∨ op = 38 ∨ op = 43 ∨ op = 44) → by' = true → z = 1
  vn : ¬ (29 ≤ op ∧ op ≤ 34 ∨ op = 37 ∨ op = 38 ∨ op = 43 ∨ op = 44) → by' = false → z = 2 ∨ z = 4 ∨ z = 8 ∧ x ≠ 0
theorem szV (by' w : Bool) (op x : Int) : SzV (szM by' op w x) op by' x := by
  obtain ⟨h1, h2, h3⟩ := szM_val by' w op x
  have e8 : eightB op = true ↔ 29 ≤ op ∧ op ≤ 32 := by unfold eightB; rw [decide_eq_true_eq]; omega
  have e0 : zeroB op = true ↔ (op = 33 ∨ op = 34 ∨ op = 37 ∨ op = 38 ∨ op = 43 ∨ op = 44) := by unfold zeroB; rw [decide_eq_true_eq]
  have n8 : eightB op = false ↔ ¬ (29 ≤ op ∧ op ≤ 32) := by rw [← e8, Bool.not_eq_true]
  have n0 : zeroB op = false ↔ ¬ (op = 33 ∨ op = 34 ∨ op = 37 ∨ op = 38 ∨ op = 43 ∨ op = 44) := by rw [← e0, Bool.not_eq_true]
  rw [e8] at h1
  rw [n8, e0] at h2
  rw [n8, n0] at h3
  refine ⟨fun h => h1 (by omega), fun h => h2 (by omega) (by omega), fun h k => ?_, fun h k => ?_⟩
  · exact (h3 (by omega) (by omega)).1 k
  · exact (h3 (by omega) (by omega)).2 k
theorem sz_mem {f frm z x : Int} {by' : Bool} {n : Nat} (h : tabB f n by' frm = true) (V : SzV z n by' x) (hn : 1 ≤ n) (hn2 : n < 45) : z ∈ szL (szK n) := by
  have T := (of_decide_eq_true h).1
  obtain ⟨v1, v2, v3, v4⟩ := V
  unfold tabP1 tabP2 tabP3 tabP4 at T
  unfold szK szL
  cases by' with
  | true =>
    have v3 := fun g => v3 g rfl
    clear v4
    simp only [Bool.true_eq_false, and_false, false_and, or_false, and_true, false_or] at T
    by_cases c0 : n ≤ 16 ∨ n = 18 ∨ n = 19 ∨ (20 ≤ n ∧ n ≤ 24) ∨ n = 28
    · rw [if_pos c0, if_pos rfl]; simp only [List.mem_cons, List.not_mem_nil, or_false]; omega
    rw [if_neg c0]
    by_cases c1 : n = 17 ∨ n = 25 ∨ n = 26 ∨ n = 27 ∨ n = 36 ∨ n = 39 ∨ n = 40
    · omega
    rw [if_neg c1]
    by_cases c2 : 29 ≤ n ∧ n ≤ 32
    · rw [if_pos c2, if_neg (by decide), if_neg (by decide), if_pos rfl]; simp only [List.mem_cons, List.not_mem_nil, or_false]; omega
    rw [if_neg c2]
    by_cases c3 : n = 35 ∨ n = 41 ∨ n = 42
    · rw [if_pos c3, if_neg (by decide), if_neg (by decide), if_neg (by decide), if_pos rfl]; simp only [List.mem_cons, List.not_mem_nil, or_false]; omega
    rw [if_neg c3, if_neg (by decide), if_neg (by decide), if_neg (by decide), if_neg (by decide)]; simp only [List.mem_cons, List.not_mem_nil, or_false]; omega
  | false =>
    have v4 := fun g => v4 g rfl
    clear v3
    simp only [Bool.false_eq_true, and_false, or_false, and_true, true_and] at T
    by_cases c0 : n ≤ 16 ∨ n = 18 ∨ n = 19 ∨ (20 ≤ n ∧ n ≤ 24) ∨ n = 28
    · rw [if_pos c0, if_pos rfl]; simp only [List.mem_cons, List.not_mem_nil, or_false]; omega
    rw [if_neg c0]
    by_cases c1 : n = 17 ∨ n = 25 ∨ n = 26 ∨ n = 27 ∨ n = 36 ∨ n = 39 ∨ n = 40
    · rw [if_pos c1, if_neg (by decide), if_pos rfl]; simp only [List.mem_cons, List.not_mem_nil, or_false]; omega
    rw [if_neg c1]
    by_cases c2 : 29 ≤ n ∧ n ≤ 32
    · rw [if_pos c2, if_neg (by decide), if_neg (by decide), if_pos rfl]; simp only [List.mem_cons, List.not_mem_nil, or_false]; omega
    rw [if_neg c2]
    by_cases c3 : n = 35 ∨ n = 41 ∨ n = 42
    · omega
    rw [if_neg c3, if_neg (by decide), if_neg (by decide), if_neg (by decide), if_neg (by decide)]; simp only [List.mem_cons, List.not_mem_nil, or_false]; omega
theorem insP_of {op z cd frm len x : Int} {D S : Opd} {n : Nat} (hlen : 0 ≤ len ∧ len ≤ 15) (hcd : 0 ≤ cd ∧ cd ≤ 15) (hcz : (n = 33 ∨ n = 35 ∨ n = 36) ∨ cd = 0) (hfrm : (n = 26 ∨ n = 27) ∨ frm = 0) (hsz : z ∈ szL (szK n))
    (hk : kOK n D.kind S.kind = true) (hnum : numB ⟨op, z, cd, frm, D, S, len⟩ n = true) (hD : oOK x z D) (hS : oOK x (sSz ⟨op, z, cd, frm, D, S, len⟩ n) S) (hx : x = 0 → z ≠ 8 ∨ 29 ≤ n ∧ n ≤ 32) : insP ⟨op, z, cd, frm, D, S, len⟩ n := by
  refine ⟨hlen.1, hlen.2, ?_, hfrm, hcz, hcd.1, hcd.2, hD.1, hS.1, ?_⟩
  · unfold shB
    rw [hnum, decide_eq_true hsz]
    show (true && (kOK n D.kind S.kind && true)) = true
    rw [hk]; rfl
  · by_cases h0 : x = 0
    · exact .inr ⟨hD.2.1 h0, hS.2.1 h0, hx h0⟩
    · exact .inl fun g => g.elim (hD.2.2 h0) (hS.2.2 h0)
end Go.Den.G
namespace Go.Den.G
open Go.Den
set_option maxRecDepth 100000
section
variable {t : List UInt8}
theorem bad_facts {w by' : Bool} {frm op z m : Int} (h : badM w by' frm op z m = 0) : (frm = 4 → z = 8) ∧ ((frm = 1 ∨ frm = 2) → frm < z) ∧ ¬ (op = 25 ∧ m / 64 = 3) := by
  unfold badM at h
  split at h
  · omega
  · rename_i g
    split at h
    · omega
    · rename_i g2
      refine ⟨fun h4 => ?_, fun h4 => ?_, g2⟩
      · by_cases h8 : z = 8
        · exact h8
        · exact absurd (.inr (.inl ⟨h4, h8⟩)) g
      · by_cases h8 : z ≤ frm
        · exact absurd (.inr (.inr ⟨h4, h8⟩)) g
        · omega
theorem sSz_n {x : Ins} {n : Nat} (h : ¬ (20 ≤ n ∧ n ≤ 24)) (hf : x.frm = 0) : sSz x n = x.size := by unfold sSz; rw [if_neg h, hf, if_neg (by decide)]
theorem sSz_f {x : Ins} {n : Nat} (h : ¬ (20 ≤ n ∧ n ≤ 24)) (hf : 0 < x.frm) : sSz x n = x.frm := by unfold sSz; rw [if_neg h, if_pos hf]
theorem sSz_8 {x : Ins} {n : Nat} (h : 20 ≤ n ∧ n ≤ 24) : sSz x n = 8 := by unfold sSz; rw [if_pos h]
theorem sizeP_of {z x op : Int} {by' : Bool} (V : SzV z op by' x) (h : ¬ (op = 33 ∨ op = 34 ∨ op = 37 ∨ op = 38 ∨ op = 43 ∨ op = 44)) : sizeP z := by
  obtain ⟨v1, _, v3, v4⟩ := V
  unfold sizeP
  by_cases h8 : 29 ≤ op ∧ op ≤ 32
  · have := v1 h8; omega
  · cases hb : by' with
    | true => have := v3 (by omega) hb; omega
    | false => have := v4 (by omega) hb; omega
theorem ops_insP {f frm z x b m cd len : Int} {w by' : Bool} {n : Nat} {p : Pos} (hp : p.In t) (hn : 1 ≤ n) (hn2 : n < 45) (hT : tabB f n by' frm = true) (V : SzV z n by' x) (hm0 : 0 ≤ m) (hm : m < 256)
    (hbad : badM w by' frm n z m = 0) (hlen : 0 ≤ len ∧ len ≤ 15) (hcd : 0 ≤ cd ∧ cd ≤ 15) (hcz : (n = 33 ∨ n = 35 ∨ n = 36) ∨ cd = 0) :
    insP ⟨n, z, cd, frm, (opsM t f frm n z x b m p).1, (opsM t f frm n z x b m p).2.1, len⟩ n := by
  have hsz := sz_mem hT V hn hn2
  obtain ⟨T, hfr⟩ := of_decide_eq_true hT
  obtain ⟨b4, b12, blea⟩ := bad_facts hbad
  obtain ⟨e0, e8, ez⟩ := ext_le (x := x) (k := 0) (by decide)
  obtain ⟨g0, g8, gz⟩ := ext_le (x := x) (k := 2) (by decide)
  have hrg : ∀ z, oOK x z (regD (regNo x (m / 8 % 8 + extM x 2) z)) := fun z => oOK_reg (by omega) (by omega) (by omega)
  have hpl : ∀ z, oOK x z (plM t x m z p).1 := fun z => plM_ok hp
  have hpk := fun z => plM_kind t x m z p
  have hx8 : x = 0 → z ≠ 8 ∨ 29 ≤ n ∧ n ≤ 32 := fun h0 => by
    obtain ⟨v1, v2, v3, v4⟩ := V
    by_cases h8 : 29 ≤ n ∧ n ≤ 32
    · exact .inr h8
    · left
      by_cases hz : (n : Int) = 33 ∨ (n : Int) = 34 ∨ (n : Int) = 37 ∨ (n : Int) = 38 ∨ (n : Int) = 43 ∨ (n : Int) = 44
      · have := v2 hz; omega
      · cases hby : by' with
        | true => have := v3 (by omega) hby; omega
        | false => have := v4 (by omega) hby; omega
  have hP : ¬ (n = 33 ∨ n = 34 ∨ n = 37 ∨ n = 38 ∨ n = 43 ∨ n = 44) → sizeP z := fun h => sizeP_of V (by omega)
  have f26 : f ≠ 17 → (n = 26 ∨ n = 27) ∨ frm = 0 := fun h => .inr (hfr h)
  have key : ∀ (D S : Opd) (q : Pos), opsM t f frm n z x b m p = (D, S, q) → kOK n D.kind S.kind = true → numB ⟨n, z, cd, frm, D, S, len⟩ n = true → oOK x z D → oOK x (sSz ⟨n, z, cd, frm, D, S, len⟩ n) S → ((n = 26 ∨ n = 27) ∨ frm = 0) →
      insP ⟨n, z, cd, frm, (opsM t f frm n z x b m p).1, (opsM t f frm n z x b m p).2.1, len⟩ n := fun D S q e k1 k2 k3 k4 k5 => by
    rw [e]
    exact insP_of hlen hcd hcz k5 hsz k1 k2 k3 k4 hx8
  rcases T with T | T | T | T
  · unfold tabP1 at T
    rcases T with ⟨rfl, T⟩ | ⟨rfl, T⟩ | ⟨rfl, T⟩ | ⟨rfl, T⟩ | ⟨rfl, T⟩
    · have hk := k_f1 n hn2 (by omega)
      refine key _ _ _ rfl ?_ ?_ (hpl z) (by rw [sSz_n (by omega) (hfr (by decide))]; exact hrg z) (f26 (by decide))
      · rcases (hpk z).1 with e | e <;> rw [e]
        · exact hk.1
        · exact hk.2
      · by_cases h9 : n = 9
        · subst h9; rw [numB_9]; simp [regD, fitB_0 (hP (by decide))]
        · by_cases h28 : n = 28
          · exact numB_t (by omega)
          · rw [numB_a (by omega)]; exact fitB_0 (hP (by omega))
    · by_cases hl : n = 25
      · subst hl
        have hk2 := (hpk z).2.2 (fun g => blea ⟨rfl, g⟩)
        refine key _ _ _ rfl ?_ (numB_t (by omega)) (hrg z) (by rw [sSz_n (by omega) (hfr (by decide))]; exact hpl z) (f26 (by decide))
        rw [hk2]; exact k_lea
      · have hk := k_f2 n hn2 (by omega)
        refine key _ _ _ rfl ?_ ?_ (hrg z) (by rw [sSz_n (by omega) (hfr (by decide))]; exact hpl z) (f26 (by decide))
        · rcases (hpk z).1 with e | e <;> rw [e]
          · exact hk.1
          · exact hk.2
        · by_cases h9 : n = 9
          · subst h9; rw [numB_9, (hpk z).2.1, fitB_0 (hP (by decide)), Bool.or_true]
          · by_cases h8 : n ≤ 8
            · rw [numB_a (.inl h8), (hpk z).2.1]; exact fitB_0 (hP (by omega))
            · by_cases h17 : n = 17
              · exact numB_t (by omega)
              · have : n = 36 := by omega
                exact numB_t (by omega)
    · have hk := k_ri n hn2 (by omega)
      refine key _ _ _ rfl hk.1 ?_ (oOK_low (by omega) (by omega) (by omega) (.inr (by decide))) oOK_imm (f26 (by decide))
      rw [numB_a (by omega)]; exact fitB_rd (hP (by omega)) _
    · have hk := k_ri n hn2 (by omega)
      refine key _ _ _ rfl ?_ ?_ (hpl z) oOK_imm (f26 (by decide))
      · rcases (hpk z).1 with e | e <;> rw [e]
        · exact hk.1
        · exact hk.2
      · rw [numB_a (by omega)]; exact fitB_rd1 (hP (by omega)) _
    · have hk := k_ri n hn2 (by omega)
      refine key _ _ _ rfl ?_ ?_ (hpl z) oOK_imm (f26 (by decide))
      · rcases (hpk z).1 with e | e <;> rw [e]
        · exact hk.1
        · exact hk.2
      · by_cases h9 : n = 9
        · subst h9
          rw [numB_9]
          show (_ || fitB (rdS t (imin 4 z) _) z) = true
          rw [fitB_rd (hP (by decide)), Bool.or_true]
        · rw [numB_a (by omega)]; exact fitB_rd (hP (by omega)) _
  · unfold tabP2 at T
    rcases T with ⟨rfl, hby, T⟩ | ⟨rfl, T⟩ | ⟨rfl, T⟩ | ⟨rfl, T⟩
    · have hk := k_f2 n hn2 (by omega)
      refine key _ _ _ rfl ?_ ?_ (hrg z) (by rw [sSz_f (by omega) (show 0 < frm by omega)]; exact hpl frm) (.inl (by omega))
      · rcases (hpk frm).1 with e | e <;> rw [e]
        · exact hk.1
        · exact hk.2
      · by_cases h26 : n = 26
        · subst h26; rw [numB_26]; exact decide_eq_true (by dsimp only; omega)
        · obtain rfl : n = 27 := by omega
          rw [numB_27]; exact decide_eq_true (by dsimp only; omega)
    · by_cases hs : srcB n = true
      · have hs2 := of_decide_eq_true hs
        have hk := k_0r n hn2 (by omega)
        refine key _ _ (plM t x m z p).2 (show oneM t n z (plM t x m z p) = _ by unfold oneM; rw [if_pos hs]) ?_ ?_ oOK_no (by rw [sSz_n (by omega) (hfr (by decide))]; exact hpl z) (f26 (by decide))
        · rcases (hpk z).1 with e | e <;> rw [e]
          · exact hk.1
          · exact hk.2
        · by_cases h16 : n ≤ 16
          · exact numB_t (by omega)
          · rw [numB_fl (by omega), (hpk z).2.1]; exact fitB_0 (.inr (.inr (.inl rfl)))
      · have hs2 := of_decide_eq_false (by rw [Bool.not_eq_true] at hs; exact hs)
        by_cases h10 : n = 10
        · subst h10
          have hk := k_ri 10 hn2 (by omega)
          refine key _ _ _ (show oneM t 10 z (plM t x m z p) = (_, immD (rdS t (imin 4 z) (plM t x m z p).2), adv t (imin 4 z) (plM t x m z p).2) from rfl) ?_ ?_ (hpl z) oOK_imm (f26 (by decide))
          · rcases (hpk z).1 with e | e <;> rw [e]
            · exact hk.1
            · exact hk.2
          · rw [numB_a (by omega)]; exact fitB_rd (hP (by omega)) _
        · have hk := k_r0 n hn2 (by omega)
          refine key _ _ (plM t x m z p).2 (show oneM t n z (plM t x m z p) = _ by unfold oneM; rw [if_neg hs, if_neg (by omega)]) ?_ (numB_t (by omega)) (hpl z) oOK_no (f26 (by decide))
          rcases (hpk z).1 with e | e <;> rw [e]
          · exact hk.1
          · exact hk.2
    · have z8 : z = 8 := V.ve (by omega)
      have hr : oOK x z (regD (b % 8 + extM x 0)) := oOK_low (by omega) (by omega) (by omega) (.inl (by omega))
      by_cases h29 : n = 29
      · subst h29
        refine key _ _ p rfl (k_0r 29 (by decide) (by decide)).1 (by rw [numB_fl (by omega)]; exact fitB_0 (.inr (.inr (.inl rfl)))) oOK_no (by rw [sSz_n (by omega) (hfr (by decide))]; exact hr) (f26 (by decide))
      · obtain rfl : n = 30 := by omega
        exact key _ _ p rfl (k_r0 30 (by decide) (by decide)).1 (numB_t (by omega)) hr oOK_no (f26 (by decide))
    · obtain rfl : n = 9 := by omega
      refine key _ _ _ rfl (k_ri 9 (by decide) (by decide)).1 ?_ (oOK_reg (by omega) (by omega) (by omega)) oOK_imm (f26 (by decide))
      rw [numB_9]
      by_cases z8 : z = 8
      · rw [Bool.or_eq_true]; exact .inl (decide_eq_true ⟨z8, rfl⟩)
      · show (_ || fitB (rdS t z p) z) = true
        have e : imin 4 z = z := by have := hP (by decide); unfold sizeP at this; rcases this with rfl | rfl | rfl | rfl <;> first | rfl | exact absurd rfl z8
        have := fitB_rd (t := t) (hP (by decide)) p
        rw [e] at this
        rw [this, Bool.or_true]
  · unfold tabP3 at T
    rcases T with ⟨rfl, T⟩ | ⟨rfl, T⟩ | ⟨rfl, T⟩ | ⟨rfl, T⟩ | ⟨T', T⟩
    · refine key _ _ _ rfl (k_0i n hn2 (by omega)) ?_ oOK_no oOK_imm (f26 (by decide))
      rw [numB_fl (by omega)]; exact fitB_rd1 (.inr (.inr (.inl rfl))) _
    · by_cases h44 : n = 44
      · subst h44
        have hr := rdU1_range t p hp
        refine key _ _ _ rfl (k_0i 44 hn2 (by omega)) ?_ oOK_no oOK_imm (f26 (by decide))
        rw [numB_44]; exact decide_eq_true (by show 0 ≤ rdU t 1 p ∧ rdU t 1 p ≤ 255; omega)
      · obtain rfl : n = 29 := by omega
        refine key _ _ _ rfl (k_0i 29 hn2 (by omega)) ?_ oOK_no oOK_imm (f26 (by decide))
        rw [numB_fl (by omega)]; exact fitB_rd1 (.inr (.inr (.inl rfl))) _
    · refine key _ _ _ rfl (k_0i n hn2 (by omega)) ?_ oOK_no oOK_imm (f26 (by decide))
      rw [numB_fl (by omega)]; exact fitB_rd (z := 4) (.inr (.inr (.inl rfl))) _
    · refine key _ _ _ rfl (k_0i n hn2 (by omega)) ?_ oOK_no oOK_imm (f26 (by decide))
      rw [numB_fl (by omega)]; exact fitB_rd (z := 4) (.inr (.inr (.inl rfl))) _
    · have hk := k_ri n hn2 (by omega)
      have hkr := k_sh n hn2 (by omega) (by omega)
      rcases T' with rfl | rfl | rfl
      · have hr := rdU1_range t (plM t x m z p).2 (plM_in hp)
        refine key _ _ _ rfl ?_ ?_ (hpl z) oOK_imm (f26 (by decide))
        · rcases (hpk z).1 with e | e <;> rw [e]
          · exact hk.1
          · exact hk.2
        · rw [numB_sh (by omega)]
          refine decide_eq_true ⟨fun g => ?_, ?_⟩
          · exact absurd g.1 (by show ¬ (3 : Int) = 1; decide)
          · show 0 ≤ rdU t 1 _ ∧ rdU t 1 _ ≤ 255; omega
      · refine key _ _ _ rfl ?_ ?_ (hpl z) oOK_imm (f26 (by decide))
        · rcases (hpk z).1 with e | e <;> rw [e]
          · exact hk.1
          · exact hk.2
        · rw [numB_sh (by omega)]
          exact decide_eq_true ⟨fun g => absurd g.1 (by show ¬ (3 : Int) = 1; decide), by show (0 : Int) ≤ 1 ∧ (1 : Int) ≤ 255; decide⟩
      · refine key _ _ _ rfl ?_ ?_ (hpl z) (by rw [sSz_8 (by omega)]; exact oOK_low (by decide) (by decide) (by omega) (.inl (by decide))) (f26 (by decide))
        · rcases (hpk z).1 with e | e <;> rw [e]
          · exact hkr.1
          · exact hkr.2
        · rw [numB_sh (by omega)]
          exact decide_eq_true ⟨fun g => absurd rfl g.2, by show (0 : Int) ≤ 0 ∧ (0 : Int) ≤ 255; decide⟩
  · unfold tabP4 at T
    obtain ⟨rfl, T⟩ := T
    exact key _ _ p rfl (k_00 n hn2 (by omega)) (numB_t (by omega)) oOK_no oOK_no (f26 (by decide))
/-- What is read is an instruction that can be written. -/
theorem dec_insP {at0 e : Int} (h0 : 0 ≤ at0) (h1 : at0 ≤ t.length) (h : (oM t (.ok at0)).2.2 = .ok e) :
    ∃ n : Nat, 1 ≤ n ∧ n < 45 ∧ (decM t at0).1.op = n ∧ insP (decM t at0).1 n ∧ (decM t at0).2 = 0 ∧ (decM t at0).1.len = e - at0 ∧ 1 ≤ e - at0 ∧ e ≤ t.length := by
  have hq : Pos.In (.ok at0) t := fun a ha => by cases ha; exact ⟨h0, h1⟩
  obtain ⟨hT, hbad⟩ := dec_facts hq h
  have ho := opM_range hq
  have hb := bM_range hq
  have hm := mM_range hq
  have hl := decLen h0 h1 h
  obtain ⟨n, hn⟩ := Int.eq_ofNat_of_zero_le ho.1
  have hT1 := (of_decide_eq_true hT).1
  have hn1 : 1 ≤ n := by
    unfold tabP1 tabP2 tabP3 tabP4 at hT1
    omega
  rw [decM_ok h]
  refine ⟨n, hn1, by omega, hn, ?_, rfl, rfl, by omega, hl.2.2⟩
  have hp9 : (p9M t (.ok at0)).In t := p9M_in hq
  unfold oM
  rw [hn] at hT hbad ⊢
  refine ops_insP hp9 hn1 (by omega) hT ?_ hm.1 hm.2 hbad (by omega) ?_ ?_
  · unfold zsM; rw [hn]; exact szV ..
  · unfold cdM; split <;> omega
  · unfold cdM; rw [hn]; split <;> omega
def Ne0 (p : Pos) : Prop := ∀ c, p = .error c → c ≠ 0
theorem adv_ne {n : Int} {p : Pos} (h : Ne0 p) : Ne0 (adv t n p) := fun c hc => by
  cases p with
  | error k => cases hc; exact h _ rfl
  | ok b =>
    unfold adv exb at hc
    dsimp only at hc
    split at hc
    · cases hc
    · cases hc; decide
theorem exb_ne {p : Pos} {q : Int → Prop} [DecidablePred q] {k : Int} (h : Ne0 p) (hk : (∃ a, q a) → k ≠ 0) : Ne0 (exb p fun a => if q a then .error k else .ok a) := fun c hc => by
  cases p with
  | error k => cases hc; exact h _ rfl
  | ok b =>
    unfold exb at hc
    dsimp only at hc
    split at hc
    · rename_i g; cases hc; exact hk ⟨b, g⟩
    · cases hc
theorem dspP_ne {w : Int} {p : Pos} (h : Ne0 p) : Ne0 (dspP t w p) := by
  unfold dspP; split
  · exact h
  · exact adv_ne h
theorem plM_ne {x m z : Int} {p : Pos} (h : Ne0 p) : Ne0 (plM t x m z p).2 := by
  unfold plM memM
  split
  · exact h
  · split
    · exact dspP_ne (adv_ne h)
    · split
      · exact dspP_ne (w := 4) h
      · exact dspP_ne h
theorem opsM_ne {f frm op z x b m : Int} {p : Pos} (h : Ne0 p) : Ne0 (opsM t f frm op z x b m p).2.2 := by
  unfold opsM
  by_cases f1 : f = 1
  · rw [if_pos f1]
    exact plM_ne h
  rw [if_neg f1]
  by_cases f2 : f = 2
  · rw [if_pos f2]
    exact plM_ne h
  rw [if_neg f2]
  by_cases f17 : f = 17
  · rw [if_pos f17]
    exact plM_ne h
  rw [if_neg f17]
  by_cases f3 : f = 3
  · rw [if_pos f3]
    exact adv_ne h
  rw [if_neg f3]
  by_cases f4 : f = 4
  · rw [if_pos f4]
    exact adv_ne (plM_ne h)
  rw [if_neg f4]
  by_cases f5 : f = 5
  · rw [if_pos f5]
    exact adv_ne (plM_ne h)
  rw [if_neg f5]
  by_cases f6 : f = 6
  · rw [if_pos f6]
    unfold oneM
    cases srcB op
    · rw [if_neg (by decide)]
      by_cases ho : op = 10
      · rw [if_pos ho]
        exact adv_ne (plM_ne h)
      · rw [if_neg ho]
        exact plM_ne h
    · rw [if_pos rfl]
      exact plM_ne h
  rw [if_neg f6]
  by_cases f7 : f = 7
  · rw [if_pos f7]
    by_cases ho : op = 29
    · rw [if_pos ho]
      exact h
    · rw [if_neg ho]
      exact h
  rw [if_neg f7]
  by_cases f8 : f = 8
  · rw [if_pos f8]
    exact adv_ne h
  rw [if_neg f8]
  by_cases f9 : f = 9
  · rw [if_pos f9]
    exact adv_ne h
  rw [if_neg f9]
  by_cases f15 : f = 15
  · rw [if_pos f15]
    exact adv_ne h
  rw [if_neg f15]
  by_cases f10 : f = 10 ∨ f = 16
  · rw [if_pos f10]
    exact adv_ne h
  rw [if_neg f10]
  by_cases f11 : f = 11
  · rw [if_pos f11]
    exact adv_ne (plM_ne h)
  rw [if_neg f11]
  by_cases f12 : f = 12
  · rw [if_pos f12]
    exact plM_ne h
  rw [if_neg f12]
  by_cases f13 : f = 13
  · rw [if_pos f13]
    exact plM_ne h
  rw [if_neg f13]
  exact h
theorem p9_ne {q : Pos} (h : Ne0 q) : Ne0 (p9M t q) := by
  refine exb_ne (q := fun _ => badM (wdM t q) (zM t q).2.2.2.1 (zM t q).2.2.2.2.1 (opM t q) (zsM t q) (mM t q) ≠ 0) (exb_ne (q := fun _ => grpB (zM t q) = true ∧ opM t q = 0) ?_ (fun _ => by decide)) (fun ⟨_, g⟩ => g)
  have h1 : Ne0 (p1M t q) := by unfold p1M; split; exact adv_ne h; exact h
  have h2 : Ne0 (p2M t q) := exb_ne (q := fun _ => pkB t (p1M t q) ∈ pfxL) h1 (fun _ => by decide)
  have h3 : Ne0 (p3M t q) := by unfold p3M; split; exact adv_ne h2; exact h2
  have h5 : Ne0 (p5M t q) := by unfold p5M; split; exact adv_ne (adv_ne h3); exact adv_ne h3
  have h6 : Ne0 (p6M t q) := exb_ne (q := fun _ => (zM t q).2.1 = 0) h5 (fun _ => by decide)
  unfold p7M; split; exact adv_ne h6; exact h6
theorem decM_dis {at0 : Int} (h0 : 0 ≤ at0) (h1 : at0 ≤ t.length) : ((∃ n : Nat, 1 ≤ n ∧ n < 45 ∧ (decM t at0).1.op = n ∧ insP (decM t at0).1 n) ∧ (decM t at0).2 = 0 ∧ 1 ≤ (decM t at0).1.len ∧ at0 + (decM t at0).1.len ≤ t.length) ∨ ((decM t at0).1 = dfltI ∧ (decM t at0).2 ≠ 0) := by
  cases h : (oM t (.ok at0)).2.2 with
  | ok e =>
    obtain ⟨n, a1, a2, a3, a4, a5, a6, a7, a8⟩ := dec_insP h0 h1 h
    exact .inl ⟨⟨n, a1, a2, a3, a4⟩, a5, by omega, by omega⟩
  | error c =>
    have hne : c ≠ 0 := opsM_ne (p9_ne (t := t) (q := .ok at0) (fun c hc => by cases hc)) c h
    have e : decM t at0 = (dfltI, c) := by unfold decM; rw [h]
    rw [e]
    exact .inr ⟨rfl, hne⟩
end
end Go.Den.G
namespace Go.Den.G
open Go.Den
set_option maxRecDepth 100000
instance decI64 (n : Int) : Decidable (I64 n) := by unfold I64; infer_instance
section
variable {t : List UInt8}
theorem rdU_I64 (n : Int) (p : Pos) : I64 (rdU t n p) := by
  unfold rdU
  cases p with
  | error _ => show I64 0; decide
  | ok a =>
    dsimp only
    split
    · exact lw_range t a n
    · decide
theorem rdS_I64 (n : Int) (h : n ≤ 8) (p : Pos) : I64 (rdS t n p) := sx_range _ (by omega) _
theorem opsM_imm {f frm op z x b m : Int} {p : Pos} (hz : z ≤ 8) : I64 (opsM t f frm op z x b m p).1.imm ∧ I64 (opsM t f frm op z x b m p).2.1.imm := by
  have i0 : I64 0 := by decide
  have pl : ∀ z, I64 (plM t x m z p).1.imm := fun z => by rw [(plM_kind t x m z p).2.1]; decide
  have h4 : imin 4 z ≤ 8 := by unfold imin; split <;> omega
  have rs : ∀ (n : Int), n ≤ 8 → ∀ q, I64 (rdS t n q) := fun n h q => rdS_I64 n h q
  have ru : ∀ q, I64 (rdU t 1 q) := rdU_I64 1
  unfold opsM
  by_cases f1 : f = 1
  · rw [if_pos f1]
    exact ⟨(pl z), i0⟩
  rw [if_neg f1]
  by_cases f2 : f = 2
  · rw [if_pos f2]
    exact ⟨i0, (pl z)⟩
  rw [if_neg f2]
  by_cases f17 : f = 17
  · rw [if_pos f17]
    exact ⟨i0, (pl frm)⟩
  rw [if_neg f17]
  by_cases f3 : f = 3
  · rw [if_pos f3]
    exact ⟨i0, rs _ (by omega) _⟩
  rw [if_neg f3]
  by_cases f4 : f = 4
  · rw [if_pos f4]
    exact ⟨(pl z), rs _ (by omega) _⟩
  rw [if_neg f4]
  by_cases f5 : f = 5
  · rw [if_pos f5]
    exact ⟨(pl z), rs _ (by omega) _⟩
  rw [if_neg f5]
  by_cases f6 : f = 6
  · rw [if_pos f6]
    unfold oneM
    cases srcB op
    · rw [if_neg (by decide)]
      by_cases ho : op = 10
      · rw [if_pos ho]
        exact ⟨(pl z), rs _ (by omega) _⟩
      · rw [if_neg ho]
        exact ⟨(pl z), i0⟩
    · rw [if_pos rfl]
      exact ⟨i0, (pl z)⟩
  rw [if_neg f6]
  by_cases f7 : f = 7
  · rw [if_pos f7]
    by_cases ho : op = 29
    · rw [if_pos ho]
      exact ⟨i0, i0⟩
    · rw [if_neg ho]
      exact ⟨i0, i0⟩
  rw [if_neg f7]
  by_cases f8 : f = 8
  · rw [if_pos f8]
    exact ⟨i0, rs _ (by omega) _⟩
  rw [if_neg f8]
  by_cases f9 : f = 9
  · rw [if_pos f9]
    exact ⟨i0, rs _ (by omega) _⟩
  rw [if_neg f9]
  by_cases f15 : f = 15
  · rw [if_pos f15]
    refine ⟨i0, ?_⟩
    show I64 (if op = 44 then rdU t 1 p else rdS t 1 p)
    split
    · exact ru _
    · exact rs _ (by omega) _
  rw [if_neg f15]
  by_cases f10 : f = 10 ∨ f = 16
  · rw [if_pos f10]
    exact ⟨i0, rs _ (by omega) _⟩
  rw [if_neg f10]
  by_cases f11 : f = 11
  · rw [if_pos f11]
    exact ⟨(pl z), ru _⟩
  rw [if_neg f11]
  by_cases f12 : f = 12
  · rw [if_pos f12]
    exact ⟨(pl z), by show I64 1; decide⟩
  rw [if_neg f12]
  by_cases f13 : f = 13
  · rw [if_pos f13]
    exact ⟨(pl z), i0⟩
  rw [if_neg f13]
  exact ⟨i0, i0⟩
theorem dec_imm (at0 : Int) : I64 (decM t at0).1.dst.imm ∧ I64 (decM t at0).1.src.imm := by
  have hz : zsM t (.ok at0) ≤ 8 := by
    unfold zsM szM
    (repeat' split) <;> decide
  have h := opsM_imm (t := t) (f := (zM t (.ok at0)).2.1) (frm := (zM t (.ok at0)).2.2.2.2.1) (op := opM t (.ok at0)) (x := xM t (.ok at0)) (b := bM t (.ok at0)) (m := mM t (.ok at0)) (p := p9M t (.ok at0)) hz
  unfold decM
  split
  · exact h
  · exact ⟨(by decide : I64 0), (by decide : I64 0)⟩
end
end Go.Den.G
namespace Go.Den.G
open Go.Den

/-! ### flags -/
/-! ### bytes in hex -/
def hexD : List UInt8 := [48, 49, 50, 51, 52, 53, 54, 55, 56, 57, 97, 98, 99, 100, 101, 102]
def hexI (s : List UInt8) : List Int := s.flatMap fun b => [byteAt hexD (b.toNat / 16 : Nat), byteAt hexD (b.toNat % 16 : Nat)]
theorem byte_bits : ∀ n : Nat, n < 256 → ishr .u8 (n : Int) 4 = ((n / 16 : Nat) : Int) ∧ iand .u8 (n : Int) 15 = ((n % 16 : Nat) : Int) ∧ quoI .u8 (n : Int) 16 = ((n / 16 : Nat) : Int) ∧ remI (n : Int) 16 = ((n % 16 : Nat) : Int) := by decide +kernel
theorem hexI_len (s : List UInt8) : (hexI s).length = 2 * s.length := by
  unfold hexI
  induction s with
  | nil => rfl
  | cons b r ih => rw [List.flatMap_cons, List.length_append, ih]; simp; omega
theorem byteAt_get {s : List UInt8} {i : Nat} (h : i < s.length) : byteAt s (i : Int) = (s[i].toNat : Int) := by simp [byteAt, h]
theorem hexI_take {s : List UInt8} {i : Nat} (h : i < s.length) : hexI (s.take (i + 1)) = hexI (s.take i) ++ [byteAt hexD (s[i].toNat / 16 : Nat), byteAt hexD (s[i].toNat % 16 : Nat)] := by
  unfold hexI
  rw [List.take_succ_eq_append_getElem h, List.flatMap_append]
  simp
theorem smallF2 {α β : Type} {xs : List α} {ys : List β} (h1 : xs.length ≤ 5000) (h2 : ys.length ≤ 5000) : fits2 xs ys = true := fits2_t (by omega)
theorem l01Hex_eq {s : List UInt8} (hs : s.length ≤ 1000) : S_spec_l01Hex ((s, ()), ()) = some (toStr (hexI s), ()) := by
  unfold S_spec_l01Hex
  dsimp only
  refine (Ret.iter (fun y => ∃ i : Nat, i ≤ s.length ∧ y = ((s, ((i : Int), ())), (hexI (s.take i), ()))) (fun y => (s.length : Int).toNat - y.1.2.1.toNat) ?_ F _ ⟨0, by omega, rfl⟩ (by unfold F; simp; omega)).eq
  rintro _ rec ⟨i, hi, rfl⟩ hrec
  dsimp only
  by_cases h : i < s.length
  · have hb := byteAt_get h
    have hlt := s[i].toNat_lt
    obtain ⟨g1, g2, g3, g4⟩ := byte_bits s[i].toNat hlt
    rw [br_pos (lt_t (by unfold lenL; omega)), br_pos (by simp [inR, lenL]; omega), br_pos (show notB (eqI 16 0) = true by decide), hb, g3, g4]
    rw [br_pos (by simp [inR]; omega), br_pos (by simp [inR, lenL]; omega), br_pos (show notB (eqI 16 0) = true by decide), br_pos (by simp [inR]; omega)]
    have hl := hexI_len (s.take i)
    rw [br_pos (smallF2 (by rw [hl, List.length_take]; omega) (by simp))]
    rw [addI_id (by omega) (by omega)]
    refine hrec _ ⟨i + 1, by omega, ?_⟩ (by simp; omega)
    rw [hexI_take h]
    simp [appL, hexD]
  · rw [br_neg (lt_f (by unfold lenL; omega)), List.take_of_length_le (by omega)]
    exact Ret.some rfl
theorem hexText_eq {s : List UInt8} (hs : s.length ≤ 1000) : S_impl_hexText ((s, ()), ()) = some (toStr (hexI s), ()) := by
  unfold S_impl_hexText
  dsimp only
  have hm : mulI .i64 2 (lenL s) = 2 * s.length := by unfold lenL; exact mulI_id (by omega) (by omega)
  rw [hm, br_pos (by simp [inC]; omega), br_pos (by unfold inLim; exact decide_eq_true (by unfold lim; omega))]
  refine (Ret.iter (fun y => ∃ i : Nat, i ≤ s.length ∧ y = ((s, ((lenL s), ((i : Int), ()))), (hexI (s.take i), ()))) (fun y => (s.length : Int).toNat - y.1.2.2.1.toNat) ?_ F _ ⟨0, by omega, rfl⟩ (by unfold F; simp; omega)).eq
  rintro _ rec ⟨i, hi, rfl⟩ hrec
  dsimp only
  by_cases h : i < s.length
  · have hb := byteAt_get h
    have hlt := s[i].toNat_lt
    obtain ⟨g1, g2, g3, g4⟩ := byte_bits s[i].toNat hlt
    rw [br_pos (lt_t (by unfold lenL; omega)), br_pos (by simp [inR, lenL]; omega), br_pos (show leI 0 4 = true by decide), hb, g1, g2]
    rw [br_pos (by simp [inR]; omega), br_pos (by simp [inR, lenL]; omega), br_pos (by simp [inR]; omega)]
    have hl := hexI_len (s.take i)
    rw [br_pos (smallF2 (by rw [hl, List.length_take]; omega) (by simp))]
    rw [addI_id (by omega) (by omega)]
    refine hrec _ ⟨i + 1, by omega, ?_⟩ (by simp; omega)
    rw [hexI_take h]
    simp [appL, hexD]
  · rw [br_neg (lt_f (by unfold lenL; omega)), List.take_of_length_le (by omega)]
    exact Ret.some rfl
end Go.Den.G
namespace Go.Den.G
open Go.Den

/-! ### what a law marks, and finds again -/
theorem drop_cons2 {α : Type} {l : List α} {i : Nat} (h : i < l.length) : l.drop i = l[i] :: l.drop (i + 1) := List.drop_eq_getElem_cons h
theorem eqStringS_refl (l : List (List UInt8)) (hl : l.length ≤ 1073741824) : S_laws_eqStringS ((l, (l, ())), ()) = some (true, ()) := by
  unfold S_laws_eqStringS
  dsimp only
  rw [br_neg (by simp [eqI, notB])]
  refine iter_eq (fun x => x.1.1 = l ∧ x.1.2.1 = l ∧ 0 ≤ x.1.2.2.1 ∧ x.1.2.2.1 ≤ (l.length : Int)) (fun x => ((l.length : Int) - x.1.2.2.1).toNat) (fun _ => some (true, ())) ?_ F _ ⟨rfl, rfl, Int.le_refl 0, by show (0 : Int) ≤ _; omega⟩ (by show ((l.length : Int) - 0).toNat < F; unfold F; omega)
  rintro ⟨⟨a, b, i, _⟩, _⟩ rec ⟨ha, hb, h0, h1⟩ hrec
  dsimp only at ha hb h0 h1 hrec hl ⊢
  rw [ha, hb]
  obtain ⟨j, rfl⟩ := Int.eq_ofNat_of_zero_le h0
  simp only [lenL_nat]
  by_cases hi : j < l.length
  · rw [br_pos (lt_t (by omega)), br_pos (inR_t h0 (by omega)), br_pos (inR_t h0 (by omega)), br_neg (by simp [eqS, notB]), add_id (by unfold I64; omega)]
    exact hrec _ ⟨rfl, rfl, by dsimp only; omega, by dsimp only; omega⟩ (by dsimp only; omega)
  · rw [br_neg (lt_f (by omega))]
theorem markText_ok (n : Int) (h0 : 1 ≤ n) (h1 : n ≤ 274877906944) : ∃ t, S_laws_markText ((n, ()), ()) = some (t, ()) := by
  unfold S_laws_markText
  dsimp only
  rw [br_neg (le_f (by omega))]
  refine iter_ind (fun x => 0 ≤ x.1.1 ∧ (x.1.2.1.length : Int) + x.1.1 ≤ n) (fun x => x.1.1.toNat) (fun _ r => ∃ t, r = some (t, ())) ?_ F _ ⟨by show (0 : Int) ≤ n; omega, by show ((0 : Nat) : Int) + n ≤ n; omega⟩ (by show n.toNat < F; unfold F; omega)
  rintro ⟨⟨x, s, _⟩, _⟩ rec ⟨h2, h3⟩ hrec
  dsimp only at h2 h3 hrec ⊢
  by_cases hx : 0 < x
  · have hq : quoI .i64 x 10 = x / 10 := by
      unfold quoI
      rw [Int.tdiv_eq_ediv_of_nonneg h2]
      exact wrap64_id (by unfold I64; omega)
    rw [br_pos (lt_t hx), br_pos (by unfold fits2 lim toStr; simp; omega), hq]
    exact hrec _ ⟨by dsimp only; omega, by dsimp only; unfold appL toStr; simp; omega⟩ (by dsimp only; omega)
  · rw [br_neg (lt_f hx), br_pos (by unfold fits2 lim; simp; omega)]
    exact ⟨_, rfl⟩
noncomputable def mt (n : Int) : List UInt8 := match S_laws_markText ((n, ()), ()) with
  | some x => x.1
  | none => []
theorem markText_eq (n : Int) (h0 : 1 ≤ n) (h1 : n ≤ 274877906944) : S_laws_markText ((n, ()), ()) = some (mt n, ()) := by
  obtain ⟨t, h⟩ := markText_ok n h0 h1
  unfold mt; rw [h]
noncomputable def mts (m : Int) (n : Nat) : List (List UInt8) := (List.range n).map fun i => mt (m + (i : Nat))
theorem mts_len (m : Int) (n : Nat) : (mts m n).length = n := by simp [mts]
theorem markStringS_eq (m : Int) (l : List (List UInt8)) (h0 : 1 ≤ m) (h1 : m ≤ 137438953472) (hl : l.length ≤ 1073741824) :
    S_laws_markStringS ((m, ()), (l, ())) = some (m + l.length, (mts m l.length, ())) := by
  unfold S_laws_markStringS
  refine iter_eq (fun x => 0 ≤ x.1.2.1 ∧ x.1.2.1 ≤ (l.length : Int) ∧ x.1.1 = m + x.1.2.1 ∧ x.2.1 = mts m x.1.2.1.toNat ++ l.drop x.1.2.1.toNat) (fun x => ((l.length : Int) - x.1.2.1).toNat)
    (fun _ => some (m + l.length, (mts m l.length, ()))) ?_ F _ ⟨Int.le_refl 0, by show (0 : Int) ≤ _; omega, by show m = m + 0; omega, by show l = mts m 0 ++ l.drop 0; simp [mts]⟩ (by show ((l.length : Int) - 0).toNat < F; unfold F; omega)
  rintro ⟨⟨q, i, _⟩, a, _⟩ rec ⟨h2, h3, h4, h5⟩ hrec
  dsimp only at h2 h3 h4 h5 hrec ⊢
  obtain ⟨j, rfl⟩ := Int.eq_ofNat_of_zero_le h2
  simp only [Int.toNat_natCast] at h5
  have hlen : a.length = l.length := by rw [h5, List.length_append, mts_len, List.length_drop]; omega
  simp only [lenL_nat, hlen]
  by_cases hi : j < l.length
  · rw [br_pos (lt_t (by omega)), markText_eq q (by omega) (by omega), bnd_s, br_pos (inR_t h2 (by omega)), add_id (by unfold I64; omega), add_id (by unfold I64; omega)]
    refine hrec _ ⟨by dsimp only; omega, by dsimp only; omega, by dsimp only; omega, ?_⟩ (by dsimp only; omega)
    dsimp only
    rw [show ((j : Int) + 1).toNat = j + 1 by omega, h5, drop_cons2 hi]
    unfold setL
    rw [Int.toNat_natCast, List.set_append, if_neg (by rw [mts_len]; omega), mts_len, Nat.sub_self, List.set_cons_zero]
    unfold mts
    rw [List.range_succ, List.map_append, h4]
    simp
  · rw [br_neg (lt_f (by omega))]
    have : j = l.length := by omega
    subst this
    rw [h4, h5]; simp
theorem heldStringS_eq (m : Int) (n : Nat) (h0 : 1 ≤ m) (h1 : m ≤ 137438953472) (hl : n ≤ 1073741824) : S_laws_heldStringS ((mts m n, (m, ())), ()) = some (m + n, ()) := by
  unfold S_laws_heldStringS
  refine iter_eq (fun x => x.1.1 = mts m n ∧ 0 ≤ x.1.2.2.1 ∧ x.1.2.2.1 ≤ (n : Int) ∧ x.1.2.1 = m + x.1.2.2.1) (fun x => ((n : Int) - x.1.2.2.1).toNat)
    (fun _ => some (m + n, ())) ?_ F _ ⟨rfl, Int.le_refl 0, by show (0 : Int) ≤ _; omega, by show m = m + 0; omega⟩ (by show ((n : Int) - 0).toNat < F; unfold F; omega)
  rintro ⟨⟨a, q, i, _⟩, _⟩ rec ⟨h5, h2, h3, h4⟩ hrec
  dsimp only at h2 h3 h4 h5 hrec ⊢
  obtain ⟨j, rfl⟩ := Int.eq_ofNat_of_zero_le h2
  subst h5
  simp only [lenL_nat, mts_len]
  by_cases hi : j < n
  · rw [br_pos (lt_t (by omega)), br_pos (inR_t h2 (by omega)), markText_eq q (by omega) (by omega), bnd_s]
    dsimp only
    have e : getL (mts m n) (j : Int) (dflt .s) = mt q := by
      rw [getL_nat (by rw [mts_len]; exact hi)]
      simp [mts, h4]
    rw [e, br_neg (by simp [eqS, notB]), add_id (by unfold I64; omega), add_id (by unfold I64; omega)]
    exact hrec _ ⟨rfl, by dsimp only; omega, by dsimp only; omega, by dsimp only; omega⟩ (by dsimp only; omega)
  · rw [br_neg (lt_f (by omega)), h4, show (j : Int) = n by omega]
end Go.Den.G
namespace Go.Den.G
open Go.Den
set_option maxRecDepth 100000
/-- Two loops side by side. -/
theorem iter2 {σ α β : Type} {f : (σ → Option α) → σ → Option α} {g : (σ → Option β) → σ → Option β} (I : σ → Prop) (μ : σ → Nat) (R : Option α → Option β → Prop)
    (h : ∀ x r1 r2, I x → (∀ y, I y → μ y < μ x → R (r1 y) (r2 y)) → R (f r1 x) (g r2 x)) : ∀ (n : Nat) (x : σ), I x → μ x < n → R (iter n f x) (iter n g x)
  | 0, x, _, hm => absurd hm (Nat.not_lt_zero _)
  | n + 1, x, hI, hm => h x (iter n f) (iter n g) hI fun y hy hlt => iter2 I μ R h n y hy (by omega)
theorem word_eq : ∀ n : Nat, n < 36 → S_impl_CodeWord (((n : Int), ()), ()) = S_spec_CodeWord (((n : Int), ()), ()) := by decide +kernel
def wordB (n : Nat) : Bool := match S_spec_CodeWord (((n : Int), ()), ()) with
  | some x => decide (x.1.length ≤ 10)
  | none => false
theorem word_len : ∀ n : Nat, n < 36 → wordB n = true := by decide +kernel
theorem word_ex (c : Int) : ∃ w : List UInt8, w.length ≤ 10 ∧ S_impl_CodeWord ((c, ()), ()) = some (w, ()) ∧ S_spec_CodeWord ((c, ()), ()) = some (w, ()) := by
  by_cases h : 0 ≤ c ∧ c ≤ 35
  · obtain ⟨n, rfl⟩ := Int.eq_ofNat_of_zero_le h.1
    have h1 := word_eq n (by omega)
    have h2 := word_len n (by omega)
    unfold wordB at h2
    rw [h1]
    cases hx : S_spec_CodeWord (((n : Int), ()), ()) with
    | none => rw [hx] at h2; cases h2
    | some x => rw [hx] at h2; exact ⟨x.1, of_decide_eq_true h2, rfl, rfl⟩
  · refine ⟨[], by simp, ?_, ?_⟩
    · unfold S_impl_CodeWord
      rw [within_dec, bnd_s, decide_eq_false h]; rfl
    · unfold S_spec_CodeWord
      dsimp only
      by_cases h0 : c < 0
      · rw [lt_t h0]; rfl
      · rw [lt_f h0, le_t (by omega)]; rfl
theorem lines_ex (t : List UInt8) (a : Int) : ∃ (r : List (List UInt8)) (c : Int), r.length ≤ 5000 ∧ S_spec_ListLines ((t, a, ()), ()) = some ((r, c, ()), ()) ∧ S_impl_ListLines ((t, a, ()), ()) = some ((c, ()), r, ()) := by
  unfold S_spec_ListLines S_impl_ListLines
  dsimp only
  rw [lenL_nat]
  by_cases h1 : 65536 < (t.length : Int)
  · rw [lt_t h1]; exact ⟨[], 2, by simp, rfl, rfl⟩
  rw [lt_f h1, br_f, br_f]
  by_cases h2 : 3072 < (t.length : Int)
  · rw [lt_t h2]; exact ⟨[], 8, by simp, rfl, rfl⟩
  rw [lt_f h2, br_f, br_f, l01In_within, within_dec, bnd_s, bnd_s]
  dsimp only
  by_cases h3 : 0 ≤ a ∧ a ≤ 65535
  rotate_left
  · rw [decide_eq_false h3, notB_f]; exact ⟨[], 4, by simp, rfl, rfl⟩
  rw [decide_eq_true h3, notB_t, br_f, br_f]
  have hF : 4000 ≤ F := by unfold F; omega
  generalize F = N at hF ⊢
  suffices hs : ∃ r : List (List UInt8), r.length ≤ 5000 ∧ _ = some ((r, (0 : Int), ()), ()) ∧ _ = some (((0 : Int), ()), r, ()) from by
    obtain ⟨r, x1, x2, x3⟩ := hs; exact ⟨r, 0, x1, x2, x3⟩
  refine iter2 (fun x => ∃ (o : Nat) (acc : List (List UInt8)), o ≤ t.length ∧ acc.length ≤ o ∧ x = ((t, a, (o : Int), ()), acc, ())) (fun x => t.length - x.1.2.2.1.toNat)
    (fun o1 o2 => ∃ r : List (List UInt8), r.length ≤ 5000 ∧ o1 = some ((r, (0 : Int), ()), ()) ∧ o2 = some (((0 : Int), ()), r, ())) ?_ N _ ⟨0, [], by omega, by simp, rfl⟩ (by dsimp only; omega)
  rintro _ r1 r2 ⟨o, acc, ho, hacc, rfl⟩ hrec
  dsimp only at hrec ⊢
  rw [lenL_nat]
  by_cases hlt : (o : Int) < t.length
  rotate_left
  · rw [lt_f hlt, br_f, br_f]; exact ⟨acc, by omega, rfl, rfl⟩
  have E1 := l04Decode_eq (t := t) (at0 := (o : Int)) (by omega) (by omega) (by omega)
  have E2 := decode_eq (t := t) (at0 := (o : Int)) (by omega) (by omega) (by omega)
  have hdis := decM_dis (t := t) (at0 := (o : Int)) (by omega) (by omega)
  have him := dec_imm (t := t) (o : Int)
  generalize decM t (o : Int) = d at E1 E2 hdis him
  obtain ⟨d, k⟩ := d
  dsimp only at E1 E2 hdis him
  rw [lt_t hlt, br_t, br_t, E1, E2, addI_id (by omega) (by omega)]
  have hI : I64 (a + o) := ⟨by omega, by omega⟩
  have hil := itoa_len hI
  have I1 := itoa_eq hI
  have I2 := l00Digits_eq hI
  generalize Go.Lib.itoa (a + o) = D at hil I1 I2
  rw [I1, I2]
  rw [bnd_s, bnd_s, bnd_s, bnd_s]
  dsimp only
  have f1 : fits2 D ([58, 32] : List UInt8) = true := smallF (by omega) (by simp)
  obtain ⟨w, wl, w1, w2⟩ := word_ex k
  rw [f1, br_t, br_t, br_t, bnd_s]
  dsimp only
  rw [w1, w2, bnd_s, bnd_s]
  dsimp only
  have f2 : fits2 (appL D [58, 32]) w = true := smallF (by simp [appL]; omega) (by omega)
  have f3 : ∀ u : List UInt8, fits2 acc [u] = true := fun u => smallF2 (by omega) (by simp)
  rw [f2, br_t, br_t, f3, br_t, br_t]
  rcases hdis with ⟨⟨n, n1, n2, hn, hP⟩, hc, hl1, hl2⟩ | ⟨hd, hc⟩
  rotate_left
  · rw [eq_f hc, notB_f, br_t, br_t]
    exact ⟨acc ++ [appL (appL D [58, 32]) w], by simp; omega, rfl, rfl⟩
  rw [eq_t hc, notB_t, br_f, br_f]
  have hlen := hP.2.1
  have hlen0 := hP.1
  obtain ⟨T, Tl, t1, t2⟩ := text_ex n1 n2 hn hP him.1 him.2
  obtain ⟨L, hL⟩ : ∃ L : Nat, d.len = L := ⟨d.len.toNat, by omega⟩
  rw [hL] at hl1 hl2 hlen ⊢
  rw [addI_id (by omega) (by omega), inC_t (by omega) (by omega), inC_t (by omega) (by omega), br_t, br_t, br_t, br_t]
  have hsl : (dropL (takeL t ((o : Int) + L)) (o : Int)).length ≤ 15 := by unfold dropL takeL; rw [List.length_drop, List.length_take]; omega
  generalize dropL (takeL t ((o : Int) + L)) (o : Int) = S at hsl ⊢
  have hhx : S_impl_HexOf ((S, ()), ()) = some (toStr (hexI S), ()) := by
    unfold S_impl_HexOf
    dsimp only
    rw [lt_f (by rw [lenL_nat]; omega), br_f, hexText_eq (by omega), bnd_s]
  have hxl : (toStr (hexI S)).length ≤ 30 := by rw [toStr_len, hexI_len]; omega
  have hh2 := l01Hex_eq (s := S) (by omega)
  generalize toStr (hexI S) = X at hxl hhx hh2
  rw [hhx, hh2, t1, t2]
  rw [bnd_s, bnd_s, bnd_s, bnd_s]
  dsimp only
  rw [smallF (xs := appL D [58, 32]) (ys := X) (by simp [appL]; omega) (by omega), smallF (xs := appL (appL D [58, 32]) X) (ys := ([32] : List UInt8)) (by simp [appL]; omega) (by simp),
    smallF (xs := appL (appL (appL D [58, 32]) X) [32]) (ys := T) (by simp [appL]; omega) (by omega), br_t, br_t, br_t, br_t, br_t, br_t, f3, br_t, br_t]
  refine hrec _ ⟨o + L, _, by omega, ?_, rfl⟩ (by dsimp only; omega)
  simp [appL]; omega
theorem pure_ListLines (y : VTL.Ty [.str, .int .i64]) (_ : VTL.wf [.str, .int .i64] y) : S_laws_FnExactListLines (y, ()) = some (true, ()) := by
  obtain ⟨t, a, _⟩ := y
  obtain ⟨r, c, hr, e1, e2⟩ := lines_ex t a
  unfold S_laws_FnExactListLines
  dsimp only
  by_cases hl : 1048576 < lenL t
  · rw [lt_t hl, br_t]
  rw [lt_f hl, br_f, e1, e2]
  have heq : S_laws_eqStringS ((r, (r, ())), ()) = some (true, ()) := eqStringS_refl r (by omega)
  have hcc : notB (eqI c c) = false := by simp [eqI, notB]
  have hms := markStringS_eq 1 r (by decide) (by decide) (by omega)
  have hheld := heldStringS_eq 1 r.length (by decide) (by decide) (by omega)
  have hlt : ltI (1 + (r.length : Int)) 0 = false := lt_f (by omega)
  have heq2 : notB (eqI (1 + (r.length : Int)) (1 + (r.length : Int))) = false := by simp [eqI, notB]
  simp only [heq, hcc, hms, hheld, hlt, heq2, bnd_s, notB_t, br_f]
end Go.Den.G
