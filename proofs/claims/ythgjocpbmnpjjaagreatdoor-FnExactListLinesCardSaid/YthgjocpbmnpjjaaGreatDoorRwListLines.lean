/- The program's ListLines returns what the reference's returns, for all arguments. Conditions: none beyond the statement's own. -/
import Derived.Test.YthgjocpbmnpjjaaGreatDoorLkListLines
import Derived.Test.YthgjocpbmnpjjaaGreatDoorPuListLines
import Derived.Test.YthgjocpbmnpjjaaGreatDoorRows
import Derived.WalkKit
import Derived.ProofKit
import Derived.OpenShut
import Derived.ShutString
import Derived.ChangeOld
import Derived.Below
import Derived.SizedLaws
import Derived.Test.YthgjocpbmnpjjaaGreatDoorCards
import Derived.Test.YthgjocpbmnpjjaaGreatDoorTie
import Derived.SevenTiedAt
import Derived.LaidMore
import Derived.Lay
import Derived.MakeChecks
import Derived.Stop.Joined
namespace Go.Proofs.YthgjocpbmnpjjaaGreatDoor.fnExactListLines
open Go.Den.G Go.ChangeShapes Go.WideShapes Go.ChangeAt Go.RowKit Go.Den Go.Proofs.YthgjocpbmnpjjaaGreatDoor.ListLines
set_option linter.unusedVariables false
theorem own : ownKnob Tryz.prog.godebug = none := by kernel_rfl
theorem laidOut : laidOutB Tryz.prog = true := by kernel_rfl
theorem law_run (y : VTL.Ty [.str, .int .i64]) : (g101.sem S_laws_FnExactListLines).run Unit (VTL.un [.str, .int .i64] y) [] (fun r _ => match r with | .bool true => some () | _ => none) = bnd (S_laws_FnExactListLines (y, ())) (fun z => match AV.bool z.1 with | .bool true => some () | _ => none) := by kernel_rfl
theorem tab0 : (Rows.laid_internal_strconv_uint64pow10 : DataW Unit) = Go.Lib.tabData .u64 Go.Lib.pow10Tab := by kernel_rfl
set_option maxRecDepth 100000 in
theorem lifted (os : Os) (started : os.Started) (H : Type) (enc : TypeId × Value → H) :
    ReturnsInHanded {} Tryz.checked os 4 .any (fun w args => (Rows.fnExactListLinesSpec.pre enc Tryz.prog Tryz.f4 [] false w args ∧ laidMetH Tryz.prog Rows.fnExactListLinesRow.laid w) ∧ sizedMet enc Tryz.prog Tryz.f4 (OpenSpec.ofChange Rows.fnExactListLinesSpec) false w args) (Rows.fnExactListLinesSpec.post enc Tryz.prog Tryz.f4 false true false false) := by
  refine returns_laid_shaped (C := Tryz.checked) (X := fun w _ => laidMetH Tryz.prog Rows.fnExactListLinesRow.laid w) (fun _ _ _ hh h => h.of_heap hh) own started (by kernel_rfl) Tryz.func4
    (ChangeSpec.witness_shaped (enc := enc) (C := Tryz.checked) (os := os) (X := fun w _ => laidMetH Tryz.prog Rows.fnExactListLinesRow.laid w) false (World.laidAll Tryz.prog os Rows.fnExactListLinesRow.laid) #[.string ByteArray.empty, .int .i64 0] 8 (World.laidAll_os _ _ _) (World.shaped_of_ZipB (by kernel_rfl) (by kernel_rfl)) (by kernel_rfl) (by kernel_rfl) (by kernel_rfl) (by rw [MakeChecks.laidMetH_plain _ _ _ (by kernel_rfl)]; exact laidMet_laidAll _ (by kernel_rfl) (by kernel_rfl))) ?_
  intro W base args ds gs before hval0 hW hL hSh
  have hL2 : laidMet Tryz.prog Rows.fnExactListLinesRow.laid W := by rw [← Go.MakeChecks.laidMetH_plain _ _ _ (by kernel_rfl)]; exact hL
  have hLy : Go.Den.Lay.In Ly W (fun c => c < W.heap.size) := (lay_cons (lay_tab (name := "internal/strconv.uint64pow10") (k := .u64) (zs := Go.Lib.pow10Tab) hL2 (by rw [← tab0]; simp [Rows.fnExactListLinesRow]) (g := 1) (t := 126) (e := 113) (n := 20) (by kernel_rfl) (by kernel_rfl) (by kernel_rfl) (by kernel_rfl) (by kernel_rfl) (by kernel_rfl)) lay_nil)
  have hval : ∀ (j : Nat) t v, Tryz.f4.params[j]? = some t → args[j]? = some v → Value.okWide Tryz.prog W .any base t v := hval0
  have hW' := hW
  obtain ⟨p, q, hA0, hV, rfl, hfz, hnd⟩ := hW
  have hA : DataW.TrodAll enc Tryz.prog W 0 (fun _ => true) true Tryz.f4.params.toList args.toList ds p := hA0
  have hA2 := hA
  rw [Tryz.params4] at hA
  obtain ⟨v0, vs0, d0, ds0, p0, q0, hargs0, rfl, _, h0, r0⟩ := trodAll_cons hA
  obtain ⟨v1, vs1, d1, ds1, p1, q1, hargs1, rfl, _, h1, r1⟩ := trodAll_cons r0
  obtain ⟨_, rfl, _⟩ := trodAll_nil r1
  obtain ⟨rfl, rfl⟩ := trodVars_none hV
  obtain ⟨y, hy, hwf⟩ := args_read (enc' := enc) (C := cx0 W) tok (fun _ h => h) Tryz.f4.params.toList [.str, .int .i64] args.toList _ p (by kernel_rfl) hA2 (fun j t v h1 h2 => hval j t v (by simpa using h1) (by simpa using h2))
  have hrun : (g101.sem S_laws_FnExactListLines).run Unit (VTL.un [.str, .int .i64] y) [] (fun r _ => match r with | .bool true => some () | _ => none) = some () := by rw [law_run, pure_ListLines y hwf]; rfl
  refine (law_calls Tryz.func4 (by kernel_rfl) (by kernel_rfl) o101 rfl hLy hy hrun).mono fun e W' ⟨he, bel⟩ => ?_
  subst he
  exact ⟨_, rfl, _, _, _, [], _, [], hW', trodAll_mk1 (shut_bool Tryz.underlying4 _), args_stay laidOut bel _ _ _ _ (by kernel_rfl) hA2, rfl, bel.frame _, fun h => by cases h⟩
theorem over : Rows.fnExactListLinesRow.holds Tryz.pinned (OpenSpec.ofChange Rows.fnExactListLinesSpec) :=
  OpenClaim.holds_of_wide 4 Tryz.f4 rfl rfl rfl rfl rfl rfl rfl ⟨rfl, rfl, rfl, rfl, rfl⟩ rfl rfl rfl rfl rfl (by kernel_rfl) Tryz.func4 (by kernel_rfl)
    (of_decide_eq_true (by kernel_rfl)) (by unfold Func.isWrapper; first | (rw [if_pos (by decide +kernel)]; kernel_rfl) | (rw [if_neg (by decide +kernel)]; exact ⟨rfl, rfl⟩))
    (fun os started H enc _ => lifted os started H enc)
theorem proved : Rows.FnExactListLinesSaid := over
theorem card : Rows.FnExactListLinesCardSaid :=
  Claim7.holds_tied_plain_at .later [] [.data, .data, .data] true (true, "51be3310fe472d0d38888d005c10e766cea07fdcb354409fba8b029585a4be83") false
    proved (fun _ h => by cases h) (by kernel_rfl) (fun _ h => by cases h) fnExactListLines_row_tie rfl ⟨rfl, rfl⟩ (by kernel_rfl) rfl
    (fun f fn hf hfn => by
      obtain rfl : f = 4 := Option.some.inj ((show Tryz.prog.funcNamed "loop.example/g00664/laws.FnExactListLines" = some 4 by kernel_rfl).symm.trans hf) |>.symm
      obtain rfl : fn = Tryz.f4 := (Option.some.inj (Tryz.func4.symm.trans hfn)).symm
      exact ⟨by kernel_rfl, fun j t ht => by
        have h3 : Tryz.f4.params.toList.all (fun t => Tryz.prog.wantsStandIn t == false) = true := by kernel_rfl
        have h4 : t ∈ Tryz.f4.params.toList := by have := List.mem_of_getElem? (i := j) (by simpa using ht : Tryz.f4.params.toList[j]? = some t); exact this
        have h5 := List.all_eq_true.1 h3 t h4
        exact (by simpa using h5 : Tryz.prog.wantsStandIn t = false)⟩)
    (by kernel_rfl)
#print axioms card
end Go.Proofs.YthgjocpbmnpjjaaGreatDoor.fnExactListLines
namespace Go.Proofs.YthgjocpbmnpjjaaGreatDoor
/-- The row, under a short name, for the claim. -/
theorem fnExactListLines_holds : Rows.FnExactListLinesCardSaid := fnExactListLines.card
end Go.Proofs.YthgjocpbmnpjjaaGreatDoor
