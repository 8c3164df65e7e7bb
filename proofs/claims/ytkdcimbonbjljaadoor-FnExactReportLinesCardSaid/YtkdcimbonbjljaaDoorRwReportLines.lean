/- The program's ReportLines returns what the reference's returns, for every argument, and hands back memory of its own; the tied card of the law's row. The card speaks of the seat's pruned copy of the project. Conditions: none beyond the statement's own. -/
import Derived.Test.YtkdcimbonbjljaaDoorLkReportLines
import Derived.Test.YtkdcimbonbjljaaDoorPuReportLines
import Derived.Test.YtkdcimbonbjljaaDoorRows
import Derived.WalkKit
import Derived.ProofKit
import Derived.OpenShut
import Derived.ShutString
import Derived.ChangeOld
import Derived.Below
import Derived.SizedLaws
import Derived.Test.YtkdcimbonbjljaaDoorCards
import Derived.Test.YtkdcimbonbjljaaDoorTie
import Derived.SevenTiedAt
import Derived.LaidMore
import Derived.MakeChecks
import Derived.Stop.Joined
namespace Go.Proofs.YtkdcimbonbjljaaDoor.fnExactReportLines
open Go.Den.G Go.ChangeShapes Go.WideShapes Go.ChangeAt Go.RowKit Go.Den Go.Proofs.YtkdcimbonbjljaaDoor.ReportLines
set_option linter.unusedVariables false
theorem own : ownKnob Tryd.prog.godebug = none := by kernel_rfl
theorem laidOut : laidOutB Tryd.prog = true := by kernel_rfl
theorem law_run (y : VTL.Ty [.agg [.list .i, .list .i, .list .i, .int .i64]]) : (gS_laws_FnExactReportLines.sem S_laws_FnExactReportLines).run Unit (VTL.un [.agg [.list .i, .list .i, .list .i, .int .i64]] y) [] (fun r _ => match r with | .bool true => some () | _ => none) = bnd (S_laws_FnExactReportLines (y, ())) (fun z => match AV.bool z.1 with | .bool true => some () | _ => none) := by kernel_rfl
theorem door_met (os : Os) (args : Array Value) : laidMetH Tryd.prog Rows.fnExactReportLinesRow.laid ((World.doorLaid Tryd.prog 600 os).forCall (fun _ _ => 0) ⟨#[], args, []⟩).memory :=
  laidMetH_of_parts3 (fuel := 8) (laidMet_of_run' 8 (by kernel_rfl) (by kernel_rfl)) (by kernel_rfl) (by kernel_rfl)
theorem tab0 : (Rows.laid_internal_strconv_uint64pow10 : DataW Unit) = Go.Lib.tabData .u64 Go.Lib.pow10Tab := by kernel_rfl
set_option maxRecDepth 100000 in
theorem lifted (os : Os) (started : os.Started) (H : Type) (enc : TypeId × Value → H) :
    ReturnsInHanded {} Tryd.checked os 4 .any (fun w args => (Rows.fnExactReportLinesSpec.pre enc Tryd.prog Tryd.f4 [] false w args ∧ laidMetH Tryd.prog Rows.fnExactReportLinesRow.laid w) ∧ sizedMet enc Tryd.prog Tryd.f4 (OpenSpec.ofChange Rows.fnExactReportLinesSpec) false w args) (Rows.fnExactReportLinesSpec.post enc Tryd.prog Tryd.f4 false true false false) := by
  refine returnsInHanded_of_change_and (C := Tryd.checked) (X := fun w _ => laidMetH Tryd.prog Rows.fnExactReportLinesRow.laid w) (fun _ _ _ hh h => h.of_heap hh) own started (by kernel_rfl) Tryd.func4
    (ChangeSpec.witness_shaped (enc := enc) (C := Tryd.checked) (os := os) (X := fun w _ => laidMetH Tryd.prog Rows.fnExactReportLinesRow.laid w) false (World.doorLaid Tryd.prog 600 os) #[.agg #[.slice none 0 0, .slice none 0 0, .slice none 0 0, .int .i64 0]] 8 rfl (World.shaped_of_RefB (by kernel_rfl) (by kernel_rfl)) (by kernel_rfl) (by kernel_rfl) (by kernel_rfl) (door_met os _)) ?_
  intro W base args ds gs before hval0 hW _ _ hL _
  have hL2 : laidMet Tryd.prog Rows.fnExactReportLinesRow.laid W := by rw [← Go.MakeChecks.laidMetH_plain _ _ _ (by kernel_rfl)]; exact hL
  have hLy : Lay.In Ly W (fun c => c < W.heap.size) := (lay_cons (lay_tab (name := "internal/strconv.uint64pow10") (k := .u64) (zs := Go.Lib.pow10Tab) hL2 (by rw [← tab0]; simp [Rows.fnExactReportLinesRow]) (g := 0) (t := 69) (e := 60) (n := 20) (by kernel_rfl) (by kernel_rfl) (by kernel_rfl) (by kernel_rfl) (by kernel_rfl) (by kernel_rfl)) lay_nil)
  have hval : ∀ (j : Nat) t v, Tryd.f4.params[j]? = some t → args[j]? = some v → Value.okWide Tryd.prog W .any base t v := hval0
  have hW' := hW
  obtain ⟨p, q, hA0, hV, rfl, hfz, hnd⟩ := hW
  have hA : DataW.TrodAll enc Tryd.prog W 0 (fun _ => true) true Tryd.f4.params.toList args.toList ds p := hA0
  have hA2 := hA
  rw [Tryd.params4] at hA
  obtain ⟨v0, vs0, d0, ds0, p0, q0, hargs0, rfl, _, h0, r0⟩ := trodAll_cons hA
  obtain ⟨_, rfl, _⟩ := trodAll_nil r0
  obtain ⟨rfl, rfl⟩ := trodVars_none hV
  obtain ⟨y, hy, hwf⟩ := args_read (enc' := enc) (C := cx0 W) tok (fun _ h => h) Tryd.f4.params.toList [.agg [.list .i, .list .i, .list .i, .int .i64]] args.toList _ p (by kernel_rfl) hA2 (fun j t v h1 h2 => hval j t v (by simpa using h1) (by simpa using h2))
  have hrun : (gS_laws_FnExactReportLines.sem S_laws_FnExactReportLines).run Unit (VTL.un [.agg [.list .i, .list .i, .list .i, .int .i64]] y) [] (fun r _ => match r with | .bool true => some () | _ => none) = some () := by rw [law_run, pure_ReportLines y hwf]; rfl
  refine (law_calls Tryd.func4 (by kernel_rfl) (by kernel_rfl) okS_laws_FnExactReportLines rfl hLy hy hrun).mono fun e W' ⟨he, bel⟩ => ?_
  subst he
  exact ⟨_, rfl, _, _, _, [], _, [], hW', trodAll_mk1 (shut_bool Tryd.underlying4 _), args_stay laidOut bel _ _ _ _ (by kernel_rfl) hA2, rfl, bel.frame _, fun h => by cases h⟩
theorem over : Rows.fnExactReportLinesRow.holds Tryd.pinned (OpenSpec.ofChange Rows.fnExactReportLinesSpec) :=
  OpenClaim.holds_of_wide 4 Tryd.f4 rfl rfl rfl rfl rfl rfl rfl ⟨rfl, rfl, rfl, rfl, rfl⟩ rfl rfl rfl rfl rfl (by kernel_rfl) Tryd.func4 (by kernel_rfl)
    (of_decide_eq_true (by kernel_rfl)) (by unfold Func.isWrapper; first | (rw [if_pos (by decide +kernel)]; kernel_rfl) | (rw [if_neg (by decide +kernel)]; exact ⟨rfl, rfl⟩))
    (fun os started H enc _ => lifted os started H enc)
theorem proved : Rows.FnExactReportLinesSaid := over
theorem card : Rows.FnExactReportLinesCardSaid :=
  Claim7.holds_tied_plain_at .later [] [.data, .data, .data] true (true, "d4150273cee66984e195ff78d2dce7516af2c44ffd546570926b35e2bb7944e5") false
    proved (fun _ h => by cases h) (by kernel_rfl) (fun _ h => by cases h) fnExactReportLines_row_tie rfl ⟨rfl, rfl⟩ (by kernel_rfl) rfl
    (fun f fn hf hfn => by
      obtain rfl : f = 4 := Option.some.inj ((show Tryd.prog.funcNamed "loop.example/g00664/laws.FnExactReportLines" = some 4 by kernel_rfl).symm.trans hf) |>.symm
      obtain rfl : fn = Tryd.f4 := (Option.some.inj (Tryd.func4.symm.trans hfn)).symm
      exact ⟨by kernel_rfl, fun j t ht => by
        have h3 : Tryd.f4.params.toList.all (fun t => Tryd.prog.wantsStandIn t == false) = true := by kernel_rfl
        have h4 : t ∈ Tryd.f4.params.toList := by have := List.mem_of_getElem? (i := j) (by simpa using ht : Tryd.f4.params.toList[j]? = some t); exact this
        have h5 := List.all_eq_true.1 h3 t h4
        exact (by simpa using h5 : Tryd.prog.wantsStandIn t = false)⟩)
    (by kernel_rfl)
#print axioms card
end Go.Proofs.YtkdcimbonbjljaaDoor.fnExactReportLines
namespace Go.Proofs.YtkdcimbonbjljaaDoor
/-- The row, under a short name, for the claim. -/
theorem fnExactReportLines_holds : Rows.FnExactReportLinesCardSaid := fnExactReportLines.card
end Go.Proofs.YtkdcimbonbjljaaDoor
