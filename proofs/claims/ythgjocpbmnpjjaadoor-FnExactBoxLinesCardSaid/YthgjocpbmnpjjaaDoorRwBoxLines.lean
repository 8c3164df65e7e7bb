/- BoxLines returns what the reference returns. Conditions: none beyond the statement's own. -/
import Derived.Test.YthgjocpbmnpjjaaDoorLkBoxLines
import Derived.Test.YthgjocpbmnpjjaaDoorPuBoxLines
import Derived.Test.YthgjocpbmnpjjaaDoorRows
import Derived.WalkKit
import Derived.ProofKit
import Derived.OpenShut
import Derived.ShutString
import Derived.ChangeOld
import Derived.Below
import Derived.SizedLaws
import Derived.Test.YthgjocpbmnpjjaaDoorCards
import Derived.Test.YthgjocpbmnpjjaaDoorTie
import Derived.SevenTiedAt
import Derived.LaidMore
import Derived.Lay
import Derived.MakeChecks
import Derived.Stop.Joined
namespace Go.Proofs.YthgjocpbmnpjjaaDoor.fnExactBoxLines
open Go.Den.G Go.ChangeShapes Go.WideShapes Go.ChangeAt Go.RowKit Go.Den Go.Proofs.YthgjocpbmnpjjaaDoor.BoxLines
set_option linter.unusedVariables false
theorem own : ownKnob Tryd.prog.godebug = none := by kernel_rfl
theorem laidOut : laidOutB Tryd.prog = true := by kernel_rfl
theorem law_run (y : VTL.Ty [.agg [.arr .i 16, .int .i64, .int .i64, .list .page, .int .i64, .int .i64, .str, .int .i64, .str, .int .i64, .int .i64, .int .i64, .int .i64, .int .i64, .int .i64]]) : (g67.sem S_laws_FnExactBoxLines).run Unit (VTL.un [.agg [.arr .i 16, .int .i64, .int .i64, .list .page, .int .i64, .int .i64, .str, .int .i64, .str, .int .i64, .int .i64, .int .i64, .int .i64, .int .i64, .int .i64]] y) [] (fun r _ => match r with | .bool true => some () | _ => none) = bnd (S_laws_FnExactBoxLines (y, ())) (fun z => match AV.bool z.1 with | .bool true => some () | _ => none) := by kernel_rfl
theorem tab0 : (Rows.laid_internal_strconv_uint64pow10 : DataW Unit) = Go.Lib.tabData .u64 Go.Lib.pow10Tab := by kernel_rfl
set_option maxRecDepth 100000 in
theorem lifted (os : Os) (started : os.Started) (H : Type) (enc : TypeId × Value → H) :
    ReturnsInHanded {} Tryd.checked os 4 .any (fun w args => (Rows.fnExactBoxLinesSpec.pre enc Tryd.prog Tryd.f4 [] false w args ∧ laidMetH Tryd.prog Rows.fnExactBoxLinesRow.laid w) ∧ sizedMet enc Tryd.prog Tryd.f4 (OpenSpec.ofChange Rows.fnExactBoxLinesSpec) false w args) (Rows.fnExactBoxLinesSpec.post enc Tryd.prog Tryd.f4 false true false false) := by
  refine returns_laid_shaped (C := Tryd.checked) (X := fun w _ => laidMetH Tryd.prog Rows.fnExactBoxLinesRow.laid w) (fun _ _ _ hh h => h.of_heap hh) own started (by kernel_rfl) Tryd.func4
    (ChangeSpec.witness_shaped (enc := enc) (C := Tryd.checked) (os := os) (X := fun w _ => laidMetH Tryd.prog Rows.fnExactBoxLinesRow.laid w) false (World.laidAll Tryd.prog os Rows.fnExactBoxLinesRow.laid) #[.agg #[.int .i64 0, .int .i64 0, .int .i64 0, .int .i64 0, .int .i64 0, .int .i64 0, .int .i64 0, .int .i64 0, .int .i64 0, .int .i64 0, .int .i64 0, .int .i64 0, .int .i64 0, .int .i64 0, .int .i64 0, .int .i64 0, .int .i64 0, .int .i64 0, .slice none 0 0, .int .i64 0, .int .i64 0, .string ByteArray.empty, .int .i64 0, .string ByteArray.empty, .int .i64 0, .int .i64 0, .int .i64 0, .int .i64 0, .int .i64 0, .int .i64 0]] 8 (World.laidAll_os _ _ _) (World.shaped_of_ZipB (by kernel_rfl) (by kernel_rfl)) (by kernel_rfl) (by kernel_rfl) (by kernel_rfl) (by rw [MakeChecks.laidMetH_plain _ _ _ (by kernel_rfl)]; exact laidMet_laidAll _ (by kernel_rfl) (by kernel_rfl))) ?_
  intro W base args ds gs before hval0 hW hL hSh
  have hL2 : laidMet Tryd.prog Rows.fnExactBoxLinesRow.laid W := by rw [← Go.MakeChecks.laidMetH_plain _ _ _ (by kernel_rfl)]; exact hL
  have hLy : Go.Den.Lay.In Ly W (fun c => c < W.heap.size) := (lay_cons (lay_tab (name := "internal/strconv.uint64pow10") (k := .u64) (zs := Go.Lib.pow10Tab) hL2 (by rw [← tab0]; simp [Rows.fnExactBoxLinesRow]) (g := 0) (t := 171) (e := 139) (n := 20) (by kernel_rfl) (by kernel_rfl) (by kernel_rfl) (by kernel_rfl) (by kernel_rfl) (by kernel_rfl)) lay_nil)
  have hval : ∀ (j : Nat) t v, Tryd.f4.params[j]? = some t → args[j]? = some v → Value.okWide Tryd.prog W .any base t v := hval0
  have hW' := hW
  obtain ⟨p, q, hA0, hV, rfl, hfz, hnd⟩ := hW
  have hA : DataW.TrodAll enc Tryd.prog W 0 (fun _ => true) true Tryd.f4.params.toList args.toList ds p := hA0
  have hA2 := hA
  rw [Tryd.params4] at hA
  obtain ⟨v0, vs0, d0, ds0, p0, q0, hargs0, rfl, _, h0, r0⟩ := trodAll_cons hA
  obtain ⟨_, rfl, _⟩ := trodAll_nil r0
  obtain ⟨rfl, rfl⟩ := trodVars_none hV
  obtain ⟨y, hy, hwf⟩ := args_read (enc' := enc) (C := cx0 W) tok (fun _ h => h) Tryd.f4.params.toList [.agg [.arr .i 16, .int .i64, .int .i64, .list .page, .int .i64, .int .i64, .str, .int .i64, .str, .int .i64, .int .i64, .int .i64, .int .i64, .int .i64, .int .i64]] args.toList _ p (by kernel_rfl) hA2 (fun j t v h1 h2 => hval j t v (by simpa using h1) (by simpa using h2))
  have hrun : (g67.sem S_laws_FnExactBoxLines).run Unit (VTL.un [.agg [.arr .i 16, .int .i64, .int .i64, .list .page, .int .i64, .int .i64, .str, .int .i64, .str, .int .i64, .int .i64, .int .i64, .int .i64, .int .i64, .int .i64]] y) [] (fun r _ => match r with | .bool true => some () | _ => none) = some () := by rw [law_run, pure_BoxLines y hwf]; rfl
  refine (law_calls Tryd.func4 (by kernel_rfl) (by kernel_rfl) o67 rfl hLy hy hrun).mono fun e W' ⟨he, bel⟩ => ?_
  subst he
  exact ⟨_, rfl, _, _, _, [], _, [], hW', trodAll_mk1 (shut_bool Tryd.underlying4 _), args_stay laidOut bel _ _ _ _ (by kernel_rfl) hA2, rfl, bel.frame _, fun h => by cases h⟩
theorem over : Rows.fnExactBoxLinesRow.holds Tryd.pinned (OpenSpec.ofChange Rows.fnExactBoxLinesSpec) :=
  OpenClaim.holds_of_wide 4 Tryd.f4 rfl rfl rfl rfl rfl rfl rfl ⟨rfl, rfl, rfl, rfl, rfl⟩ rfl rfl rfl rfl rfl (by kernel_rfl) Tryd.func4 (by kernel_rfl)
    (of_decide_eq_true (by kernel_rfl)) (by unfold Func.isWrapper; first | (rw [if_pos (by decide +kernel)]; kernel_rfl) | (rw [if_neg (by decide +kernel)]; exact ⟨rfl, rfl⟩))
    (fun os started H enc _ => lifted os started H enc)
theorem proved : Rows.FnExactBoxLinesSaid := over
theorem card : Rows.FnExactBoxLinesCardSaid :=
  Claim7.holds_tied_plain_at .later [] [.data, .data, .data] true (true, "5a3032ab7945ee3c1cf908ae8d09eed8e8b2ed1e264b13ef931f6345718018af") true
    proved (fun _ h => by cases h) (by kernel_rfl) (fun _ h => by cases h) fnExactBoxLines_row_tie rfl ⟨rfl, rfl⟩ (by kernel_rfl) rfl
    (fun f fn hf hfn => by
      obtain rfl : f = 4 := Option.some.inj ((show Tryd.prog.funcNamed "loop.example/g00664/laws.FnExactBoxLines" = some 4 by kernel_rfl).symm.trans hf) |>.symm
      obtain rfl : fn = Tryd.f4 := (Option.some.inj (Tryd.func4.symm.trans hfn)).symm
      exact ⟨by kernel_rfl, fun j t ht => by
        have h3 : Tryd.f4.params.toList.all (fun t => Tryd.prog.wantsStandIn t == false) = true := by kernel_rfl
        have h4 : t ∈ Tryd.f4.params.toList := by have := List.mem_of_getElem? (i := j) (by simpa using ht : Tryd.f4.params.toList[j]? = some t); exact this
        have h5 := List.all_eq_true.1 h3 t h4
        exact (by simpa using h5 : Tryd.prog.wantsStandIn t = false)⟩)
    (by kernel_rfl)
#print axioms card
end Go.Proofs.YthgjocpbmnpjjaaDoor.fnExactBoxLines
namespace Go.Proofs.YthgjocpbmnpjjaaDoor
/-- The row, under a short name, for the claim. -/
theorem fnExactBoxLines_holds : Rows.FnExactBoxLinesCardSaid := fnExactBoxLines.card
end Go.Proofs.YthgjocpbmnpjjaaDoor
