/- FnPerms says yes: a page's rights rule what may be done there. Conditions: none beyond the statement's own. -/
import Derived.Test.YtkdcimbonbjljaaLkPerms
import Derived.Test.YtkdcimbonbjljaaPuPerms
import Derived.Test.YtkdcimbonbjljaaRows
import Derived.WalkKit
import Derived.ProofKit
import Derived.OpenShut
import Derived.ShutString
import Derived.ChangeOld
import Derived.Below
import Derived.SizedLaws
namespace Go.Proofs.Ytkdcimbonbjljaa.fnPerms
open Go.Den.G Go.ChangeShapes Go.WideShapes Go.ChangeAt Go.RowKit Go.Den Go.Proofs.Ytkdcimbonbjljaa.Perms
set_option linter.unusedVariables false
theorem own : ownKnob Try.prog.godebug = none := by kernel_rfl
theorem laidOut : laidOutB Try.prog = true := by kernel_rfl
theorem law_run (y : VTL.Ty [.list .u, .list .u]) : (gS_laws_FnPerms.sem S_laws_FnPerms).run Unit (VTL.un [.list .u, .list .u] y) [] (fun r _ => match r with | .bool true => some () | _ => none) = bnd (S_laws_FnPerms (y, ())) (fun z => match AV.bool z.1 with | .bool true => some () | _ => none) := by kernel_rfl
set_option maxRecDepth 100000 in
theorem lifted (os : Os) (started : os.Started) (H : Type) (enc : TypeId × Value → H) :
    ReturnsInHanded {} Try.checked os 6 .any (Rows.fnPermsSpec.pre6 enc Try.prog Try.f6 Rows.fnPermsRow.domain false) (Rows.fnPermsSpec.post enc Try.prog Try.f6 false true false false) := by
  refine returnsInHanded_of_change_sized (C := Try.checked) own started (by kernel_rfl) Try.func6
    (ChangeSpec.witness6 (enc := enc) (C := Try.checked) false ⟨#[], #[.slice none 0 0, .slice none 0 0], []⟩ 8 (by kernel_rfl) (by kernel_rfl) (by kernel_rfl) (by kernel_rfl)) ?_
  intro W base args ds gs before hval0 hW hcnd hsz0 _
  have hLy : Lay.In Ly W (fun c => c < W.heap.size) := lay_nil
  have hval : ∀ (j : Nat) t v, Try.f6.params[j]? = some t → args[j]? = some v → Value.okWide Try.prog W .any base t v := hval0
  have hW' := hW
  obtain ⟨p, q, hA0, hV, rfl, hfz, hnd⟩ := hW
  have hA : DataW.TrodAll enc Try.prog W 0 (fun _ => true) true Try.f6.params.toList args.toList ds p := hA0
  have hA2 := hA
  rw [Try.params6] at hA
  obtain ⟨v0, vs0, d0, ds0, p0, q0, hargs0, rfl, _, h0, r0⟩ := trodAll_cons hA
  obtain ⟨v1, vs1, d1, ds1, p1, q1, hargs1, rfl, _, h1, r1⟩ := trodAll_cons r0
  obtain ⟨_, rfl, _⟩ := trodAll_nil r1
  obtain ⟨rfl, rfl⟩ := trodVars_none hV
  obtain ⟨y, hy, hwf⟩ := args_read (enc' := enc) (C := cx0 W) tok (fun _ h => h) Try.f6.params.toList [.list .u, .list .u] args.toList _ p (by kernel_rfl) hA2 (fun j t v h1 h2 => hval j t v (by simpa using h1) (by simpa using h2))
  have hrun : (gS_laws_FnPerms.sem S_laws_FnPerms).run Unit (VTL.un [.list .u, .list .u] y) [] (fun r _ => match r with | .bool true => some () | _ => none) = some () := by rw [law_run, pure_Perms y hwf]; rfl
  refine (law_calls Try.func6 (by kernel_rfl) (by kernel_rfl) okS_laws_FnPerms rfl hLy hy hrun).mono fun e W' ⟨he, bel⟩ => ?_
  subst he
  exact ⟨_, rfl, _, _, _, [], _, [], hW', trodAll_mk1 (shut_bool Try.underlying4 _), args_stay laidOut bel _ _ _ _ (by kernel_rfl) hA2, rfl, bel.frame _, fun h => by cases h⟩
theorem over : Rows.fnPermsRow.holds Try.pinned (OpenSpec.ofChange Rows.fnPermsSpec) :=
  OpenClaim.holds_of_wide 6 Try.f6 rfl rfl rfl rfl rfl rfl rfl ⟨rfl, rfl, rfl, rfl, rfl⟩ rfl rfl rfl rfl rfl (by kernel_rfl) Try.func6 (by kernel_rfl)
    (of_decide_eq_true (by kernel_rfl)) (by unfold Func.isWrapper; first | (rw [if_pos (by decide +kernel)]; kernel_rfl) | (rw [if_neg (by decide +kernel)]; exact ⟨rfl, rfl⟩))
    (fun os started H enc _ => lifted os started H enc)
theorem proved : Rows.FnPermsSaid := over
#print axioms proved
end Go.Proofs.Ytkdcimbonbjljaa.fnPerms
namespace Go.Proofs.Ytkdcimbonbjljaa
/-- The row, under a short name, for the claim. -/
theorem fnPerms_holds : Rows.FnPermsSaid := fnPerms.proved
end Go.Proofs.Ytkdcimbonbjljaa
