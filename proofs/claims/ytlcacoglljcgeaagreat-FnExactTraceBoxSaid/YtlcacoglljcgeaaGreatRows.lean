/-
  No cell of these rows narrows 'for every input' (looked for: loops, veiled, ifaces, maps, wideKeys, modest, calm, conditions, laid).
  DERIVED. THE GIVEN ROWS OF THIS SEAT. 3 by the template 'for every input the law returns true; each argument reads behind the call as it read before'; 0 by the template 'total and deterministic' (their statements: YtlcacoglljcgeaaGreatTotals.lean).
  GIVEN WITH THE SEED: the statements are not yours to turn. If you find one false, say at which input.
  Laid BY PROGRAM, IN A SANDBOX (cutbox-rows.mjs): the forced cells as the released guide's own fill.sh prints them over the translation 2dc6c7974eb59478… (all of the seat's roots in one cut). By AI agents, Wed Nov 11 2026. No macro, syntax, notation, axiom, sorry.
-/
import Derived.Test.YtlcacoglljcgeaaGreatChecked
import GoSem.Claim
import GoSem.ClaimJoined
import GoSem.ClaimMapViews
import Derived.JoinedTies
import Derived.KernelRfl
namespace Go.Proofs.YtlcacoglljcgeaaGreat
/- THE CELL 'sum', in the pinned program and in every row, IS THE sha256 OF THE DUMP (.gsa) THAT YtlcacoglljcgeaaGreatProg.lean LOADS. Nothing in Lean hashes anything: it is a label: what it is worth is what the hold of that sum in a sandbox is worth. -/
noncomputable def Tryz.pinned : Pinned := { name := "ytlcacoglljcgeaagreat", sum := "2dc6c7974eb5947853e89c66e7c8f968f2091b949221982664fa7175ae46337d", checked := Tryz.checked }
namespace Rows
def none {H : Type} : Left H := { results := [], args := [] }

/-- 'laws.FnExactTraceBox': WHATEVER THE INPUT: true; the input reads as it did. -/
def fnExactTraceBoxSpec : ChangeSpec := { name := "fnExactTraceBox", fn := fun _ => fun
  | [d1, d2] => { results := [.lit (.bool true)], args := [d1, d2] }
  | _ => none }
def fnExactTraceBoxRow : OpenClaim := { program := "ytlcacoglljcgeaagreat", sum := "2dc6c7974eb5947853e89c66e7c8f968f2091b949221982664fa7175ae46337d", func := "loop.example/g00664/laws.FnExactTraceBox", spec := "fnExactTraceBox", inPlace := ["internal/abi.NoEscape", "internal/bytealg.MakeNoZero", "slices.overlaps[loop.example/g00664/impl.Page]", "math/bits.Sub64", "math/bits.Add64"], unfollowed := true, recurses := true, named := ["math/bits.divideError", "math/bits.overflowError"], apart := false }
def FnExactTraceBoxSaid : Prop := fnExactTraceBoxRow.holds Tryz.pinned (OpenSpec.ofChange fnExactTraceBoxSpec)

/-- ITS FALSE NEIGHBOUR: 'it returns false'. Refute it at one input. -/
def fnExactTraceBoxWrong : ChangeSpec := { name := "fnExactTraceBox", fn := fun _ => fun
  | [d1, d2] => { results := [.lit (.bool false)], args := [d1, d2] }
  | _ => none }
def FnExactTraceBoxWrongFalsely : Prop := fnExactTraceBoxRow.holds Tryz.pinned (OpenSpec.ofChange fnExactTraceBoxWrong)

/-- 'laws.FnExactRunBox': WHATEVER THE INPUT: true; the input reads as it did. -/
def fnExactRunBoxSpec : ChangeSpec := { name := "fnExactRunBox", fn := fun _ => fun
  | [d1, d2] => { results := [.lit (.bool true)], args := [d1, d2] }
  | _ => none }
def fnExactRunBoxRow : OpenClaim := { program := "ytlcacoglljcgeaagreat", sum := "2dc6c7974eb5947853e89c66e7c8f968f2091b949221982664fa7175ae46337d", func := "loop.example/g00664/laws.FnExactRunBox", spec := "fnExactRunBox", inPlace := ["internal/abi.NoEscape", "internal/bytealg.MakeNoZero", "slices.overlaps[loop.example/g00664/impl.Page]", "math/bits.Sub64", "math/bits.Add64"], unfollowed := true, recurses := true, named := ["math/bits.divideError", "math/bits.overflowError"], apart := false }
def FnExactRunBoxSaid : Prop := fnExactRunBoxRow.holds Tryz.pinned (OpenSpec.ofChange fnExactRunBoxSpec)

/-- ITS FALSE NEIGHBOUR: 'it returns false'. Refute it at one input. -/
def fnExactRunBoxWrong : ChangeSpec := { name := "fnExactRunBox", fn := fun _ => fun
  | [d1, d2] => { results := [.lit (.bool false)], args := [d1, d2] }
  | _ => none }
def FnExactRunBoxWrongFalsely : Prop := fnExactRunBoxRow.holds Tryz.pinned (OpenSpec.ofChange fnExactRunBoxWrong)

/-- 'laws.FnExactStepBox': WHATEVER THE INPUT: true; the input reads as it did. -/
def fnExactStepBoxSpec : ChangeSpec := { name := "fnExactStepBox", fn := fun _ => fun
  | [d] => { results := [.lit (.bool true)], args := [d] }
  | _ => none }
def fnExactStepBoxRow : OpenClaim := { program := "ytlcacoglljcgeaagreat", sum := "2dc6c7974eb5947853e89c66e7c8f968f2091b949221982664fa7175ae46337d", func := "loop.example/g00664/laws.FnExactStepBox", spec := "fnExactStepBox", inPlace := ["internal/abi.NoEscape", "internal/bytealg.MakeNoZero", "slices.overlaps[loop.example/g00664/impl.Page]", "math/bits.Sub64", "math/bits.Add64"], unfollowed := true, recurses := true, named := ["math/bits.divideError", "math/bits.overflowError"], apart := false }
def FnExactStepBoxSaid : Prop := fnExactStepBoxRow.holds Tryz.pinned (OpenSpec.ofChange fnExactStepBoxSpec)

/-- ITS FALSE NEIGHBOUR: 'it returns false'. Refute it at one input. -/
def fnExactStepBoxWrong : ChangeSpec := { name := "fnExactStepBox", fn := fun _ => fun
  | [d] => { results := [.lit (.bool false)], args := [d] }
  | _ => none }
def FnExactStepBoxWrongFalsely : Prop := fnExactStepBoxRow.holds Tryz.pinned (OpenSpec.ofChange fnExactStepBoxWrong)

/- THE SECOND FORM. 'bulk': how many values and letters a reading holds, each counted each time it is reached (what is shared counts as often as it is met; a slice's spare places count too). A statement '..UptoSaid' is the law's where the arguments, and the package variables that the reading takes, are together of bulk at most 1048576: NARROWER than '..Said'. Prove '..Said' where nothing that the law and all that it calls make is longer than what came in: it says more and counts as full. Else prove '..UptoSaid'. A law counts once. -/
mutual
def uptoBulk {H : Type} : DataW H → Nat
  | .lit (.string bytes) => bytes.length + 1
  | .lit _ => 1
  | .nil => 1
  | .ptr d => uptoBulk d + 1
  | .slice elems spare => uptoBulkAll elems + uptoBulkAll spare + 1
  | .agg parts => uptoBulkAll parts + 1
  | .iface _ d => uptoBulk d + 1
  | .map entries => uptoBulkEntries entries + 1
  | .held _ => 1
def uptoBulkAll {H : Type} : List (DataW H) → Nat
  | [] => 0
  | d :: r => uptoBulk d + uptoBulkAll r
def uptoBulkEntries {H : Type} : List (Lit × DataW H) → Nat
  | [] => 0
  | x :: r => uptoBulkEntry x + uptoBulkEntries r
def uptoBulkEntry {H : Type} : Lit × DataW H → Nat
  | (.string bytes, d) => bytes.length + uptoBulk d + 1
  | (_, d) => uptoBulk d + 1
 end
def uptoSmall : (H : Type) → List (DataW H) → Bool := fun _ ds => decide (uptoBulkAll ds ≤ 1048576)
def OpenSpec.upto (s : _root_.Go.ChangeSpec) : _root_.Go.OpenSpec := { _root_.Go.OpenSpec.ofChange s with cond := some uptoSmall }

/-- 'laws.FnExactTraceBox', WHERE WHAT IT READS IS OF BULK AT MOST 1048576: true; the input reads as it did. -/
def fnExactTraceBoxUptoRow : OpenClaim := { program := "ytlcacoglljcgeaagreat", sum := "2dc6c7974eb5947853e89c66e7c8f968f2091b949221982664fa7175ae46337d", func := "loop.example/g00664/laws.FnExactTraceBox", spec := "fnExactTraceBox", inPlace := ["internal/abi.NoEscape", "internal/bytealg.MakeNoZero", "slices.overlaps[loop.example/g00664/impl.Page]", "math/bits.Sub64", "math/bits.Add64"], unfollowed := true, recurses := true, named := ["math/bits.divideError", "math/bits.overflowError"], apart := false, narrowed := true }
def FnExactTraceBoxUptoSaid : Prop := fnExactTraceBoxUptoRow.holds Tryz.pinned (OpenSpec.upto fnExactTraceBoxSpec)

/-- 'laws.FnExactRunBox', WHERE WHAT IT READS IS OF BULK AT MOST 1048576: true; the input reads as it did. -/
def fnExactRunBoxUptoRow : OpenClaim := { program := "ytlcacoglljcgeaagreat", sum := "2dc6c7974eb5947853e89c66e7c8f968f2091b949221982664fa7175ae46337d", func := "loop.example/g00664/laws.FnExactRunBox", spec := "fnExactRunBox", inPlace := ["internal/abi.NoEscape", "internal/bytealg.MakeNoZero", "slices.overlaps[loop.example/g00664/impl.Page]", "math/bits.Sub64", "math/bits.Add64"], unfollowed := true, recurses := true, named := ["math/bits.divideError", "math/bits.overflowError"], apart := false, narrowed := true }
def FnExactRunBoxUptoSaid : Prop := fnExactRunBoxUptoRow.holds Tryz.pinned (OpenSpec.upto fnExactRunBoxSpec)

/-- 'laws.FnExactStepBox', WHERE WHAT IT READS IS OF BULK AT MOST 1048576: true; the input reads as it did. -/
def fnExactStepBoxUptoRow : OpenClaim := { program := "ytlcacoglljcgeaagreat", sum := "2dc6c7974eb5947853e89c66e7c8f968f2091b949221982664fa7175ae46337d", func := "loop.example/g00664/laws.FnExactStepBox", spec := "fnExactStepBox", inPlace := ["internal/abi.NoEscape", "internal/bytealg.MakeNoZero", "slices.overlaps[loop.example/g00664/impl.Page]", "math/bits.Sub64", "math/bits.Add64"], unfollowed := true, recurses := true, named := ["math/bits.divideError", "math/bits.overflowError"], apart := false, narrowed := true }
def FnExactStepBoxUptoSaid : Prop := fnExactStepBoxUptoRow.holds Tryz.pinned (OpenSpec.upto fnExactStepBoxSpec)

end Rows
end Go.Proofs.YtlcacoglljcgeaaGreat
