/-
  No cell of these rows narrows 'for every input' (looked for: loops, veiled, ifaces, maps, wideKeys, modest, calm, conditions, laid).
  DERIVED. THE GIVEN ROWS OF THIS SEAT. 6 by the template 'for every input the law returns true; each argument reads behind the call as it read before'; 0 by the template 'total and deterministic' (their statements: YtmpliclmlpjopaaGreatTotals.lean).
  GIVEN WITH THE SEED: the statements are not yours to turn. If you find one false, say at which input.
  Laid BY PROGRAM, IN A SANDBOX (cutbox-rows.mjs): the forced cells as the released guide's own fill.sh prints them over the translation da101c7310f192ff… (all of the seat's roots in one cut). By AI agents, Wed Nov 11 2026. No macro, syntax, notation, axiom, sorry.
-/
import Derived.Test.YtmpliclmlpjopaaGreatChecked
import GoSem.Claim
import GoSem.ClaimJoined
import GoSem.ClaimMapViews
import Derived.JoinedTies
import Derived.KernelRfl
namespace Go.Proofs.YtmpliclmlpjopaaGreat
/- THE CELL 'sum', in the pinned program and in every row, IS THE sha256 OF THE DUMP (.gsa) THAT YtmpliclmlpjopaaGreatProg.lean LOADS. Nothing in Lean hashes anything: it is a label: what it is worth is what the hold of that sum in a sandbox is worth. -/
noncomputable def Tryz.pinned : Pinned := { name := "ytmpliclmlpjopaagreat", sum := "da101c7310f192fffe097a29dc6e90193c72f9ec6878f03432fb976b3e437c24", checked := Tryz.checked }
namespace Rows
def none {H : Type} : Left H := { results := [], args := [] }

/-- 'laws.FnOperands': WHATEVER THE INPUT: true; the input reads as it did. -/
def fnOperandsSpec : ChangeSpec := { name := "fnOperands", fn := fun _ => fun
  | [d1, d2] => { results := [.lit (.bool true)], args := [d1, d2] }
  | _ => none }
def fnOperandsRow : OpenClaim := { program := "ytmpliclmlpjopaagreat", sum := "da101c7310f192fffe097a29dc6e90193c72f9ec6878f03432fb976b3e437c24", func := "loop.example/g00664/laws.FnOperands", spec := "fnOperands", inPlace := ["internal/bytealg.IndexByteString", "internal/bytealg.IndexString", "math/bits.Sub64", "math/bits.Add64"], unfollowed := true, recurses := true, named := ["internal/bytealg.MaxLen", "math/bits.divideError", "math/bits.overflowError"], apart := false }
def FnOperandsSaid : Prop := fnOperandsRow.holds Tryz.pinned (OpenSpec.ofChange fnOperandsSpec)

/-- ITS FALSE NEIGHBOUR: 'it returns false'. Refute it at one input. -/
def fnOperandsWrong : ChangeSpec := { name := "fnOperands", fn := fun _ => fun
  | [d1, d2] => { results := [.lit (.bool false)], args := [d1, d2] }
  | _ => none }
def FnOperandsWrongFalsely : Prop := fnOperandsRow.holds Tryz.pinned (OpenSpec.ofChange fnOperandsWrong)

/-- 'laws.FnTouch': WHATEVER THE INPUT: true; the input reads as it did. -/
def fnTouchSpec : ChangeSpec := { name := "fnTouch", fn := fun _ => fun
  | [d1, d2] => { results := [.lit (.bool true)], args := [d1, d2] }
  | _ => none }
def fnTouchRow : OpenClaim := { program := "ytmpliclmlpjopaagreat", sum := "da101c7310f192fffe097a29dc6e90193c72f9ec6878f03432fb976b3e437c24", func := "loop.example/g00664/laws.FnTouch", spec := "fnTouch", inPlace := ["internal/bytealg.IndexByteString", "internal/bytealg.IndexString", "math/bits.Sub64", "math/bits.Add64"], unfollowed := true, recurses := true, named := ["internal/bytealg.MaxLen", "math/bits.divideError", "math/bits.overflowError"], apart := false }
def FnTouchSaid : Prop := fnTouchRow.holds Tryz.pinned (OpenSpec.ofChange fnTouchSpec)

/-- ITS FALSE NEIGHBOUR: 'it returns false'. Refute it at one input. -/
def fnTouchWrong : ChangeSpec := { name := "fnTouch", fn := fun _ => fun
  | [d1, d2] => { results := [.lit (.bool false)], args := [d1, d2] }
  | _ => none }
def FnTouchWrongFalsely : Prop := fnTouchRow.holds Tryz.pinned (OpenSpec.ofChange fnTouchWrong)

/-- 'laws.FnExactExecInstr': WHATEVER THE INPUT: true; the input reads as it did. -/
def fnExactExecInstrSpec : ChangeSpec := { name := "fnExactExecInstr", fn := fun _ => fun
  | [d1, d2, d3] => { results := [.lit (.bool true)], args := [d1, d2, d3] }
  | _ => none }
def fnExactExecInstrRow : OpenClaim := { program := "ytmpliclmlpjopaagreat", sum := "da101c7310f192fffe097a29dc6e90193c72f9ec6878f03432fb976b3e437c24", func := "loop.example/g00664/laws.FnExactExecInstr", spec := "fnExactExecInstr", inPlace := ["internal/bytealg.IndexByteString", "internal/bytealg.IndexString", "math/bits.Sub64", "math/bits.Add64"], unfollowed := true, recurses := true, named := ["internal/bytealg.MaxLen", "math/bits.divideError", "math/bits.overflowError"], apart := false }
def FnExactExecInstrSaid : Prop := fnExactExecInstrRow.holds Tryz.pinned (OpenSpec.ofChange fnExactExecInstrSpec)

/-- ITS FALSE NEIGHBOUR: 'it returns false'. Refute it at one input. -/
def fnExactExecInstrWrong : ChangeSpec := { name := "fnExactExecInstr", fn := fun _ => fun
  | [d1, d2, d3] => { results := [.lit (.bool false)], args := [d1, d2, d3] }
  | _ => none }
def FnExactExecInstrWrongFalsely : Prop := fnExactExecInstrRow.holds Tryz.pinned (OpenSpec.ofChange fnExactExecInstrWrong)

/-- 'laws.FnExactRunCpu': WHATEVER THE INPUT: true; the input reads as it did. -/
def fnExactRunCpuSpec : ChangeSpec := { name := "fnExactRunCpu", fn := fun _ => fun
  | [d1, d2, d3] => { results := [.lit (.bool true)], args := [d1, d2, d3] }
  | _ => none }
def fnExactRunCpuRow : OpenClaim := { program := "ytmpliclmlpjopaagreat", sum := "da101c7310f192fffe097a29dc6e90193c72f9ec6878f03432fb976b3e437c24", func := "loop.example/g00664/laws.FnExactRunCpu", spec := "fnExactRunCpu", inPlace := ["math/bits.Sub64", "math/bits.Add64"], unfollowed := true, recurses := true, named := ["math/bits.divideError", "math/bits.overflowError"], apart := false }
def FnExactRunCpuSaid : Prop := fnExactRunCpuRow.holds Tryz.pinned (OpenSpec.ofChange fnExactRunCpuSpec)

/-- ITS FALSE NEIGHBOUR: 'it returns false'. Refute it at one input. -/
def fnExactRunCpuWrong : ChangeSpec := { name := "fnExactRunCpu", fn := fun _ => fun
  | [d1, d2, d3] => { results := [.lit (.bool false)], args := [d1, d2, d3] }
  | _ => none }
def FnExactRunCpuWrongFalsely : Prop := fnExactRunCpuRow.holds Tryz.pinned (OpenSpec.ofChange fnExactRunCpuWrong)

/-- 'laws.FnExactStepCpu': WHATEVER THE INPUT: true; the input reads as it did. -/
def fnExactStepCpuSpec : ChangeSpec := { name := "fnExactStepCpu", fn := fun _ => fun
  | [d1, d2] => { results := [.lit (.bool true)], args := [d1, d2] }
  | _ => none }
def fnExactStepCpuRow : OpenClaim := { program := "ytmpliclmlpjopaagreat", sum := "da101c7310f192fffe097a29dc6e90193c72f9ec6878f03432fb976b3e437c24", func := "loop.example/g00664/laws.FnExactStepCpu", spec := "fnExactStepCpu", inPlace := ["math/bits.Sub64", "math/bits.Add64"], unfollowed := true, recurses := true, named := ["math/bits.divideError", "math/bits.overflowError"], apart := false }
def FnExactStepCpuSaid : Prop := fnExactStepCpuRow.holds Tryz.pinned (OpenSpec.ofChange fnExactStepCpuSpec)

/-- ITS FALSE NEIGHBOUR: 'it returns false'. Refute it at one input. -/
def fnExactStepCpuWrong : ChangeSpec := { name := "fnExactStepCpu", fn := fun _ => fun
  | [d1, d2] => { results := [.lit (.bool false)], args := [d1, d2] }
  | _ => none }
def FnExactStepCpuWrongFalsely : Prop := fnExactStepCpuRow.holds Tryz.pinned (OpenSpec.ofChange fnExactStepCpuWrong)

/-- 'laws.FnParts': WHATEVER THE INPUT: true; the input reads as it did. -/
def fnPartsSpec : ChangeSpec := { name := "fnParts", fn := fun _ => fun
  | [d1, d2] => { results := [.lit (.bool true)], args := [d1, d2] }
  | _ => none }
def fnPartsRow : OpenClaim := { program := "ytmpliclmlpjopaagreat", sum := "da101c7310f192fffe097a29dc6e90193c72f9ec6878f03432fb976b3e437c24", func := "loop.example/g00664/laws.FnParts", spec := "fnParts", inPlace := ["math/bits.Sub64", "math/bits.Add64"], unfollowed := true, recurses := true, named := ["math/bits.divideError", "math/bits.overflowError"], apart := false }
def FnPartsSaid : Prop := fnPartsRow.holds Tryz.pinned (OpenSpec.ofChange fnPartsSpec)

/-- ITS FALSE NEIGHBOUR: 'it returns false'. Refute it at one input. -/
def fnPartsWrong : ChangeSpec := { name := "fnParts", fn := fun _ => fun
  | [d1, d2] => { results := [.lit (.bool false)], args := [d1, d2] }
  | _ => none }
def FnPartsWrongFalsely : Prop := fnPartsRow.holds Tryz.pinned (OpenSpec.ofChange fnPartsWrong)

/- THE SECOND FORM. 'bulk': how many values and letters a reading holds, each counted each time it is reached (what is shared counts as often as it is met; a slice's spare places count too). A statement '..UptoSaid' is the law's where the arguments, and the package variables that the reading takes, are together of bulk at most 1048576: NARROWER than '..Said'. Prove '..Said' where nothing that the law and all that it calls make is longer than what came in: it says more and counts as full. Else prove '..UptoSaid'. A law counts once. -/
mutual
def uptoBulk {H : Type} : DataW H → Nat
  | .lit (.string bytes) => bytes.length + 1
  | .lit _ => 1
  | .nil => 1
  | .ptr d => uptoBulk d + 1
  | .slice elems spare => uptoBulkAll elems + uptoBulkAll spare + 1
  | .agg parts => uptoBulkAll parts + 1
  | .iface _ d => uptoBulk d + 1
  | .map entries => uptoBulkEntries entries + 1
  | .held _ => 1
def uptoBulkAll {H : Type} : List (DataW H) → Nat
  | [] => 0
  | d :: r => uptoBulk d + uptoBulkAll r
def uptoBulkEntries {H : Type} : List (Lit × DataW H) → Nat
  | [] => 0
  | x :: r => uptoBulkEntry x + uptoBulkEntries r
def uptoBulkEntry {H : Type} : Lit × DataW H → Nat
  | (.string bytes, d) => bytes.length + uptoBulk d + 1
  | (_, d) => uptoBulk d + 1
 end
def uptoSmall : (H : Type) → List (DataW H) → Bool := fun _ ds => decide (uptoBulkAll ds ≤ 1048576)
def OpenSpec.upto (s : _root_.Go.ChangeSpec) : _root_.Go.OpenSpec := { _root_.Go.OpenSpec.ofChange s with cond := some uptoSmall }

/-- 'laws.FnOperands', WHERE WHAT IT READS IS OF BULK AT MOST 1048576: true; the input reads as it did. -/
def fnOperandsUptoRow : OpenClaim := { program := "ytmpliclmlpjopaagreat", sum := "da101c7310f192fffe097a29dc6e90193c72f9ec6878f03432fb976b3e437c24", func := "loop.example/g00664/laws.FnOperands", spec := "fnOperands", inPlace := ["internal/bytealg.IndexByteString", "internal/bytealg.IndexString", "math/bits.Sub64", "math/bits.Add64"], unfollowed := true, recurses := true, named := ["internal/bytealg.MaxLen", "math/bits.divideError", "math/bits.overflowError"], apart := false, narrowed := true }
def FnOperandsUptoSaid : Prop := fnOperandsUptoRow.holds Tryz.pinned (OpenSpec.upto fnOperandsSpec)

/-- 'laws.FnTouch', WHERE WHAT IT READS IS OF BULK AT MOST 1048576: true; the input reads as it did. -/
def fnTouchUptoRow : OpenClaim := { program := "ytmpliclmlpjopaagreat", sum := "da101c7310f192fffe097a29dc6e90193c72f9ec6878f03432fb976b3e437c24", func := "loop.example/g00664/laws.FnTouch", spec := "fnTouch", inPlace := ["internal/bytealg.IndexByteString", "internal/bytealg.IndexString", "math/bits.Sub64", "math/bits.Add64"], unfollowed := true, recurses := true, named := ["internal/bytealg.MaxLen", "math/bits.divideError", "math/bits.overflowError"], apart := false, narrowed := true }
def FnTouchUptoSaid : Prop := fnTouchUptoRow.holds Tryz.pinned (OpenSpec.upto fnTouchSpec)

/-- 'laws.FnExactExecInstr', WHERE WHAT IT READS IS OF BULK AT MOST 1048576: true; the input reads as it did. -/
def fnExactExecInstrUptoRow : OpenClaim := { program := "ytmpliclmlpjopaagreat", sum := "da101c7310f192fffe097a29dc6e90193c72f9ec6878f03432fb976b3e437c24", func := "loop.example/g00664/laws.FnExactExecInstr", spec := "fnExactExecInstr", inPlace := ["internal/bytealg.IndexByteString", "internal/bytealg.IndexString", "math/bits.Sub64", "math/bits.Add64"], unfollowed := true, recurses := true, named := ["internal/bytealg.MaxLen", "math/bits.divideError", "math/bits.overflowError"], apart := false, narrowed := true }
def FnExactExecInstrUptoSaid : Prop := fnExactExecInstrUptoRow.holds Tryz.pinned (OpenSpec.upto fnExactExecInstrSpec)

/-- 'laws.FnExactRunCpu', WHERE WHAT IT READS IS OF BULK AT MOST 1048576: true; the input reads as it did. -/
def fnExactRunCpuUptoRow : OpenClaim := { program := "ytmpliclmlpjopaagreat", sum := "da101c7310f192fffe097a29dc6e90193c72f9ec6878f03432fb976b3e437c24", func := "loop.example/g00664/laws.FnExactRunCpu", spec := "fnExactRunCpu", inPlace := ["math/bits.Sub64", "math/bits.Add64"], unfollowed := true, recurses := true, named := ["math/bits.divideError", "math/bits.overflowError"], apart := false, narrowed := true }
def FnExactRunCpuUptoSaid : Prop := fnExactRunCpuUptoRow.holds Tryz.pinned (OpenSpec.upto fnExactRunCpuSpec)

/-- 'laws.FnExactStepCpu', WHERE WHAT IT READS IS OF BULK AT MOST 1048576: true; the input reads as it did. -/
def fnExactStepCpuUptoRow : OpenClaim := { program := "ytmpliclmlpjopaagreat", sum := "da101c7310f192fffe097a29dc6e90193c72f9ec6878f03432fb976b3e437c24", func := "loop.example/g00664/laws.FnExactStepCpu", spec := "fnExactStepCpu", inPlace := ["math/bits.Sub64", "math/bits.Add64"], unfollowed := true, recurses := true, named := ["math/bits.divideError", "math/bits.overflowError"], apart := false, narrowed := true }
def FnExactStepCpuUptoSaid : Prop := fnExactStepCpuUptoRow.holds Tryz.pinned (OpenSpec.upto fnExactStepCpuSpec)

/-- 'laws.FnParts', WHERE WHAT IT READS IS OF BULK AT MOST 1048576: true; the input reads as it did. -/
def fnPartsUptoRow : OpenClaim := { program := "ytmpliclmlpjopaagreat", sum := "da101c7310f192fffe097a29dc6e90193c72f9ec6878f03432fb976b3e437c24", func := "loop.example/g00664/laws.FnParts", spec := "fnParts", inPlace := ["math/bits.Sub64", "math/bits.Add64"], unfollowed := true, recurses := true, named := ["math/bits.divideError", "math/bits.overflowError"], apart := false, narrowed := true }
def FnPartsUptoSaid : Prop := fnPartsUptoRow.holds Tryz.pinned (OpenSpec.upto fnPartsSpec)

end Rows
end Go.Proofs.YtmpliclmlpjopaaGreat
