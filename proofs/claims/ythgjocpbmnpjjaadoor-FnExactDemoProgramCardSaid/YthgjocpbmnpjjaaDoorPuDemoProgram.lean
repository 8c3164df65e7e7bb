/- Theory for the proofs of this claim: see its last text. -/
import Derived.Test.YthgjocpbmnpjjaaDoorFnDemoProgram
import Derived.Test.YthgjocpbmnpjjaaDoorDenF
import Derived.KernelRfl
namespace Go.Den.G
open Go.Den
set_option maxRecDepth 100000
/-- The law: DemoProgram returns what the reference's returns. -/
theorem pure_DemoProgram (y : VTL.Ty []) (_ : VTL.wf [] y) : S_laws_FnExactDemoProgram (y, ()) = some (true, ()) := by kernel_rfl
end Go.Den.G
