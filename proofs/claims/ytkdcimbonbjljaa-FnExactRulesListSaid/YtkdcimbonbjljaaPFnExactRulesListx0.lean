-- PRINTED BY print.sh 35421559b90ae4d0a3588c463048766b98c2df88dd9212a6774a882060cdf62d: not written by this session
import Derived.Test.YtkdcimbonbjljaaProg
import Derived.Below
import Derived.Deep.Draws
import Derived.Deep.AppendLies
import Derived.Maps.AppendAt
import Derived.OwnWalk
import Derived.Laws.BytesArg
import Derived.Laws.MakeOwn
import Derived.Laws.OwnMore
import Derived.Deep.OwnRows
import Derived.Tactics
import Derived.Lib.ConvBytes
import Derived.Laws.Slices
import Derived.WalkKit
import Derived.KernelRfl
import Derived.RowKit3
import Derived.Deep.LoopGhost
import Derived.Deep.QuietTactic
import Derived.BigQuiet
import Derived.WideLaws
import Derived.Deep.DeepCutAuto
import Derived.Deep.CutBlock
import Derived.Deep.RegionHeld3
import Derived.Laws.Rows
import Derived.Lib.AppendStr
import Derived.ArgAppend
import Derived.Laws.IdiomCopy
import Derived.OrdersHeld
import Derived.Laws.BitsLemmas
import Derived.RowKit
import Derived.Test.YtkdcimbonbjljaaWWords
import Derived.Test.YtkdcimbonbjljaaWLast
import Derived.Test.YtkdcimbonbjljaaWTab
import Derived.Test.YtkdcimbonbjljaaWFour
import Derived.Test.YtkdcimbonbjljaaWQPut
import Derived.Test.YtkdcimbonbjljaaWApart
import Derived.Test.YtkdcimbonbjljaaWArr
import Derived.Test.YtkdcimbonbjljaaWZeros
import Derived.Test.YtkdcimbonbjljaaWFoot
import Derived.Test.YtkdcimbonbjljaaWKept
import Derived.Test.YtkdcimbonbjljaaWShare
import Derived.Test.YtkdcimbonbjljaaWN
import Derived.Test.YtkdcimbonbjljaaWFootNe
import Derived.Test.YtkdcimbonbjljaaWAt
import Derived.Test.YtkdcimbonbjljaaWEqStruct
import Derived.Test.YtkdcimbonbjljaaWRepsOne
import Derived.Test.YtkdcimbonbjljaaWInv
import Derived.Test.YtkdcimbonbjljaaWInvWords
import Derived.Test.YtkdcimbonbjljaaWGuard
import Derived.Test.YtkdcimbonbjljaaWNEv
import Derived.Test.YtkdcimbonbjljaaWMore
namespace Go.Proofs.Ytkdcimbonbjljaa.PFnExactRulesList
open Go.RowKit Go.Proofs.YtkdcimbonbjljaaW.PrintWords Go.Proofs.YtkdcimbonbjljaaW.PrintLast Go.Proofs.YtkdcimbonbjljaaW.PrintMore
attribute [local go_sem] max2_int min2_int max_two min_two max_three min_three max_four min_four   -- for this text's walks alone
set_option linter.unusedVariables false
set_option linter.unusedSimpArgs false



def errW : Option Int → Value
  | none => .nilIface
  | some c => .iface 0 (.int .i64 c)
theorem errW_none : errW none = .nilIface := rfl
theorem errW_some (c : Int) : errW (some c) = .iface 0 (.int .i64 c) := rfl

theorem info3 : (Try.prog.info? 3).map (fun i => (i.zero, i.size, i.bytes)) = some (some (.int .i64 0), 1, 8) := by kernel_rfl
-- the values' own types

end Go.Proofs.Ytkdcimbonbjljaa.PFnExactRulesList
