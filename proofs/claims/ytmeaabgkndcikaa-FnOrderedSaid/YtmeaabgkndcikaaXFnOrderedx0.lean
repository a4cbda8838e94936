/- The functions that the law FnOrdered reaches: each as a plain Lean function, with the proof that the call does what it says. -/
import Derived.Test.YtmeaabgkndcikaaProg
import Derived.Below
import Derived.Deep.Draws
import Derived.Deep.AppendLies
import Derived.Maps.AppendAt
import Derived.OwnWalk
import Derived.Laws.BytesArg
import Derived.Laws.MakeOwn
import Derived.Laws.OwnMore
import Derived.Deep.OwnRows
import Derived.Tactics
import Derived.Lib.ConvBytes
import Derived.Laws.Slices
import Derived.WalkKit
import Derived.KernelRfl
import Derived.RowKit3
import Derived.Deep.LoopGhost
import Derived.Deep.QuietTactic
import Derived.BigQuiet
import Derived.WideLaws
import Derived.Deep.DeepCutAuto
import Derived.Deep.CutBlock
import Derived.Deep.RegionHeld3
import Derived.Laws.Rows
import Derived.Lib.AppendStr
import Derived.ArgAppend
import Derived.Laws.IdiomCopy
import Derived.OrdersHeld
import Derived.Laws.BitsLemmas
import Derived.RowKit
import Derived.Test.YtmeaabgkndcikaaWWords
import Derived.Test.YtmeaabgkndcikaaWLast
import Derived.Test.YtmeaabgkndcikaaWTab
import Derived.Test.YtmeaabgkndcikaaWFour
import Derived.Test.YtmeaabgkndcikaaWQPut
import Derived.Test.YtmeaabgkndcikaaWApart
import Derived.Test.YtmeaabgkndcikaaWArr
import Derived.Test.YtmeaabgkndcikaaWZeros
import Derived.Test.YtmeaabgkndcikaaWFoot
import Derived.Test.YtmeaabgkndcikaaWKept
import Derived.Test.YtmeaabgkndcikaaWShare
import Derived.Test.YtmeaabgkndcikaaWN
import Derived.Test.YtmeaabgkndcikaaWFootNe
import Derived.Test.YtmeaabgkndcikaaWAt
import Derived.Test.YtmeaabgkndcikaaWEqStruct
import Derived.Test.YtmeaabgkndcikaaWRepsOne
import Derived.Test.YtmeaabgkndcikaaWInv
import Derived.Test.YtmeaabgkndcikaaWInvWords
import Derived.Test.YtmeaabgkndcikaaWGuard
import Derived.Test.YtmeaabgkndcikaaWNEv
import Derived.Test.YtmeaabgkndcikaaWMore
namespace Go.Proofs.Ytmeaabgkndcikaa.PFnOrdered
open Go.RowKit Go.Proofs.YtmeaabgkndcikaaW.PrintWords Go.Proofs.YtmeaabgkndcikaaW.PrintLast Go.Proofs.YtmeaabgkndcikaaW.PrintMore
attribute [local go_sem] max2_int min2_int max_two min_two max_three min_three max_four min_four   -- for this text's walks alone
set_option linter.unusedVariables false
set_option linter.unusedSimpArgs false



def errW : Option Int → Value
  | none => .nilIface
  | some c => .iface 0 (.int .i64 c)
theorem errW_none : errW none = .nilIface := rfl
theorem errW_some (c : Int) : errW (some c) = .iface 0 (.int .i64 c) := rfl

theorem info2 : (Try.prog.info? 2).map (fun i => (i.zero, i.size, i.bytes)) = some (some (.int .i64 0), 1, 8) := by kernel_rfl
theorem info3 : (Try.prog.info? 3).map (fun i => (i.zero, i.size, i.bytes)) = some (some (.int .i64 0), 1, 8) := by kernel_rfl
theorem info5 : (Try.prog.info? 5).map (fun i => (i.zero, i.size, i.bytes)) = some (some (.int .u8 0), 1, 1) := by kernel_rfl
-- the values' own types

end Go.Proofs.Ytmeaabgkndcikaa.PFnOrdered
