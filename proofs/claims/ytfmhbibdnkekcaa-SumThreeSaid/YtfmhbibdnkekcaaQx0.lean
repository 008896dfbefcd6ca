/- Each Go function that the laws of this seat reach, as a plain Lean function, and its contract: the machine's call does what that function says. -/
import Derived.Test.YtfmhbibdnkekcaaProg
import Derived.Below
import Derived.Deep.Draws
import Derived.Deep.AppendLies
import Derived.Maps.AppendAt
import Derived.OwnWalk
import Derived.Laws.BytesArg
import Derived.Laws.MakeOwn
import Derived.Laws.OwnMore
import Derived.Deep.OwnRows
import Derived.Tactics
import Derived.Lib.ConvBytes
import Derived.Laws.Slices
import Derived.WalkKit
import Derived.KernelRfl
import Derived.RowKit3
import Derived.Deep.LoopGhost
import Derived.Deep.QuietTactic
import Derived.BigQuiet
import Derived.WideLaws
import Derived.Deep.DeepCutAuto
import Derived.Deep.CutBlock
import Derived.Deep.RegionHeld3
import Derived.Laws.Rows
import Derived.Lib.AppendStr
import Derived.ArgAppend
import Derived.Laws.IdiomCopy
import Derived.OrdersHeld
import Derived.Laws.BitsLemmas
import Derived.RowKit
import Derived.Laws.BytesArg
import Derived.Test.YtfmhbibdnkekcaaWWords
import Derived.Test.YtfmhbibdnkekcaaWLast
import Derived.Test.YtfmhbibdnkekcaaWTab
import Derived.Test.YtfmhbibdnkekcaaWFour
import Derived.Test.YtfmhbibdnkekcaaWQPut
import Derived.Test.YtfmhbibdnkekcaaWApart
import Derived.Test.YtfmhbibdnkekcaaWArr
import Derived.Test.YtfmhbibdnkekcaaWZeros
import Derived.Test.YtfmhbibdnkekcaaWFoot
import Derived.Test.YtfmhbibdnkekcaaWKept
import Derived.Test.YtfmhbibdnkekcaaWShare
import Derived.Test.YtfmhbibdnkekcaaWN
import Derived.Test.YtfmhbibdnkekcaaWFootNe
import Derived.Test.YtfmhbibdnkekcaaWAt
import Derived.Test.YtfmhbibdnkekcaaWEqStruct
import Derived.Test.YtfmhbibdnkekcaaWRepsOne
import Derived.Test.YtfmhbibdnkekcaaWInv
import Derived.Test.YtfmhbibdnkekcaaWInvWords
import Derived.Test.YtfmhbibdnkekcaaWGuard
import Derived.Test.YtfmhbibdnkekcaaWNEv
import Derived.Test.YtfmhbibdnkekcaaWMore
namespace Go.Proofs.Ytfmhbibdnkekcaa.Q
open Go.RowKit Go.Proofs.YtfmhbibdnkekcaaW.PrintWords Go.Proofs.YtfmhbibdnkekcaaW.PrintLast Go.Proofs.YtfmhbibdnkekcaaW.PrintMore
attribute [local go_sem] max2_int min2_int max_two min_two max_three min_three max_four min_four   -- for this text's walks alone
set_option linter.unusedVariables false
set_option linter.unusedSimpArgs false



def errW : Option Int → Value
  | none => .nilIface
  | some c => .iface 0 (.int .i64 c)
theorem errW_none : errW none = .nilIface := rfl
theorem errW_some (c : Int) : errW (some c) = .iface 0 (.int .i64 c) := rfl

theorem info5 : (Try.prog.info? 5).map (fun i => (i.zero, i.size, i.bytes)) = some (some (.int .u8 0), 1, 1) := by kernel_rfl
-- the values' own types

end Go.Proofs.Ytfmhbibdnkekcaa.Q
