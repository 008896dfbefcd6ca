/- Each Go function that the laws of this seat reach, as a plain Lean function, and its contract: the machine's call does what that function says. -/
import Derived.Test.YtfmhbibdnkekcaaDoorProg
import Derived.Below
import Derived.Deep.Draws
import Derived.Deep.AppendLies
import Derived.Maps.AppendAt
import Derived.OwnWalk
import Derived.Laws.BytesArg
import Derived.Laws.MakeOwn
import Derived.Laws.OwnMore
import Derived.Deep.OwnRows
import Derived.Tactics
import Derived.Lib.ConvBytes
import Derived.Laws.Slices
import Derived.WalkKit
import Derived.KernelRfl
import Derived.RowKit3
import Derived.Deep.LoopGhost
import Derived.Deep.QuietTactic
import Derived.BigQuiet
import Derived.WideLaws
import Derived.Deep.DeepCutAuto
import Derived.Deep.CutBlock
import Derived.Deep.RegionHeld3
import Derived.Laws.Rows
import Derived.Lib.AppendStr
import Derived.ArgAppend
import Derived.Laws.IdiomCopy
import Derived.OrdersHeld
import Derived.Laws.BitsLemmas
import Derived.RowKit
import Derived.Laws.BytesArg
import Derived.Lib.AppendIntMem
import Derived.Lib.ItoaMem
import Derived.Lib.ItoaNum
import Derived.Lib.LaidTab
import Derived.Lib.SmallJoins
import Derived.Test.YtfmhbibdnkekcaaDoorShelf
import Derived.Test.YtfmhbibdnkekcaaDoorWWords
import Derived.Test.YtfmhbibdnkekcaaDoorWLast
import Derived.Test.YtfmhbibdnkekcaaDoorWTab
import Derived.Test.YtfmhbibdnkekcaaDoorWFour
import Derived.Test.YtfmhbibdnkekcaaDoorWQPut
import Derived.Test.YtfmhbibdnkekcaaDoorWApart
import Derived.Test.YtfmhbibdnkekcaaDoorWArr
import Derived.Test.YtfmhbibdnkekcaaDoorWZeros
import Derived.Test.YtfmhbibdnkekcaaDoorWFoot
import Derived.Test.YtfmhbibdnkekcaaDoorWKept
import Derived.Test.YtfmhbibdnkekcaaDoorWShare
import Derived.Test.YtfmhbibdnkekcaaDoorWN
import Derived.Test.YtfmhbibdnkekcaaDoorWFootNe
import Derived.Test.YtfmhbibdnkekcaaDoorWAt
import Derived.Test.YtfmhbibdnkekcaaDoorWEqStruct
import Derived.Test.YtfmhbibdnkekcaaDoorWRepsOne
import Derived.Test.YtfmhbibdnkekcaaDoorWInv
import Derived.Test.YtfmhbibdnkekcaaDoorWInvWords
import Derived.Test.YtfmhbibdnkekcaaDoorWGuard
import Derived.Test.YtfmhbibdnkekcaaDoorWNEv
import Derived.Test.YtfmhbibdnkekcaaDoorWMore
namespace Go.Proofs.YtfmhbibdnkekcaaDoor.Q
open Go.RowKit Go.Proofs.YtfmhbibdnkekcaaDoorW.PrintWords Go.Proofs.YtfmhbibdnkekcaaDoorW.PrintLast Go.Proofs.YtfmhbibdnkekcaaDoorW.PrintMore
attribute [local go_sem] max2_int min2_int max_two min_two max_three min_three max_four min_four   -- for this text's walks alone
set_option linter.unusedVariables false
set_option linter.unusedSimpArgs false



def errW : Option Int → Value
  | none => .nilIface
  | some c => .iface 0 (.int .i64 c)
theorem errW_none : errW none = .nilIface := rfl
theorem errW_some (c : Int) : errW (some c) = .iface 0 (.int .i64 c) := rfl

theorem info5 : (Tryd.prog.info? 5).map (fun i => (i.zero, i.size, i.bytes)) = some (some (.int .u8 0), 1, 1) := by kernel_rfl
-- the values' own types

end Go.Proofs.YtfmhbibdnkekcaaDoor.Q
