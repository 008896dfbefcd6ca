/- What the law BodyWhole says once its arguments are opened. -/
import Derived.Test.YtbkpkfbdpmjgoaaDoorzBodyWhole2
import Derived.Test.YtbkpkfbdpmjgoaaDoorzBodyWhole0
import Derived.Test.YtbkpkfbdpmjgoaaDoorzBodyWhole1
import Derived.Test.YtbkpkfbdpmjgoaaDoorzBodyWhole3
import Derived.Test.YtbkpkfbdpmjgoaaDoorzBodyWhole4
import Derived.Test.YtbkpkfbdpmjgoaaDoorzBodyWhole5
import Derived.Test.YtbkpkfbdpmjgoaaDoorzBodyWhole6
import Derived.Test.YtbkpkfbdpmjgoaaDoorzBodyWhole7
import Derived.Test.YtbkpkfbdpmjgoaaDoorzBodyWhole8
namespace Go.Proofs.YtbkpkfbdpmjgoaaDoor.bodyWhole
open Go.RowKit Go.Proofs.YtbkpkfbdpmjgoaaDoor.T Go.Proofs.YtbkpkfbdpmjgoaaDoorW.PrintWords Go.Proofs.YtbkpkfbdpmjgoaaDoorW.PrintLast
set_option linter.unusedVariables false

def P : Prop := ∀ (l0 : List ByteArray) (a1 : Int) (a2 : Int), (∀ a ∈ l0, a.size ≤ 9223372036854775807) → (Lit.int .i64 a1).wf = true → (Lit.int .i64 a2).wf = true → spigotlaw11_BodyWhole.f l0 a1 a2 = some true
end Go.Proofs.YtbkpkfbdpmjgoaaDoor.bodyWhole
