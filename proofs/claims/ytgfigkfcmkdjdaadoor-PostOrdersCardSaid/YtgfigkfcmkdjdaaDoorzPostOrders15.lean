/- The functions that the law reaches, as plain Lean functions, and their contracts: texts merged. -/
import Derived.Laws.StructEq
import Derived.Test.YtgfigkfcmkdjdaaDoorzPostOrders3
import Derived.Test.YtgfigkfcmkdjdaaDoorzPostOrders0
import Derived.Test.YtgfigkfcmkdjdaaDoorzPostOrders1
import Derived.Test.YtgfigkfcmkdjdaaDoorzPostOrders2
import Derived.Test.YtgfigkfcmkdjdaaDoorzPostOrders4
import Derived.Test.YtgfigkfcmkdjdaaDoorzPostOrders5
import Derived.Test.YtgfigkfcmkdjdaaDoorzPostOrders6
import Derived.Test.YtgfigkfcmkdjdaaDoorzPostOrders7
import Derived.Test.YtgfigkfcmkdjdaaDoorzPostOrders8
import Derived.Test.YtgfigkfcmkdjdaaDoorzPostOrders9
import Derived.Test.YtgfigkfcmkdjdaaDoorzPostOrders10
import Derived.Test.YtgfigkfcmkdjdaaDoorzPostOrders11
import Derived.Test.YtgfigkfcmkdjdaaDoorzPostOrders12
import Derived.Test.YtgfigkfcmkdjdaaDoorzPostOrders13
import Derived.Test.YtgfigkfcmkdjdaaDoorzPostOrders14
section
namespace Go.Proofs.YtgfigkfcmkdjdaaDoor.B
open Go.RowKit Go.Proofs.YtgfigkfcmkdjdaaDoorW.PrintWords Go.Proofs.YtgfigkfcmkdjdaaDoorW.PrintLast Go.Proofs.YtgfigkfcmkdjdaaDoorW.PrintMore
attribute [local go_sem] max2_int min2_int max_two min_two max_three min_three max_four min_four   -- for this text's walks alone
set_option linter.unusedVariables false
set_option linter.unusedSimpArgs false
theorem spareL_e (asked : Int → Bool) : ∀ l : List Int, (spareL asked l).2 = 0 ∨ (spareL asked l).2 = 113
  | [] => .inl rfl
  | t :: r => by
    rw [spareL_cons]
    split
    · exact spareL_e asked r
    · exact .inr rfl
theorem doneL_on {F : FormS} (h : F.e = 0) : ¬ ((doneL F).2 ≠ 0 ∧ (doneL F).2 ≠ 113) := by
  unfold doneL
  rw [if_neg (by simpa using h)]
  rcases spareL_e F.asked F.order with g | g <;> rw [g] <;> omega
section
variable {s : ByteArray} {F F1 F2 F3 F4 F5 F6 : FormS} {q q5 q6 td ed : Int} {i x wd n : ByteArray} {k : Nat}
end
end Go.Proofs.YtgfigkfcmkdjdaaDoor.B
end
