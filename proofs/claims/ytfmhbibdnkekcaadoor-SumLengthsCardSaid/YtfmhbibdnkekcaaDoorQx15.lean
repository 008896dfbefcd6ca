/- Each Go function that the laws of this seat reach, as a plain Lean function, and its contract: the machine's call does what that function says. -/
import Derived.Test.YtfmhbibdnkekcaaDoorQx0
import Derived.Test.YtfmhbibdnkekcaaDoorQx14
namespace Go.Proofs.YtfmhbibdnkekcaaDoor.Q
open Go.RowKit Go.Proofs.YtfmhbibdnkekcaaDoorW.PrintWords Go.Proofs.YtfmhbibdnkekcaaDoorW.PrintLast Go.Proofs.YtfmhbibdnkekcaaDoorW.PrintMore
attribute [local go_sem] max2_int min2_int max_two min_two max_three min_three max_four min_four   -- for this text's walks alone
set_option linter.unusedVariables false
set_option linter.unusedSimpArgs false

--PART
/-! ### spigotlaw09_awake: function 4 -/
theorem spigotlaw09_awake_eq : spigotlaw09_awake_p.f = some true := by decide +kernel
def spigotlaw09_awake.f : Option Bool := some true
theorem spigotlaw09_awake.calls (r : Bool) (w : World) (h : spigotlaw09_awake.f = some r) :
    Calls Tryd.prog 4 #[] w fun e w' => e = .returned (.bool r) ∧ Below w.heap.size w w' :=
  spigotlaw09_awake_p.calls r w (spigotlaw09_awake_eq.trans h)

end Go.Proofs.YtfmhbibdnkekcaaDoor.Q
