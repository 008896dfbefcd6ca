/- Each Go function that the laws of this seat reach, as a plain Lean function, and its contract: the machine's call does what that function says. -/
import Derived.Test.YtfmhbibdnkekcaaQx0
import Derived.Test.YtfmhbibdnkekcaaQx10
namespace Go.Proofs.Ytfmhbibdnkekcaa.Q
open Go.RowKit Go.Proofs.YtfmhbibdnkekcaaW.PrintWords Go.Proofs.YtfmhbibdnkekcaaW.PrintLast Go.Proofs.YtfmhbibdnkekcaaW.PrintMore
attribute [local go_sem] max2_int min2_int max_two min_two max_three min_three max_four min_four   -- for this text's walks alone
set_option linter.unusedVariables false
set_option linter.unusedSimpArgs false

--PART
/-! ### spigotlaw09_awake: function 7 -/
theorem spigotlaw09_awake_eq : spigotlaw09_awake_p.f 9 = some true := by decide +kernel
def spigotlaw09_awake.f : Option Bool := some true
theorem spigotlaw09_awake.calls (r : Bool) (w : World) (h : spigotlaw09_awake.f = some r) :
    Calls Try.prog 7 #[] w fun e w' => e = .returned (.bool r) ∧ Below w.heap.size w w' :=
  spigotlaw09_awake_p.calls 9 r w (spigotlaw09_awake_eq.trans h)

end Go.Proofs.Ytfmhbibdnkekcaa.Q
