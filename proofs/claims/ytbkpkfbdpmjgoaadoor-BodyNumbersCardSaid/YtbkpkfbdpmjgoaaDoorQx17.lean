/- Each Go function that the laws of this seat reach, as a plain Lean function, and its contract: the machine's call does what that function says. -/
import Derived.Test.YtbkpkfbdpmjgoaaDoorQx0
namespace Go.Proofs.YtbkpkfbdpmjgoaaDoor.Q
open Go.RowKit Go.Proofs.YtbkpkfbdpmjgoaaDoorW.PrintWords Go.Proofs.YtbkpkfbdpmjgoaaDoorW.PrintLast Go.Proofs.YtbkpkfbdpmjgoaaDoorW.PrintMore
attribute [local go_sem] max2_int min2_int max_two min_two max_three min_three max_four min_four   -- for this text's walks alone
set_option linter.unusedVariables false
set_option linter.unusedSimpArgs false

--PART
/-! ### spigotref01_minus: function 41 -/
/-! Numbers of different signs are never met here: nothing is said of them. -/
def spigotref01_minus.f (l0 l1 : List Bool) : Option (List Bool) := none
theorem spigotref01_minus.calls (A0 : Option Addr) (c0 : Nat) (l0 : List Bool) (A1 : Option Addr) (c1 : Nat) (l1 : List Bool) (r : List Bool) (w : World) (hr0 : Kd.C Kd.bool w A0 l0.length l0) (hc0 : l0.length ≤ c0) (hr1 : Kd.C Kd.bool w A1 l1.length l1) (hc1 : l1.length ≤ c1) (h : spigotref01_minus.f l0 l1 = some r) :
    Calls Tryd.prog 41 #[.slice A0 l0.length c0, .slice A1 l1.length c1] w fun e w' => ∃ v0_ : Value, e = .returned (v0_) ∧ Kd.R Kd.bool 4 w' w.heap.size (fun _ => True) v0_ r ∧ Below w.heap.size w w' := by
  cases h

end Go.Proofs.YtbkpkfbdpmjgoaaDoor.Q
