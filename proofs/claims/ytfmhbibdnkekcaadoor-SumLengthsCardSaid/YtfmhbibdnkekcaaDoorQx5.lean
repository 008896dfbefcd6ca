/- Each Go function that the laws of this seat reach, as a plain Lean function, and its contract: the machine's call does what that function says. -/
import Derived.Test.YtfmhbibdnkekcaaDoorQx0
import Derived.Test.YtfmhbibdnkekcaaDoorQx2
namespace Go.Proofs.YtfmhbibdnkekcaaDoor.Q
open Go.RowKit Go.Proofs.YtfmhbibdnkekcaaDoorW.PrintWords Go.Proofs.YtfmhbibdnkekcaaDoorW.PrintLast Go.Proofs.YtfmhbibdnkekcaaDoorW.PrintMore
attribute [local go_sem] max2_int min2_int max_two min_two max_three min_three max_four min_four   -- for this text's walks alone
set_option linter.unusedVariables false
set_option linter.unusedSimpArgs false

--PART
/-! ### The library's table of powers, which 'strconv.Itoa' reads -/
/-- In this world the table of powers is as the program's text lays it. -/
structure Tabs_ (w : World) : Prop where mk :: (tab : Lib.TabIs Tryd.prog w "internal/strconv.uint64pow10" .u64 Lib.pow10Tab)
theorem Tabs_.below {w w' : World} (h : Tabs_ w) (hb : Below w.heap.size w w') : Tabs_ w' := ⟨(Lib.tabBelow_of_tabIs h.tab) w' hb⟩
theorem decDigits_digitsN (n : Nat) : Lib.decDigits n = digitsN n := by
  induction n using Nat.strongRecOn with
  | _ n ih =>
    by_cases h : n < 10
    · rw [Lib.decDigits_one h, digitsN_small h]
    · rw [digitsN_step (by omega), ← ih (n / 10) (by omega), Lib.decDigits, dif_neg h]

end Go.Proofs.YtfmhbibdnkekcaaDoor.Q
