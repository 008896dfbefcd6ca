/- A form that is none tells nothing: the walk itself shows it (law11.BodyNone.lean). -/
import Derived.Test.YtbkpkfbdpmjgoaaDoorOwnBodyNone
namespace Go.Proofs.YtbkpkfbdpmjgoaaDoor.Pure
open Go.RowKit Go.Proofs.YtbkpkfbdpmjgoaaDoor.Q Go.Proofs.YtbkpkfbdpmjgoaaDoorW.PrintWords Go.Proofs.YtbkpkfbdpmjgoaaDoorW.PrintLast Go.Proofs.YtbkpkfbdpmjgoaaDoor.bodyNone
set_option linter.unusedVariables false
set_option linter.unusedSimpArgs false
theorem BodyNone : Go.Proofs.YtbkpkfbdpmjgoaaDoor.bodyNone.P := by
  intro s0 hok
  have hb : (-9223372036854775808 : Int) ≤ s0.f1 ∧ s0.f1 ≤ 9223372036854775807 := by
    have h := hok.2.1
    simp only [Lit.wf, Bool.and_eq_true, decide_eq_true_eq] at h
    exact h
  unfold spigotlaw11_BodyNone.f
  rw [if_pos hb]

end Go.Proofs.YtbkpkfbdpmjgoaaDoor.Pure
