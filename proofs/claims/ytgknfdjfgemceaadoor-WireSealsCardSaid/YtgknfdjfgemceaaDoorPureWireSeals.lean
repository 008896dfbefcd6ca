/- Any body has the document's message, or is refused. -/
import Derived.Test.YtgknfdjfgemceaaDoorQx26
namespace Go.Proofs.YtgknfdjfgemceaaDoor.Pure
set_option linter.unusedVariables false
set_option linter.unusedSimpArgs false
open Go.RowKit Go.Proofs.YtgknfdjfgemceaaDoor.Q Go.Proofs.YtgknfdjfgemceaaDoorW.PrintWords Go.Proofs.YtgknfdjfgemceaaDoorW.PrintLast

theorem WireSeals : spigotlaw10_WireSeals.Pure := by
  intro a0 h0
  unfold spigotlaw10_WireSeals.f spigotlaw10_awake.f wire_Seal.f spigotref10_Seal.f
  rw [if_pos h0]
  simp only [Option.bind_some, if_true]
  split
  · rfl
  · simp

end Go.Proofs.YtgknfdjfgemceaaDoor.Pure
