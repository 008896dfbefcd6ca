/- The walk itself shows that the law answers true (law33.SimNone.lean). -/
import Derived.Test.YtlodkmfedpglkaaGreatDoorOwnSimNone
namespace Go.Proofs.YtlodkmfedpglkaaGreatDoor.Pure
open Go.RowKit Go.Proofs.YtlodkmfedpglkaaGreatDoor.E Go.Proofs.YtlodkmfedpglkaaGreatDoorW.PrintWords Go.Proofs.YtlodkmfedpglkaaGreatDoorW.PrintLast Go.Proofs.YtlodkmfedpglkaaGreatDoor.simNone
set_option linter.unusedVariables false
set_option linter.unusedSimpArgs false
theorem SimNone : Go.Proofs.YtlodkmfedpglkaaGreatDoor.simNone.P := by
  unfold Go.Proofs.YtlodkmfedpglkaaGreatDoor.simNone.P
  intros
  rfl

end Go.Proofs.YtlodkmfedpglkaaGreatDoor.Pure
