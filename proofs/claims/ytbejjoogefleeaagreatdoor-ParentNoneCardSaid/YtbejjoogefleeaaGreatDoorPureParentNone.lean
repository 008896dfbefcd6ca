/- The walk itself shows that the law answers true (law28.ParentNone.lean). -/
import Derived.Test.YtbejjoogefleeaaGreatDoorOwnParentNone
namespace Go.Proofs.YtbejjoogefleeaaGreatDoor.Pure
open Go.RowKit Go.Proofs.YtbejjoogefleeaaGreatDoor.E Go.Proofs.YtbejjoogefleeaaGreatDoorW.PrintWords Go.Proofs.YtbejjoogefleeaaGreatDoorW.PrintLast Go.Proofs.YtbejjoogefleeaaGreatDoor.parentNone
set_option linter.unusedVariables false
set_option linter.unusedSimpArgs false
theorem ParentNone : Go.Proofs.YtbejjoogefleeaaGreatDoor.parentNone.P := by
  unfold Go.Proofs.YtbejjoogefleeaaGreatDoor.parentNone.P
  intros
  rfl

end Go.Proofs.YtbejjoogefleeaaGreatDoor.Pure
