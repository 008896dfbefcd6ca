/- Any bytes are the document's ask, or have its first error, beside its tag: the walk itself shows it (law12.AskDecodes.lean). -/
import Derived.Test.YtgfigkfcmkdjdaaGreatDoorOwnAskDecodes
namespace Go.Proofs.YtgfigkfcmkdjdaaGreatDoor.Pure
open Go.RowKit Go.Proofs.YtgfigkfcmkdjdaaGreatDoor.B Go.Proofs.YtgfigkfcmkdjdaaGreatDoorW.PrintWords Go.Proofs.YtgfigkfcmkdjdaaGreatDoorW.PrintLast Go.Proofs.YtgfigkfcmkdjdaaGreatDoor.askDecodes
set_option linter.unusedVariables false
set_option linter.unusedSimpArgs false
theorem AskDecodes : Go.Proofs.YtgfigkfcmkdjdaaGreatDoor.askDecodes.P := by
  intro a0 h0
  unfold spigotlaw12_AskDecodes.f
  rw [if_pos h0]

end Go.Proofs.YtgfigkfcmkdjdaaGreatDoor.Pure
