/- Any ask is right just if the document says so, and has the document's body: the walk itself shows that the law answers true (law12.AskEncodes.lean). -/
import Derived.Test.YtgfigkfcmkdjdaaGreatDoorOwnAskEncodes
namespace Go.Proofs.YtgfigkfcmkdjdaaGreatDoor.Pure
open Go.RowKit Go.Proofs.YtgfigkfcmkdjdaaGreatDoor.B Go.Proofs.YtgfigkfcmkdjdaaGreatDoorW.PrintWords Go.Proofs.YtgfigkfcmkdjdaaGreatDoorW.PrintLast Go.Proofs.YtgfigkfcmkdjdaaGreatDoor.askEncodes
set_option linter.unusedVariables false
set_option linter.unusedSimpArgs false
theorem AskEncodes : Go.Proofs.YtgfigkfcmkdjdaaGreatDoor.askEncodes.P := by
  intro s0 h0
  rfl

end Go.Proofs.YtgfigkfcmkdjdaaGreatDoor.Pure
