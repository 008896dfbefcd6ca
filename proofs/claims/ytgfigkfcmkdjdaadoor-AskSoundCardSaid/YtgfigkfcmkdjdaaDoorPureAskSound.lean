/- What is decoded of any bytes is right, and is decoded again as it was from its own body: the walk itself shows it (law12.AskSound.lean). -/
import Derived.Test.YtgfigkfcmkdjdaaDoorOwnAskSound
namespace Go.Proofs.YtgfigkfcmkdjdaaDoor.Pure
open Go.RowKit Go.Proofs.YtgfigkfcmkdjdaaDoor.B Go.Proofs.YtgfigkfcmkdjdaaDoorW.PrintWords Go.Proofs.YtgfigkfcmkdjdaaDoorW.PrintLast Go.Proofs.YtgfigkfcmkdjdaaDoor.askSound
set_option linter.unusedVariables false
set_option linter.unusedSimpArgs false
theorem AskSound : Go.Proofs.YtgfigkfcmkdjdaaDoor.askSound.P := by
  intro a0 h0
  unfold spigotlaw12_AskSound.f
  rw [if_pos h0]

end Go.Proofs.YtgfigkfcmkdjdaaDoor.Pure
