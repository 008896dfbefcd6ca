/- Any bytes are the document's order, and the document's reply, or have the first error: the walk itself shows it (law14.PostDecodes.lean). -/
import Derived.Test.YtgfigkfcmkdjdaaDoorOwnPostDecodes
namespace Go.Proofs.YtgfigkfcmkdjdaaDoor.Pure
open Go.RowKit Go.Proofs.YtgfigkfcmkdjdaaDoor.B Go.Proofs.YtgfigkfcmkdjdaaDoorW.PrintWords Go.Proofs.YtgfigkfcmkdjdaaDoorW.PrintLast Go.Proofs.YtgfigkfcmkdjdaaDoor.postDecodes
set_option linter.unusedVariables false
set_option linter.unusedSimpArgs false
theorem PostDecodes : Go.Proofs.YtgfigkfcmkdjdaaDoor.postDecodes.P := by
  intro a0 h0
  unfold spigotlaw14_PostDecodes.f
  rw [if_pos h0]

end Go.Proofs.YtgfigkfcmkdjdaaDoor.Pure
