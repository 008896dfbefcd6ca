/- What is encoded is decoded as it was: the walk itself shows that the law answers true (law12.AskBack.lean). -/
import Derived.Test.YtgfigkfcmkdjdaaDoorOwnAskBack
namespace Go.Proofs.YtgfigkfcmkdjdaaDoor.Pure
open Go.RowKit Go.Proofs.YtgfigkfcmkdjdaaDoor.B Go.Proofs.YtgfigkfcmkdjdaaDoorW.PrintWords Go.Proofs.YtgfigkfcmkdjdaaDoorW.PrintLast Go.Proofs.YtgfigkfcmkdjdaaDoor.askBack
set_option linter.unusedVariables false
set_option linter.unusedSimpArgs false
theorem AskBack : Go.Proofs.YtgfigkfcmkdjdaaDoor.askBack.P := by
  intro s0 h0
  rfl

end Go.Proofs.YtgfigkfcmkdjdaaDoor.Pure
