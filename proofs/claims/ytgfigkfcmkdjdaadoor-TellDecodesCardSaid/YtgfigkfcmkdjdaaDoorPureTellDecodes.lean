/- Any bytes are the document's tell, or have its first error: both sides are the same plain function of the bytes. -/
import Derived.Test.YtgfigkfcmkdjdaaDoorzTellDecodes2
import Derived.Test.YtgfigkfcmkdjdaaDoorzTellDecodes0
import Derived.Test.YtgfigkfcmkdjdaaDoorzTellDecodes1
import Derived.Test.YtgfigkfcmkdjdaaDoorzTellDecodes3
import Derived.Test.YtgfigkfcmkdjdaaDoorzTellDecodes4
import Derived.Test.YtgfigkfcmkdjdaaDoorzTellDecodes5
import Derived.Test.YtgfigkfcmkdjdaaDoorzTellDecodes6
import Derived.Test.YtgfigkfcmkdjdaaDoorzTellDecodes7
import Derived.Test.YtgfigkfcmkdjdaaDoorzTellDecodes8
import Derived.Test.YtgfigkfcmkdjdaaDoorzTellDecodes9
import Derived.Test.YtgfigkfcmkdjdaaDoorzTellDecodes10
import Derived.Test.YtgfigkfcmkdjdaaDoorzTellDecodes11
import Derived.Test.YtgfigkfcmkdjdaaDoorzTellDecodes12
import Derived.Test.YtgfigkfcmkdjdaaDoorzTellDecodes13
import Derived.Test.YtgfigkfcmkdjdaaDoorzTellDecodes14
import Derived.Test.YtgfigkfcmkdjdaaDoorzTellDecodes15
import Derived.Test.YtgfigkfcmkdjdaaDoorzTellDecodes16
import Derived.Test.YtgfigkfcmkdjdaaDoorzTellDecodes17
import Derived.Test.YtgfigkfcmkdjdaaDoorzTellDecodes18
import Derived.Test.YtgfigkfcmkdjdaaDoorzTellDecodes19
import Derived.Test.YtgfigkfcmkdjdaaDoorzTellDecodes20
import Derived.Test.YtgfigkfcmkdjdaaDoorzTellDecodes21
import Derived.Test.YtgfigkfcmkdjdaaDoorzTellDecodes22
import Derived.Test.YtgfigkfcmkdjdaaDoorzTellDecodes23
namespace Go.Proofs.YtgfigkfcmkdjdaaDoor.Pure
set_option linter.unusedVariables false
set_option linter.unusedSimpArgs false
open Go.RowKit Go.Proofs.YtgfigkfcmkdjdaaDoor.B Go.Proofs.YtgfigkfcmkdjdaaDoorW.PrintWords Go.Proofs.YtgfigkfcmkdjdaaDoorW.PrintLast

theorem TellDecodes : spigotlaw13_TellDecodes.Pure := by
  intro a0 h0
  have e1 : tell_Decode.f a0 = some (flatT (tellD a0)) := by unfold tell_Decode.f; rw [if_pos h0]
  have e2 : spigotref13_Decode.f a0 = some (flatT (tellD a0)) := by unfold spigotref13_Decode.f; rw [if_pos h0]
  unfold spigotlaw13_TellDecodes.f spigotlaw13_awake.f
  simp only [Option.bind_some]
  rw [if_pos trivial]
  by_cases c : (a0.size : Int) > 5000
  · rw [if_pos c]
  · rw [if_neg c, e1, e2]
    generalize tellD a0 = r
    simp [spigotlaw13_Plain.f, flatT]

end Go.Proofs.YtgfigkfcmkdjdaaDoor.Pure
