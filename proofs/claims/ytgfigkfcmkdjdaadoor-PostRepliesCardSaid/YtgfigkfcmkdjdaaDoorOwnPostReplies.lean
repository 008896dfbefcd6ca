/- What the law PostReplies says once its arguments are opened. -/
import Derived.Test.YtgfigkfcmkdjdaaDoorzPostReplies3
import Derived.Test.YtgfigkfcmkdjdaaDoorzPostReplies0
import Derived.Test.YtgfigkfcmkdjdaaDoorzPostReplies1
import Derived.Test.YtgfigkfcmkdjdaaDoorzPostReplies2
import Derived.Test.YtgfigkfcmkdjdaaDoorzPostReplies4
import Derived.Test.YtgfigkfcmkdjdaaDoorzPostReplies5
import Derived.Test.YtgfigkfcmkdjdaaDoorzPostReplies6
import Derived.Test.YtgfigkfcmkdjdaaDoorzPostReplies7
import Derived.Test.YtgfigkfcmkdjdaaDoorzPostReplies8
import Derived.Test.YtgfigkfcmkdjdaaDoorzPostReplies9
import Derived.Test.YtgfigkfcmkdjdaaDoorzPostReplies10
import Derived.Test.YtgfigkfcmkdjdaaDoorzPostReplies11
import Derived.Test.YtgfigkfcmkdjdaaDoorzPostReplies12
import Derived.Test.YtgfigkfcmkdjdaaDoorzPostReplies13
import Derived.Test.YtgfigkfcmkdjdaaDoorzPostReplies14
import Derived.Test.YtgfigkfcmkdjdaaDoorzPostReplies15
import Derived.Test.YtgfigkfcmkdjdaaDoorzPostReplies16
import Derived.Test.YtgfigkfcmkdjdaaDoorzPostReplies17
import Derived.Test.YtgfigkfcmkdjdaaDoorzPostReplies18
import Derived.Test.YtgfigkfcmkdjdaaDoorzPostReplies19
import Derived.Test.YtgfigkfcmkdjdaaDoorzPostReplies20
import Derived.Test.YtgfigkfcmkdjdaaDoorzPostReplies21
import Derived.Test.YtgfigkfcmkdjdaaDoorzPostReplies22
namespace Go.Proofs.YtgfigkfcmkdjdaaDoor.postReplies
open Go.RowKit Go.Proofs.YtgfigkfcmkdjdaaDoor.B Go.Proofs.YtgfigkfcmkdjdaaDoorW.PrintWords Go.Proofs.YtgfigkfcmkdjdaaDoorW.PrintLast
set_option linter.unusedVariables false
def ok_S54 (x : S54) : Prop := (Lit.int .i64 x.f0).wf = true ∧ (Lit.int .i64 x.f1).wf = true ∧ x.f2.size ≤ 9223372036854775807 ∧ x.f3.size ≤ 9223372036854775807 ∧ (Lit.int .i64 x.f4).wf = true ∧ (Lit.int .i64 x.f5).wf = true ∧ x.f6.size ≤ 9223372036854775807
set_option maxRecDepth 100000 in
theorem opn_S54 (w : World) : Opn Tryd.prog w 54 k54 ok_S54 := by
  intro H enc fuel cs x h
  obtain ⟨xs, n, _, _, hcl, hxl, hf⟩ := DataW.trod_struct Tryd.underlying54 h
  have hcl' : cs.length = 7 := hcl.trans (by kernel_rfl)
  have hxl' : xs.length = 7 := hxl
  obtain ⟨a0, h0, o0⟩ := opn_field hf 0 3 0 1 _ rfl rfl rfl (by kernel_rfl) (by omega) (opn_int Tryd.underlying3)
  obtain ⟨a1, h1, o1⟩ := opn_field hf 1 3 1 1 _ rfl rfl rfl (by kernel_rfl) (by omega) (opn_int Tryd.underlying3)
  obtain ⟨a2, h2, o2⟩ := opn_field hf 2 9 2 1 _ rfl rfl rfl (by kernel_rfl) (by omega) (opn_string Tryd.underlying9)
  obtain ⟨a3, h3, o3⟩ := opn_field hf 3 9 3 1 _ rfl rfl rfl (by kernel_rfl) (by omega) (opn_string Tryd.underlying9)
  obtain ⟨a4, h4, o4⟩ := opn_field hf 4 3 4 1 _ rfl rfl rfl (by kernel_rfl) (by omega) (opn_int Tryd.underlying3)
  obtain ⟨a5, h5, o5⟩ := opn_field hf 5 3 5 1 _ rfl rfl rfl (by kernel_rfl) (by omega) (opn_int Tryd.underlying3)
  obtain ⟨a6, h6, o6⟩ := opn_field hf 6 9 6 1 _ rfl rfl rfl (by kernel_rfl) (by omega) (opn_string Tryd.underlying9)
  have hk := (opn_step h0 (opn_step h1 (opn_step h2 (opn_step h3 (opn_step h4 (opn_step h5 (opn_last h6 (by omega)) (by omega)) (by omega)) (by omega)) (by omega)) (by omega)) (by omega))
  rw [List.drop_zero] at hk
  exact ⟨⟨a0, a1, a2, a3, a4, a5, a6⟩, hk, ⟨o0, o1, o2, o3, o4, o5, o6⟩⟩
def P : Prop := ∀ (s0 : S54), ok_S54 s0 → ∃ k, spigotlaw14_PostReplies.f k s0.f0 s0.f1 s0.f2 s0.f3 s0.f4 s0.f5 s0.f6 = some true
end Go.Proofs.YtgfigkfcmkdjdaaDoor.postReplies
