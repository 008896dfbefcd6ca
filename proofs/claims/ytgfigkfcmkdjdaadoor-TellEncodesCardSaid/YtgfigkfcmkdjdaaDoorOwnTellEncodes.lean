/- What the law TellEncodes says once its arguments are opened. -/
import Derived.Test.YtgfigkfcmkdjdaaDoorzTellEncodes2
import Derived.Test.YtgfigkfcmkdjdaaDoorzTellEncodes0
import Derived.Test.YtgfigkfcmkdjdaaDoorzTellEncodes1
import Derived.Test.YtgfigkfcmkdjdaaDoorzTellEncodes3
import Derived.Test.YtgfigkfcmkdjdaaDoorzTellEncodes4
import Derived.Test.YtgfigkfcmkdjdaaDoorzTellEncodes5
import Derived.Test.YtgfigkfcmkdjdaaDoorzTellEncodes6
import Derived.Test.YtgfigkfcmkdjdaaDoorzTellEncodes7
import Derived.Test.YtgfigkfcmkdjdaaDoorzTellEncodes8
import Derived.Test.YtgfigkfcmkdjdaaDoorzTellEncodes9
import Derived.Test.YtgfigkfcmkdjdaaDoorzTellEncodes10
import Derived.Test.YtgfigkfcmkdjdaaDoorzTellEncodes11
import Derived.Test.YtgfigkfcmkdjdaaDoorzTellEncodes12
import Derived.Test.YtgfigkfcmkdjdaaDoorzTellEncodes13
import Derived.Test.YtgfigkfcmkdjdaaDoorzTellEncodes14
import Derived.Test.YtgfigkfcmkdjdaaDoorzTellEncodes15
import Derived.Test.YtgfigkfcmkdjdaaDoorzTellEncodes16
import Derived.Test.YtgfigkfcmkdjdaaDoorzTellEncodes17
import Derived.Test.YtgfigkfcmkdjdaaDoorzTellEncodes18
import Derived.Test.YtgfigkfcmkdjdaaDoorzTellEncodes19
namespace Go.Proofs.YtgfigkfcmkdjdaaDoor.tellEncodes
open Go.RowKit Go.Proofs.YtgfigkfcmkdjdaaDoor.B Go.Proofs.YtgfigkfcmkdjdaaDoorW.PrintWords Go.Proofs.YtgfigkfcmkdjdaaDoorW.PrintLast
set_option linter.unusedVariables false
def ok_S23 (x : S23) : Prop := (Lit.int .i64 x.f0).wf = true ∧ x.f1.size ≤ 9223372036854775807 ∧ x.f2.size ≤ 9223372036854775807 ∧ (Lit.int .i64 x.f3).wf = true ∧ (Lit.int .i64 x.f4).wf = true ∧ (Lit.int .i64 x.f5).wf = true ∧ (Lit.int .i64 x.f6).wf = true ∧ (Lit.int .i64 x.f7).wf = true ∧ (Lit.int .i64 x.f8).wf = true ∧ (Lit.int .i64 x.f9).wf = true
set_option maxRecDepth 100000 in
theorem opn_S23 (w : World) : Opn Tryd.prog w 23 k23 ok_S23 := by
  intro H enc fuel cs x h
  obtain ⟨xs, n, _, _, hcl, hxl, hf⟩ := DataW.trod_struct Tryd.underlying23 h
  have hcl' : cs.length = 10 := hcl.trans (by kernel_rfl)
  have hxl' : xs.length = 10 := hxl
  obtain ⟨a0, h0, o0⟩ := opn_field hf 0 3 0 1 _ rfl rfl rfl (by kernel_rfl) (by omega) (opn_int Tryd.underlying3)
  obtain ⟨a1, h1, o1⟩ := opn_field hf 1 9 1 1 _ rfl rfl rfl (by kernel_rfl) (by omega) (opn_string Tryd.underlying9)
  obtain ⟨a2, h2, o2⟩ := opn_field hf 2 9 2 1 _ rfl rfl rfl (by kernel_rfl) (by omega) (opn_string Tryd.underlying9)
  obtain ⟨a3, h3, o3⟩ := opn_field hf 3 3 3 1 _ rfl rfl rfl (by kernel_rfl) (by omega) (opn_int Tryd.underlying3)
  obtain ⟨a4, h4, o4⟩ := opn_field hf 4 3 4 1 _ rfl rfl rfl (by kernel_rfl) (by omega) (opn_int Tryd.underlying3)
  obtain ⟨a5, h5, o5⟩ := opn_field hf 5 3 5 1 _ rfl rfl rfl (by kernel_rfl) (by omega) (opn_int Tryd.underlying3)
  obtain ⟨a6, h6, o6⟩ := opn_field hf 6 3 6 1 _ rfl rfl rfl (by kernel_rfl) (by omega) (opn_int Tryd.underlying3)
  obtain ⟨a7, h7, o7⟩ := opn_field hf 7 3 7 1 _ rfl rfl rfl (by kernel_rfl) (by omega) (opn_int Tryd.underlying3)
  obtain ⟨a8, h8, o8⟩ := opn_field hf 8 3 8 1 _ rfl rfl rfl (by kernel_rfl) (by omega) (opn_int Tryd.underlying3)
  obtain ⟨a9, h9, o9⟩ := opn_field hf 9 3 9 1 _ rfl rfl rfl (by kernel_rfl) (by omega) (opn_int Tryd.underlying3)
  have hk := (opn_step h0 (opn_step h1 (opn_step h2 (opn_step h3 (opn_step h4 (opn_step h5 (opn_step h6 (opn_step h7 (opn_step h8 (opn_last h9 (by omega)) (by omega)) (by omega)) (by omega)) (by omega)) (by omega)) (by omega)) (by omega)) (by omega)) (by omega))
  rw [List.drop_zero] at hk
  exact ⟨⟨a0, a1, a2, a3, a4, a5, a6, a7, a8, a9⟩, hk, ⟨o0, o1, o2, o3, o4, o5, o6, o7, o8, o9⟩⟩
def P : Prop := ∀ (s0 : S23), ok_S23 s0 → ∃ k, spigotlaw13_TellEncodes.f k s0.f0 s0.f1 s0.f2 s0.f3 s0.f4 s0.f5 s0.f6 s0.f7 s0.f8 s0.f9 = some true
end Go.Proofs.YtgfigkfcmkdjdaaDoor.tellEncodes
