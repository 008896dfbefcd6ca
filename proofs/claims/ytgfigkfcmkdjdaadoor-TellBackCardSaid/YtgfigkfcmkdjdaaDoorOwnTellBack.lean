/- What the law TellBack says once its arguments are opened. -/
import Derived.Test.YtgfigkfcmkdjdaaDoorzTellBack2
import Derived.Test.YtgfigkfcmkdjdaaDoorzTellBack0
import Derived.Test.YtgfigkfcmkdjdaaDoorzTellBack1
import Derived.Test.YtgfigkfcmkdjdaaDoorzTellBack3
import Derived.Test.YtgfigkfcmkdjdaaDoorzTellBack4
import Derived.Test.YtgfigkfcmkdjdaaDoorzTellBack5
import Derived.Test.YtgfigkfcmkdjdaaDoorzTellBack6
import Derived.Test.YtgfigkfcmkdjdaaDoorzTellBack7
import Derived.Test.YtgfigkfcmkdjdaaDoorzTellBack8
import Derived.Test.YtgfigkfcmkdjdaaDoorzTellBack9
import Derived.Test.YtgfigkfcmkdjdaaDoorzTellBack10
import Derived.Test.YtgfigkfcmkdjdaaDoorzTellBack11
import Derived.Test.YtgfigkfcmkdjdaaDoorzTellBack12
import Derived.Test.YtgfigkfcmkdjdaaDoorzTellBack13
import Derived.Test.YtgfigkfcmkdjdaaDoorzTellBack14
namespace Go.Proofs.YtgfigkfcmkdjdaaDoor.tellBack
open Go.RowKit Go.Proofs.YtgfigkfcmkdjdaaDoor.B Go.Proofs.YtgfigkfcmkdjdaaDoorW.PrintWords Go.Proofs.YtgfigkfcmkdjdaaDoorW.PrintLast
set_option linter.unusedVariables false
def ok_S23 (x : S23) : Prop := (Lit.int .i64 x.f0).wf = true ∧ x.f1.size ≤ 9223372036854775807 ∧ x.f2.size ≤ 9223372036854775807 ∧ (Lit.int .i64 x.f3).wf = true ∧ (Lit.int .i64 x.f4).wf = true ∧ (Lit.int .i64 x.f5).wf = true ∧ (Lit.int .i64 x.f6).wf = true ∧ (Lit.int .i64 x.f7).wf = true ∧ (Lit.int .i64 x.f8).wf = true ∧ (Lit.int .i64 x.f9).wf = true
set_option maxRecDepth 100000 in
theorem opn_S23 (w : World) : Opn Tryd.prog w 23 k23 ok_S23 := by
  intro H enc fuel cs x h
  obtain ⟨xs, n, _, _, hcl, hxl, hf⟩ := DataW.trod_struct Tryd.underlying23 h
  have hcl' : cs.length = 10 := hcl.trans (by kernel_rfl)
  have hxl' : xs.length = 10 := hxl
  obtain ⟨a0, h0, o0⟩ := opn_field hf 0 3 0 1 _ rfl rfl rfl (by kernel_rfl) (by omega) (opn_int Tryd.underlying3)
  obtain ⟨a1, h1, o1⟩ := opn_field hf 1 9 1 1 _ rfl rfl rfl (by kernel_rfl) (by omega) (opn_string Tryd.underlying9)
  obtain ⟨a2, h2, o2⟩ := opn_field hf 2 9 2 1 _ rfl rfl rfl (by kernel_rfl) (by omega) (opn_string Tryd.underlying9)
  obtain ⟨a3, h3, o3⟩ := opn_field hf 3 3 3 1 _ rfl rfl rfl (by kernel_rfl) (by omega) (opn_int Tryd.underlying3)
  obtain ⟨a4, h4, o4⟩ := opn_field hf 4 3 4 1 _ rfl rfl rfl (by kernel_rfl) (by omega) (opn_int Tryd.underlying3)
  obtain ⟨a5, h5, o5⟩ := opn_field hf 5 3 5 1 _ rfl rfl rfl (by kernel_rfl) (by omega) (opn_int Tryd.underlying3)
  obtain ⟨a6, h6, o6⟩ := opn_field hf 6 3 6 1 _ rfl rfl rfl (by kernel_rfl) (by omega) (opn_int Tryd.underlying3)
  obtain ⟨a7, h7, o7⟩ := opn_field hf 7 3 7 1 _ rfl rfl rfl (by kernel_rfl) (by omega) (opn_int Tryd.underlying3)
  obtain ⟨a8, h8, o8⟩ := opn_field hf 8 3 8 1 _ rfl rfl rfl (by kernel_rfl) (by omega) (opn_int Tryd.underlying3)
  obtain ⟨a9, h9, o9⟩ := opn_field hf 9 3 9 1 _ rfl rfl rfl (by kernel_rfl) (by omega) (opn_int Tryd.underlying3)
  have hk := (opn_step h0 (opn_step h1 (opn_step h2 (opn_step h3 (opn_step h4 (opn_step h5 (opn_step h6 (opn_step h7 (opn_step h8 (opn_last h9 (by omega)) (by omega)) (by omega)) (by omega)) (by omega)) (by omega)) (by omega)) (by omega)) (by omega)) (by omega))
  rw [List.drop_zero] at hk
  exact ⟨⟨a0, a1, a2, a3, a4, a5, a6, a7, a8, a9⟩, hk, ⟨o0, o1, o2, o3, o4, o5, o6, o7, o8, o9⟩⟩
def P : Prop := ∀ (s0 : S23) (a1 : ByteArray), ok_S23 s0 → a1.size ≤ 140737488351232 → ∃ k, spigotlaw13_TellBack.f k s0.f0 s0.f1 s0.f2 s0.f3 s0.f4 s0.f5 s0.f6 s0.f7 s0.f8 s0.f9 a1 = some true
end Go.Proofs.YtgfigkfcmkdjdaaDoor.tellBack
