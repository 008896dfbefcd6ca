/- What the law AskBack says once its arguments are opened. -/
import Derived.Test.YtgfigkfcmkdjdaaDoorzAskBack2
import Derived.Test.YtgfigkfcmkdjdaaDoorzAskBack0
import Derived.Test.YtgfigkfcmkdjdaaDoorzAskBack1
import Derived.Test.YtgfigkfcmkdjdaaDoorzAskBack3
import Derived.Test.YtgfigkfcmkdjdaaDoorzAskBack4
import Derived.Test.YtgfigkfcmkdjdaaDoorzAskBack5
import Derived.Test.YtgfigkfcmkdjdaaDoorzAskBack6
import Derived.Test.YtgfigkfcmkdjdaaDoorzAskBack7
import Derived.Test.YtgfigkfcmkdjdaaDoorzAskBack8
import Derived.Test.YtgfigkfcmkdjdaaDoorzAskBack9
import Derived.Test.YtgfigkfcmkdjdaaDoorzAskBack10
import Derived.Test.YtgfigkfcmkdjdaaDoorzAskBack11
import Derived.Test.YtgfigkfcmkdjdaaDoorzAskBack12
import Derived.Test.YtgfigkfcmkdjdaaDoorzAskBack13
import Derived.Test.YtgfigkfcmkdjdaaDoorzAskBack14
import Derived.Test.YtgfigkfcmkdjdaaDoorzAskBack15
import Derived.Test.YtgfigkfcmkdjdaaDoorzAskBack16
import Derived.Test.YtgfigkfcmkdjdaaDoorzAskBack17
import Derived.Test.YtgfigkfcmkdjdaaDoorzAskBack18
import Derived.Test.YtgfigkfcmkdjdaaDoorzAskBack19
import Derived.Test.YtgfigkfcmkdjdaaDoorzAskBack20
import Derived.Test.YtgfigkfcmkdjdaaDoorzAskBack21
namespace Go.Proofs.YtgfigkfcmkdjdaaDoor.askBack
open Go.RowKit Go.Proofs.YtgfigkfcmkdjdaaDoor.B Go.Proofs.YtgfigkfcmkdjdaaDoorW.PrintWords Go.Proofs.YtgfigkfcmkdjdaaDoorW.PrintLast
set_option linter.unusedVariables false
def ok_S68 (x : S68) : Prop := (Lit.int .i64 x.f0).wf = true ∧ x.f1.size ≤ 9223372036854775807 ∧ x.f2.size ≤ 9223372036854775807 ∧ x.f3.size ≤ 9223372036854775807 ∧ x.f4.size ≤ 9223372036854775807 ∧ (Lit.int .i64 x.f5).wf = true ∧ (Lit.int .i64 x.f6).wf = true ∧ (Lit.int .i64 x.f7).wf = true ∧ (Lit.int .i64 x.f8).wf = true ∧ (Lit.int .i64 x.f9).wf = true ∧ (Lit.int .i64 x.f10).wf = true ∧ (Lit.int .i64 x.f11).wf = true ∧ (Lit.int .i64 x.f12).wf = true ∧ (∀ a ∈ x.f13, (Lit.int .i64 a).wf = true)
set_option maxRecDepth 100000 in
theorem opn_S68 (w : World) : Opn Tryd.prog w 68 k68 ok_S68 := by
  intro H enc fuel cs x h
  obtain ⟨xs, n, _, _, hcl, hxl, hf⟩ := DataW.trod_struct Tryd.underlying68 h
  have hcl' : cs.length = 14 := hcl.trans (by kernel_rfl)
  have hxl' : xs.length = 14 := hxl
  obtain ⟨a0, h0, o0⟩ := opn_field hf 0 3 0 1 _ rfl rfl rfl (by kernel_rfl) (by omega) (opn_int Tryd.underlying3)
  obtain ⟨a1, h1, o1⟩ := opn_field hf 1 9 1 1 _ rfl rfl rfl (by kernel_rfl) (by omega) (opn_string Tryd.underlying9)
  obtain ⟨a2, h2, o2⟩ := opn_field hf 2 9 2 1 _ rfl rfl rfl (by kernel_rfl) (by omega) (opn_string Tryd.underlying9)
  obtain ⟨a3, h3, o3⟩ := opn_field hf 3 9 3 1 _ rfl rfl rfl (by kernel_rfl) (by omega) (opn_string Tryd.underlying9)
  obtain ⟨a4, h4, o4⟩ := opn_field hf 4 9 4 1 _ rfl rfl rfl (by kernel_rfl) (by omega) (opn_string Tryd.underlying9)
  obtain ⟨a5, h5, o5⟩ := opn_field hf 5 3 5 1 _ rfl rfl rfl (by kernel_rfl) (by omega) (opn_int Tryd.underlying3)
  obtain ⟨a6, h6, o6⟩ := opn_field hf 6 3 6 1 _ rfl rfl rfl (by kernel_rfl) (by omega) (opn_int Tryd.underlying3)
  obtain ⟨a7, h7, o7⟩ := opn_field hf 7 3 7 1 _ rfl rfl rfl (by kernel_rfl) (by omega) (opn_int Tryd.underlying3)
  obtain ⟨a8, h8, o8⟩ := opn_field hf 8 3 8 1 _ rfl rfl rfl (by kernel_rfl) (by omega) (opn_int Tryd.underlying3)
  obtain ⟨a9, h9, o9⟩ := opn_field hf 9 3 9 1 _ rfl rfl rfl (by kernel_rfl) (by omega) (opn_int Tryd.underlying3)
  obtain ⟨a10, h10, o10⟩ := opn_field hf 10 3 10 1 _ rfl rfl rfl (by kernel_rfl) (by omega) (opn_int Tryd.underlying3)
  obtain ⟨a11, h11, o11⟩ := opn_field hf 11 3 11 1 _ rfl rfl rfl (by kernel_rfl) (by omega) (opn_int Tryd.underlying3)
  obtain ⟨a12, h12, o12⟩ := opn_field hf 12 3 12 1 _ rfl rfl rfl (by kernel_rfl) (by omega) (opn_int Tryd.underlying3)
  obtain ⟨a13, h13, o13⟩ := opn_field hf 13 66 13 1 _ rfl rfl rfl (by kernel_rfl) (by omega) (opn_slice Tryd.underlying66 (by kernel_rfl) (opn_int Tryd.underlying3))
  have hk := (opn_step h0 (opn_step h1 (opn_step h2 (opn_step h3 (opn_step h4 (opn_step h5 (opn_step h6 (opn_step h7 (opn_step h8 (opn_step h9 (opn_step h10 (opn_step h11 (opn_step h12 (opn_last h13 (by omega)) (by omega)) (by omega)) (by omega)) (by omega)) (by omega)) (by omega)) (by omega)) (by omega)) (by omega)) (by omega)) (by omega)) (by omega)) (by omega))
  rw [List.drop_zero] at hk
  exact ⟨⟨a0, a1, a2, a3, a4, a5, a6, a7, a8, a9, a10, a11, a12, a13⟩, hk, ⟨o0, o1, o2, o3, o4, o5, o6, o7, o8, o9, o10, o11, o12, o13⟩⟩
def P : Prop := ∀ (s0 : S68), ok_S68 s0 → spigotlaw12_AskBack.f s0.f0 s0.f1 s0.f2 s0.f3 s0.f4 s0.f5 s0.f6 s0.f7 s0.f8 s0.f9 s0.f10 s0.f11 s0.f12 s0.f13 = some true
end Go.Proofs.YtgfigkfcmkdjdaaDoor.askBack
