/- What the law AskEncodes says once its arguments are opened. -/
import Derived.Test.YtgfigkfcmkdjdaaGreatDoorzAskEncodes2
import Derived.Test.YtgfigkfcmkdjdaaGreatDoorzAskEncodes0
import Derived.Test.YtgfigkfcmkdjdaaGreatDoorzAskEncodes1
import Derived.Test.YtgfigkfcmkdjdaaGreatDoorzAskEncodes3
import Derived.Test.YtgfigkfcmkdjdaaGreatDoorzAskEncodes4
import Derived.Test.YtgfigkfcmkdjdaaGreatDoorzAskEncodes5
import Derived.Test.YtgfigkfcmkdjdaaGreatDoorzAskEncodes6
import Derived.Test.YtgfigkfcmkdjdaaGreatDoorzAskEncodes7
import Derived.Test.YtgfigkfcmkdjdaaGreatDoorzAskEncodes8
import Derived.Test.YtgfigkfcmkdjdaaGreatDoorzAskEncodes9
import Derived.Test.YtgfigkfcmkdjdaaGreatDoorzAskEncodes10
import Derived.Test.YtgfigkfcmkdjdaaGreatDoorzAskEncodes11
import Derived.Test.YtgfigkfcmkdjdaaGreatDoorzAskEncodes12
import Derived.Test.YtgfigkfcmkdjdaaGreatDoorzAskEncodes13
import Derived.Test.YtgfigkfcmkdjdaaGreatDoorzAskEncodes14
import Derived.Test.YtgfigkfcmkdjdaaGreatDoorzAskEncodes15
import Derived.Test.YtgfigkfcmkdjdaaGreatDoorzAskEncodes16
import Derived.Test.YtgfigkfcmkdjdaaGreatDoorzAskEncodes17
import Derived.Test.YtgfigkfcmkdjdaaGreatDoorzAskEncodes18
import Derived.Test.YtgfigkfcmkdjdaaGreatDoorzAskEncodes19
import Derived.Test.YtgfigkfcmkdjdaaGreatDoorzAskEncodes20
import Derived.Test.YtgfigkfcmkdjdaaGreatDoorzAskEncodes21
import Derived.Test.YtgfigkfcmkdjdaaGreatDoorzAskEncodes22
import Derived.Test.YtgfigkfcmkdjdaaGreatDoorzAskEncodes23
namespace Go.Proofs.YtgfigkfcmkdjdaaGreatDoor.askEncodes
open Go.RowKit Go.Proofs.YtgfigkfcmkdjdaaGreatDoor.B Go.Proofs.YtgfigkfcmkdjdaaGreatDoorW.PrintWords Go.Proofs.YtgfigkfcmkdjdaaGreatDoorW.PrintLast
set_option linter.unusedVariables false
def ok_S24 (x : S24) : Prop := (Lit.int .i64 x.f0).wf = true ∧ x.f1.size ≤ 9223372036854775807 ∧ x.f2.size ≤ 9223372036854775807 ∧ x.f3.size ≤ 9223372036854775807 ∧ x.f4.size ≤ 9223372036854775807 ∧ (Lit.int .i64 x.f5).wf = true ∧ (Lit.int .i64 x.f6).wf = true ∧ (Lit.int .i64 x.f7).wf = true ∧ (Lit.int .i64 x.f8).wf = true ∧ (Lit.int .i64 x.f9).wf = true ∧ (Lit.int .i64 x.f10).wf = true ∧ (Lit.int .i64 x.f11).wf = true ∧ (Lit.int .i64 x.f12).wf = true ∧ (∀ a ∈ x.f13, (Lit.int .i64 a).wf = true)
set_option maxRecDepth 100000 in
theorem opn_S24 (w : World) : Opn Tryz.prog w 24 k24 ok_S24 := by
  intro H enc fuel cs x h
  obtain ⟨xs, n, _, _, hcl, hxl, hf⟩ := DataW.trod_struct Tryz.underlying24 h
  have hcl' : cs.length = 14 := hcl.trans (by kernel_rfl)
  have hxl' : xs.length = 14 := hxl
  obtain ⟨a0, h0, o0⟩ := opn_field hf 0 3 0 1 _ rfl rfl rfl (by kernel_rfl) (by omega) (opn_int Tryz.underlying3)
  obtain ⟨a1, h1, o1⟩ := opn_field hf 1 9 1 1 _ rfl rfl rfl (by kernel_rfl) (by omega) (opn_string Tryz.underlying9)
  obtain ⟨a2, h2, o2⟩ := opn_field hf 2 9 2 1 _ rfl rfl rfl (by kernel_rfl) (by omega) (opn_string Tryz.underlying9)
  obtain ⟨a3, h3, o3⟩ := opn_field hf 3 9 3 1 _ rfl rfl rfl (by kernel_rfl) (by omega) (opn_string Tryz.underlying9)
  obtain ⟨a4, h4, o4⟩ := opn_field hf 4 9 4 1 _ rfl rfl rfl (by kernel_rfl) (by omega) (opn_string Tryz.underlying9)
  obtain ⟨a5, h5, o5⟩ := opn_field hf 5 3 5 1 _ rfl rfl rfl (by kernel_rfl) (by omega) (opn_int Tryz.underlying3)
  obtain ⟨a6, h6, o6⟩ := opn_field hf 6 3 6 1 _ rfl rfl rfl (by kernel_rfl) (by omega) (opn_int Tryz.underlying3)
  obtain ⟨a7, h7, o7⟩ := opn_field hf 7 3 7 1 _ rfl rfl rfl (by kernel_rfl) (by omega) (opn_int Tryz.underlying3)
  obtain ⟨a8, h8, o8⟩ := opn_field hf 8 3 8 1 _ rfl rfl rfl (by kernel_rfl) (by omega) (opn_int Tryz.underlying3)
  obtain ⟨a9, h9, o9⟩ := opn_field hf 9 3 9 1 _ rfl rfl rfl (by kernel_rfl) (by omega) (opn_int Tryz.underlying3)
  obtain ⟨a10, h10, o10⟩ := opn_field hf 10 3 10 1 _ rfl rfl rfl (by kernel_rfl) (by omega) (opn_int Tryz.underlying3)
  obtain ⟨a11, h11, o11⟩ := opn_field hf 11 3 11 1 _ rfl rfl rfl (by kernel_rfl) (by omega) (opn_int Tryz.underlying3)
  obtain ⟨a12, h12, o12⟩ := opn_field hf 12 3 12 1 _ rfl rfl rfl (by kernel_rfl) (by omega) (opn_int Tryz.underlying3)
  obtain ⟨a13, h13, o13⟩ := opn_field hf 13 22 13 1 _ rfl rfl rfl (by kernel_rfl) (by omega) (opn_slice Tryz.underlying22 (by kernel_rfl) (opn_int Tryz.underlying3))
  have hk := (opn_step h0 (opn_step h1 (opn_step h2 (opn_step h3 (opn_step h4 (opn_step h5 (opn_step h6 (opn_step h7 (opn_step h8 (opn_step h9 (opn_step h10 (opn_step h11 (opn_step h12 (opn_last h13 (by omega)) (by omega)) (by omega)) (by omega)) (by omega)) (by omega)) (by omega)) (by omega)) (by omega)) (by omega)) (by omega)) (by omega)) (by omega)) (by omega))
  rw [List.drop_zero] at hk
  exact ⟨⟨a0, a1, a2, a3, a4, a5, a6, a7, a8, a9, a10, a11, a12, a13⟩, hk, ⟨o0, o1, o2, o3, o4, o5, o6, o7, o8, o9, o10, o11, o12, o13⟩⟩
def P : Prop := ∀ (s0 : S24), ok_S24 s0 → spigotlaw12_AskEncodes.f s0.f0 s0.f1 s0.f2 s0.f3 s0.f4 s0.f5 s0.f6 s0.f7 s0.f8 s0.f9 s0.f10 s0.f11 s0.f12 s0.f13 = some true
end Go.Proofs.YtgfigkfcmkdjdaaGreatDoor.askEncodes
