/- What the law PostOrders says once its arguments are opened. -/
import Derived.Test.YtgfigkfcmkdjdaaDoorzPostOrders3
import Derived.Test.YtgfigkfcmkdjdaaDoorzPostOrders0
import Derived.Test.YtgfigkfcmkdjdaaDoorzPostOrders1
import Derived.Test.YtgfigkfcmkdjdaaDoorzPostOrders2
import Derived.Test.YtgfigkfcmkdjdaaDoorzPostOrders4
import Derived.Test.YtgfigkfcmkdjdaaDoorzPostOrders5
import Derived.Test.YtgfigkfcmkdjdaaDoorzPostOrders6
import Derived.Test.YtgfigkfcmkdjdaaDoorzPostOrders7
import Derived.Test.YtgfigkfcmkdjdaaDoorzPostOrders8
import Derived.Test.YtgfigkfcmkdjdaaDoorzPostOrders9
import Derived.Test.YtgfigkfcmkdjdaaDoorzPostOrders10
import Derived.Test.YtgfigkfcmkdjdaaDoorzPostOrders11
import Derived.Test.YtgfigkfcmkdjdaaDoorzPostOrders12
import Derived.Test.YtgfigkfcmkdjdaaDoorzPostOrders13
import Derived.Test.YtgfigkfcmkdjdaaDoorzPostOrders14
import Derived.Test.YtgfigkfcmkdjdaaDoorzPostOrders15
import Derived.Test.YtgfigkfcmkdjdaaDoorzPostOrders16
import Derived.Test.YtgfigkfcmkdjdaaDoorzPostOrders17
import Derived.Test.YtgfigkfcmkdjdaaDoorzPostOrders18
import Derived.Test.YtgfigkfcmkdjdaaDoorzPostOrders19
import Derived.Test.YtgfigkfcmkdjdaaDoorzPostOrders20
import Derived.Test.YtgfigkfcmkdjdaaDoorzPostOrders21
namespace Go.Proofs.YtgfigkfcmkdjdaaDoor.postOrders
open Go.RowKit Go.Proofs.YtgfigkfcmkdjdaaDoor.B Go.Proofs.YtgfigkfcmkdjdaaDoorW.PrintWords Go.Proofs.YtgfigkfcmkdjdaaDoorW.PrintLast
set_option linter.unusedVariables false
def ok_S41 (x : S41) : Prop := (Lit.int .i64 x.f0).wf = true ∧ (Lit.int .i64 x.f1).wf = true ∧ x.f2.size ≤ 9223372036854775807 ∧ x.f3.size ≤ 9223372036854775807 ∧ (Lit.int .i64 x.f4).wf = true ∧ (Lit.int .i64 x.f5).wf = true ∧ (Lit.int .i64 x.f6).wf = true
set_option maxRecDepth 100000 in
theorem opn_S41 (w : World) : Opn Tryd.prog w 41 k41 ok_S41 := by
  intro H enc fuel cs x h
  obtain ⟨xs, n, _, _, hcl, hxl, hf⟩ := DataW.trod_struct Tryd.underlying41 h
  have hcl' : cs.length = 7 := hcl.trans (by kernel_rfl)
  have hxl' : xs.length = 7 := hxl
  obtain ⟨a0, h0, o0⟩ := opn_field hf 0 3 0 1 _ rfl rfl rfl (by kernel_rfl) (by omega) (opn_int Tryd.underlying3)
  obtain ⟨a1, h1, o1⟩ := opn_field hf 1 3 1 1 _ rfl rfl rfl (by kernel_rfl) (by omega) (opn_int Tryd.underlying3)
  obtain ⟨a2, h2, o2⟩ := opn_field hf 2 9 2 1 _ rfl rfl rfl (by kernel_rfl) (by omega) (opn_string Tryd.underlying9)
  obtain ⟨a3, h3, o3⟩ := opn_field hf 3 9 3 1 _ rfl rfl rfl (by kernel_rfl) (by omega) (opn_string Tryd.underlying9)
  obtain ⟨a4, h4, o4⟩ := opn_field hf 4 3 4 1 _ rfl rfl rfl (by kernel_rfl) (by omega) (opn_int Tryd.underlying3)
  obtain ⟨a5, h5, o5⟩ := opn_field hf 5 3 5 1 _ rfl rfl rfl (by kernel_rfl) (by omega) (opn_int Tryd.underlying3)
  obtain ⟨a6, h6, o6⟩ := opn_field hf 6 3 6 1 _ rfl rfl rfl (by kernel_rfl) (by omega) (opn_int Tryd.underlying3)
  have hk := (opn_step h0 (opn_step h1 (opn_step h2 (opn_step h3 (opn_step h4 (opn_step h5 (opn_last h6 (by omega)) (by omega)) (by omega)) (by omega)) (by omega)) (by omega)) (by omega))
  rw [List.drop_zero] at hk
  exact ⟨⟨a0, a1, a2, a3, a4, a5, a6⟩, hk, ⟨o0, o1, o2, o3, o4, o5, o6⟩⟩
def P : Prop := ∀ (s0 : S41), ok_S41 s0 → ∃ k, spigotlaw14_PostOrders.f k s0.f0 s0.f1 s0.f2 s0.f3 s0.f4 s0.f5 s0.f6 = some true
end Go.Proofs.YtgfigkfcmkdjdaaDoor.postOrders
