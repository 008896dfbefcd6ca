/- What the law PhaseBack says once its arguments are opened. -/
import Derived.Test.YtcjilccldfkhmaaDoorBx21
namespace Go.Proofs.YtcjilccldfkhmaaDoor.phaseBack
open Go.RowKit Go.Proofs.YtcjilccldfkhmaaDoor.B Go.Proofs.YtcjilccldfkhmaaDoorW.PrintWords Go.Proofs.YtcjilccldfkhmaaDoorW.PrintLast
set_option linter.unusedVariables false
instance : Inhabited S37 := ⟨z37⟩
def ok_S37 (x : S37) : Prop := (Lit.int .i64 x.f0).wf = true ∧ (Lit.int .i64 x.f1).wf = true
set_option maxRecDepth 100000 in
theorem opn_S37 (w : World) : Opn Tryd.prog w 37 k37 ok_S37 := by
  intro H enc fuel cs x h
  obtain ⟨xs, n, _, _, hcl, hxl, hf⟩ := DataW.trod_struct Tryd.underlying37 h
  have hcl' : cs.length = 2 := hcl.trans (by kernel_rfl)
  have hxl' : xs.length = 2 := hxl
  obtain ⟨a0, h0, o0⟩ := opn_field hf 0 3 0 1 _ rfl rfl rfl (by kernel_rfl) (by omega) (opn_int Tryd.underlying3)
  obtain ⟨a1, h1, o1⟩ := opn_field hf 1 3 1 1 _ rfl rfl rfl (by kernel_rfl) (by omega) (opn_int Tryd.underlying3)
  have hk := (opn_step h0 (opn_last h1 (by omega)) (by omega))
  rw [List.drop_zero] at hk
  exact ⟨⟨a0, a1⟩, hk, ⟨o0, o1⟩⟩
def P : Prop := ∀ (a0 : ByteArray) (l1 : List (S37)) (a2 : Int), a0.size ≤ 140737488351232 → (∀ a ∈ l1, ok_S37 a) → (Lit.int .i64 a2).wf = true → ∃ k, spigotlaw37_PhaseBack.f k a0 l1 a2 = some true
end Go.Proofs.YtcjilccldfkhmaaDoor.phaseBack
