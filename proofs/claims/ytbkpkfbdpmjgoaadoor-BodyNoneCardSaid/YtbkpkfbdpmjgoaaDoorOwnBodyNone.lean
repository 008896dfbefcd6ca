/- What the law BodyNone says once its arguments are opened. -/
import Derived.Test.YtbkpkfbdpmjgoaaDoorQx18
namespace Go.Proofs.YtbkpkfbdpmjgoaaDoor.bodyNone
open Go.RowKit Go.Proofs.YtbkpkfbdpmjgoaaDoor.Q Go.Proofs.YtbkpkfbdpmjgoaaDoorW.PrintWords Go.Proofs.YtbkpkfbdpmjgoaaDoorW.PrintLast
set_option linter.unusedVariables false
def ok_S37 (x : S37) : Prop := (Lit.int .i64 x.f0).wf = true ∧ (Lit.int .i64 x.f1).wf = true ∧ (Lit.int .i64 x.f2).wf = true ∧ (Lit.int .i64 x.f3).wf = true ∧ (Lit.int .i64 x.f4).wf = true
set_option maxRecDepth 100000 in
theorem opn_S37 (w : World) : Opn Tryd.prog w 37 k37 ok_S37 := by
  intro H enc fuel cs x h
  obtain ⟨xs, n, _, _, hcl, hxl, hf⟩ := DataW.trod_struct Tryd.underlying37 h
  have hcl' : cs.length = 5 := hcl.trans (by kernel_rfl)
  have hxl' : xs.length = 5 := hxl
  obtain ⟨a0, h0, o0⟩ := opn_field hf 0 3 0 1 _ rfl rfl rfl (by kernel_rfl) (by omega) (opn_int Tryd.underlying3)
  obtain ⟨a1, h1, o1⟩ := opn_field hf 1 3 1 1 _ rfl rfl rfl (by kernel_rfl) (by omega) (opn_int Tryd.underlying3)
  obtain ⟨a2, h2, o2⟩ := opn_field hf 2 3 2 1 _ rfl rfl rfl (by kernel_rfl) (by omega) (opn_int Tryd.underlying3)
  obtain ⟨a3, h3, o3⟩ := opn_field hf 3 3 3 1 _ rfl rfl rfl (by kernel_rfl) (by omega) (opn_int Tryd.underlying3)
  obtain ⟨a4, h4, o4⟩ := opn_field hf 4 3 4 1 _ rfl rfl rfl (by kernel_rfl) (by omega) (opn_int Tryd.underlying3)
  have hk := (opn_step h0 (opn_step h1 (opn_step h2 (opn_step h3 (opn_last h4 (by omega)) (by omega)) (by omega)) (by omega)) (by omega))
  rw [List.drop_zero] at hk
  exact ⟨⟨a0, a1, a2, a3, a4⟩, hk, ⟨o0, o1, o2, o3, o4⟩⟩
def P : Prop := ∀ (s0 : S37), ok_S37 s0 → spigotlaw11_BodyNone.f s0.f0 s0.f1 s0.f2 s0.f3 s0.f4 = some true
end Go.Proofs.YtbkpkfbdpmjgoaaDoor.bodyNone
