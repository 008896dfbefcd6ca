/- What the law SimNone says once its arguments are opened. -/
import Derived.Test.YtlodkmfedpglkaaGreatDoorEx4
namespace Go.Proofs.YtlodkmfedpglkaaGreatDoor.simNone
open Go.RowKit Go.Proofs.YtlodkmfedpglkaaGreatDoor.E Go.Proofs.YtlodkmfedpglkaaGreatDoorW.PrintWords Go.Proofs.YtlodkmfedpglkaaGreatDoorW.PrintLast
set_option linter.unusedVariables false
def ok_S34 (x : S34) : Prop := (Lit.int .i64 x.f0).wf = true ∧ (Lit.int .i64 x.f1).wf = true ∧ x.f2.size ≤ 9223372036854775807 ∧ x.f3.size ≤ 9223372036854775807 ∧ (Lit.int .i64 x.f4).wf = true ∧ (Lit.int .i64 x.f5).wf = true ∧ (Lit.int .i64 x.f6).wf = true
set_option maxRecDepth 100000 in
theorem opn_S34 (w : World) : Opn Tryz.prog w 34 k34 ok_S34 := by
  intro H enc fuel cs x h
  obtain ⟨xs, n, _, _, hcl, hxl, hf⟩ := DataW.trod_struct Tryz.underlying34 h
  have hcl' : cs.length = 7 := hcl.trans (by kernel_rfl)
  have hxl' : xs.length = 7 := hxl
  obtain ⟨a0, h0, o0⟩ := opn_field hf 0 3 0 1 _ rfl rfl rfl (by kernel_rfl) (by omega) (opn_int Tryz.underlying3)
  obtain ⟨a1, h1, o1⟩ := opn_field hf 1 3 1 1 _ rfl rfl rfl (by kernel_rfl) (by omega) (opn_int Tryz.underlying3)
  obtain ⟨a2, h2, o2⟩ := opn_field hf 2 9 2 1 _ rfl rfl rfl (by kernel_rfl) (by omega) (opn_string Tryz.underlying9)
  obtain ⟨a3, h3, o3⟩ := opn_field hf 3 9 3 1 _ rfl rfl rfl (by kernel_rfl) (by omega) (opn_string Tryz.underlying9)
  obtain ⟨a4, h4, o4⟩ := opn_field hf 4 3 4 1 _ rfl rfl rfl (by kernel_rfl) (by omega) (opn_int Tryz.underlying3)
  obtain ⟨a5, h5, o5⟩ := opn_field hf 5 3 5 1 _ rfl rfl rfl (by kernel_rfl) (by omega) (opn_int Tryz.underlying3)
  obtain ⟨a6, h6, o6⟩ := opn_field hf 6 3 6 1 _ rfl rfl rfl (by kernel_rfl) (by omega) (opn_int Tryz.underlying3)
  have hk := (opn_step h0 (opn_step h1 (opn_step h2 (opn_step h3 (opn_step h4 (opn_step h5 (opn_last h6 (by omega)) (by omega)) (by omega)) (by omega)) (by omega)) (by omega)) (by omega))
  rw [List.drop_zero] at hk
  exact ⟨⟨a0, a1, a2, a3, a4, a5, a6⟩, hk, ⟨o0, o1, o2, o3, o4, o5, o6⟩⟩
def ok_S36 (x : S36) : Prop := (Lit.int .i64 x.f0).wf = true ∧ (Lit.int .i64 x.f1).wf = true ∧ x.f2.size ≤ 9223372036854775807 ∧ (Lit.int .i64 x.f3).wf = true ∧ (Lit.int .i64 x.f4).wf = true ∧ (Lit.int .i64 x.f5).wf = true ∧ x.f6.size ≤ 9223372036854775807 ∧ ok_S34 x.f7
set_option maxRecDepth 100000 in
theorem opn_S36 (w : World) : Opn Tryz.prog w 36 k36 ok_S36 := by
  intro H enc fuel cs x h
  obtain ⟨xs, n, _, _, hcl, hxl, hf⟩ := DataW.trod_struct Tryz.underlying36 h
  have hcl' : cs.length = 14 := hcl.trans (by kernel_rfl)
  have hxl' : xs.length = 8 := hxl
  obtain ⟨a0, h0, o0⟩ := opn_field hf 0 3 0 1 _ rfl rfl rfl (by kernel_rfl) (by omega) (opn_int Tryz.underlying3)
  obtain ⟨a1, h1, o1⟩ := opn_field hf 1 3 1 1 _ rfl rfl rfl (by kernel_rfl) (by omega) (opn_int Tryz.underlying3)
  obtain ⟨a2, h2, o2⟩ := opn_field hf 2 9 2 1 _ rfl rfl rfl (by kernel_rfl) (by omega) (opn_string Tryz.underlying9)
  obtain ⟨a3, h3, o3⟩ := opn_field hf 3 3 3 1 _ rfl rfl rfl (by kernel_rfl) (by omega) (opn_int Tryz.underlying3)
  obtain ⟨a4, h4, o4⟩ := opn_field hf 4 3 4 1 _ rfl rfl rfl (by kernel_rfl) (by omega) (opn_int Tryz.underlying3)
  obtain ⟨a5, h5, o5⟩ := opn_field hf 5 3 5 1 _ rfl rfl rfl (by kernel_rfl) (by omega) (opn_int Tryz.underlying3)
  obtain ⟨a6, h6, o6⟩ := opn_field hf 6 9 6 1 _ rfl rfl rfl (by kernel_rfl) (by omega) (opn_string Tryz.underlying9)
  obtain ⟨a7, h7, o7⟩ := opn_field hf 7 34 7 7 _ rfl rfl rfl (by kernel_rfl) (by omega) (opn_S34 w)
  have hk := (opn_step h0 (opn_step h1 (opn_step h2 (opn_step h3 (opn_step h4 (opn_step h5 (opn_step h6 (opn_last h7 (by omega)) (by omega)) (by omega)) (by omega)) (by omega)) (by omega)) (by omega)) (by omega))
  rw [List.drop_zero] at hk
  exact ⟨⟨a0, a1, a2, a3, a4, a5, a6, a7⟩, hk, ⟨o0, o1, o2, o3, o4, o5, o6, o7⟩⟩
def P : Prop := ∀ (s0 : S36), ok_S36 s0 → spigotlaw33_SimNone.f s0.f0 s0.f1 s0.f2 s0.f3 s0.f4 s0.f5 s0.f6 s0.f7.f0 s0.f7.f1 s0.f7.f2 s0.f7.f3 s0.f7.f4 s0.f7.f5 s0.f7.f6 = some true
end Go.Proofs.YtlodkmfedpglkaaGreatDoor.simNone
