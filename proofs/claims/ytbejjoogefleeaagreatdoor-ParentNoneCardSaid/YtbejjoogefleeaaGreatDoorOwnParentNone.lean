/- What the law ParentNone says once its arguments are opened. -/
import Derived.Test.YtbejjoogefleeaaGreatDoorEx4
namespace Go.Proofs.YtbejjoogefleeaaGreatDoor.parentNone
open Go.RowKit Go.Proofs.YtbejjoogefleeaaGreatDoor.E Go.Proofs.YtbejjoogefleeaaGreatDoorW.PrintWords Go.Proofs.YtbejjoogefleeaaGreatDoorW.PrintLast
set_option linter.unusedVariables false
def ok_S56 (x : S56) : Prop := (Lit.int .i64 x.f0).wf = true ∧ (Lit.int .i64 x.f1).wf = true ∧ x.f2.size ≤ 9223372036854775807 ∧ x.f3.size ≤ 9223372036854775807 ∧ (Lit.int .i64 x.f4).wf = true ∧ (Lit.int .i64 x.f5).wf = true ∧ x.f6.size ≤ 9223372036854775807
set_option maxRecDepth 100000 in
theorem opn_S56 (w : World) : Opn Tryz.prog w 56 k56 ok_S56 := by
  intro H enc fuel cs x h
  obtain ⟨xs, n, _, _, hcl, hxl, hf⟩ := DataW.trod_struct Tryz.underlying56 h
  have hcl' : cs.length = 7 := hcl.trans (by kernel_rfl)
  have hxl' : xs.length = 7 := hxl
  obtain ⟨a0, h0, o0⟩ := opn_field hf 0 3 0 1 _ rfl rfl rfl (by kernel_rfl) (by omega) (opn_int Tryz.underlying3)
  obtain ⟨a1, h1, o1⟩ := opn_field hf 1 3 1 1 _ rfl rfl rfl (by kernel_rfl) (by omega) (opn_int Tryz.underlying3)
  obtain ⟨a2, h2, o2⟩ := opn_field hf 2 9 2 1 _ rfl rfl rfl (by kernel_rfl) (by omega) (opn_string Tryz.underlying9)
  obtain ⟨a3, h3, o3⟩ := opn_field hf 3 9 3 1 _ rfl rfl rfl (by kernel_rfl) (by omega) (opn_string Tryz.underlying9)
  obtain ⟨a4, h4, o4⟩ := opn_field hf 4 3 4 1 _ rfl rfl rfl (by kernel_rfl) (by omega) (opn_int Tryz.underlying3)
  obtain ⟨a5, h5, o5⟩ := opn_field hf 5 3 5 1 _ rfl rfl rfl (by kernel_rfl) (by omega) (opn_int Tryz.underlying3)
  obtain ⟨a6, h6, o6⟩ := opn_field hf 6 9 6 1 _ rfl rfl rfl (by kernel_rfl) (by omega) (opn_string Tryz.underlying9)
  have hk := (opn_step h0 (opn_step h1 (opn_step h2 (opn_step h3 (opn_step h4 (opn_step h5 (opn_last h6 (by omega)) (by omega)) (by omega)) (by omega)) (by omega)) (by omega)) (by omega))
  rw [List.drop_zero] at hk
  exact ⟨⟨a0, a1, a2, a3, a4, a5, a6⟩, hk, ⟨o0, o1, o2, o3, o4, o5, o6⟩⟩
instance : Inhabited S135 := ⟨z135⟩
def ok_S135 (x : S135) : Prop := (Lit.int .i64 x.f0).wf = true ∧ (Lit.int .i64 x.f1).wf = true ∧ (Lit.int .i64 x.f2).wf = true ∧ (Lit.int .i64 x.f3).wf = true ∧ True
set_option maxRecDepth 100000 in
theorem opn_S135 (w : World) : Opn Tryz.prog w 135 k135 ok_S135 := by
  intro H enc fuel cs x h
  obtain ⟨xs, n, _, _, hcl, hxl, hf⟩ := DataW.trod_struct Tryz.underlying135 h
  have hcl' : cs.length = 5 := hcl.trans (by kernel_rfl)
  have hxl' : xs.length = 5 := hxl
  obtain ⟨a0, h0, o0⟩ := opn_field hf 0 3 0 1 _ rfl rfl rfl (by kernel_rfl) (by omega) (opn_int Tryz.underlying3)
  obtain ⟨a1, h1, o1⟩ := opn_field hf 1 3 1 1 _ rfl rfl rfl (by kernel_rfl) (by omega) (opn_int Tryz.underlying3)
  obtain ⟨a2, h2, o2⟩ := opn_field hf 2 3 2 1 _ rfl rfl rfl (by kernel_rfl) (by omega) (opn_int Tryz.underlying3)
  obtain ⟨a3, h3, o3⟩ := opn_field hf 3 3 3 1 _ rfl rfl rfl (by kernel_rfl) (by omega) (opn_int Tryz.underlying3)
  obtain ⟨a4, h4, o4⟩ := opn_field hf 4 4 4 1 _ rfl rfl rfl (by kernel_rfl) (by omega) (opn_bool Tryz.underlying4)
  have hk := (opn_step h0 (opn_step h1 (opn_step h2 (opn_step h3 (opn_last h4 (by omega)) (by omega)) (by omega)) (by omega)) (by omega))
  rw [List.drop_zero] at hk
  exact ⟨⟨a0, a1, a2, a3, a4⟩, hk, ⟨o0, o1, o2, o3, o4⟩⟩
def ok_S59 (x : S59) : Prop := (Lit.int .i64 x.f0).wf = true ∧ (Lit.int .i64 x.f1).wf = true ∧ (Lit.int .i64 x.f2).wf = true ∧ (Lit.int .i64 x.f3).wf = true ∧ (Lit.int .i64 x.f4).wf = true ∧ True ∧ ok_S56 x.f6 ∧ (∀ a ∈ x.f7, ok_S135 a)
set_option maxRecDepth 100000 in
theorem opn_S59 (w : World) : Opn Tryz.prog w 59 k59 ok_S59 := by
  intro H enc fuel cs x h
  obtain ⟨xs, n, _, _, hcl, hxl, hf⟩ := DataW.trod_struct Tryz.underlying59 h
  have hcl' : cs.length = 14 := hcl.trans (by kernel_rfl)
  have hxl' : xs.length = 8 := hxl
  obtain ⟨a0, h0, o0⟩ := opn_field hf 0 3 0 1 _ rfl rfl rfl (by kernel_rfl) (by omega) (opn_int Tryz.underlying3)
  obtain ⟨a1, h1, o1⟩ := opn_field hf 1 3 1 1 _ rfl rfl rfl (by kernel_rfl) (by omega) (opn_int Tryz.underlying3)
  obtain ⟨a2, h2, o2⟩ := opn_field hf 2 3 2 1 _ rfl rfl rfl (by kernel_rfl) (by omega) (opn_int Tryz.underlying3)
  obtain ⟨a3, h3, o3⟩ := opn_field hf 3 3 3 1 _ rfl rfl rfl (by kernel_rfl) (by omega) (opn_int Tryz.underlying3)
  obtain ⟨a4, h4, o4⟩ := opn_field hf 4 3 4 1 _ rfl rfl rfl (by kernel_rfl) (by omega) (opn_int Tryz.underlying3)
  obtain ⟨a5, h5, o5⟩ := opn_field hf 5 4 5 1 _ rfl rfl rfl (by kernel_rfl) (by omega) (opn_bool Tryz.underlying4)
  obtain ⟨a6, h6, o6⟩ := opn_field hf 6 56 6 7 _ rfl rfl rfl (by kernel_rfl) (by omega) (opn_S56 w)
  obtain ⟨a7, h7, o7⟩ := opn_field hf 7 57 13 1 _ rfl rfl rfl (by kernel_rfl) (by omega) (opn_slice Tryz.underlying57 (by kernel_rfl) (opn_S135 w))
  have hk := (opn_step h0 (opn_step h1 (opn_step h2 (opn_step h3 (opn_step h4 (opn_step h5 (opn_step h6 (opn_last h7 (by omega)) (by omega)) (by omega)) (by omega)) (by omega)) (by omega)) (by omega)) (by omega))
  rw [List.drop_zero] at hk
  exact ⟨⟨a0, a1, a2, a3, a4, a5, a6, a7⟩, hk, ⟨o0, o1, o2, o3, o4, o5, o6, o7⟩⟩
def P : Prop := ∀ (s0 : S59), ok_S59 s0 → spigotlaw28_ParentNone.f s0.f0 s0.f1 s0.f2 s0.f3 s0.f4 s0.f5 s0.f6.f0 s0.f6.f1 s0.f6.f2 s0.f6.f3 s0.f6.f4 s0.f6.f5 s0.f6.f6 s0.f7 = some true
end Go.Proofs.YtbejjoogefleeaaGreatDoor.parentNone
