/- What the law PhaseFills says once its arguments are opened. -/
import Derived.Test.YtcjilccldfkhmaaDoorQx21
namespace Go.Proofs.YtcjilccldfkhmaaDoor.phaseFills
open Go.RowKit Go.Proofs.YtcjilccldfkhmaaDoor.Q Go.Proofs.YtcjilccldfkhmaaDoorW.PrintWords Go.Proofs.YtcjilccldfkhmaaDoorW.PrintLast
set_option linter.unusedVariables false
instance : Inhabited S37 := ⟨z37⟩
def ok_S37 (x : S37) : Prop := (Lit.int .i64 x.f0).wf = true ∧ (Lit.int .i64 x.f1).wf = true
set_option maxRecDepth 100000 in
theorem opn_S37 (w : World) : Opn Tryd.prog w 37 k37 ok_S37 := by
  intro H enc fuel cs x h
  obtain ⟨xs, n, _, _, hcl, hxl, hf⟩ := DataW.trod_struct Tryd.underlying37 h
  have hcl' : cs.length = 2 := hcl.trans (by kernel_rfl)
  have hxl' : xs.length = 2 := hxl
  obtain ⟨a0, h0, o0⟩ := opn_field hf 0 3 0 1 _ rfl rfl rfl (by kernel_rfl) (by omega) (opn_int Tryd.underlying3)
  obtain ⟨a1, h1, o1⟩ := opn_field hf 1 3 1 1 _ rfl rfl rfl (by kernel_rfl) (by omega) (opn_int Tryd.underlying3)
  have hk := (opn_step h0 (opn_last h1 (by omega)) (by omega))
  rw [List.drop_zero] at hk
  exact ⟨⟨a0, a1⟩, hk, ⟨o0, o1⟩⟩
structure S43 where
  f0 : Int
  f1 : Int
  f2 : Int
def z43 : S43 := ⟨(0 : Int), (0 : Int), (0 : Int)⟩
def k43 : Kd S43 := Kd.iso (Kd.pair ((Kd.int .i64)) (Kd.pair ((Kd.int .i64)) (Kd.int .i64))) (fun x : S43 => (x.f0, x.f1, x.f2))
theorem k43_open {w : World} {x : S43} {cs : List Value} (h : k43.K w x cs) : cs = [.int .i64 x.f0, .int .i64 x.f1, .int .i64 x.f2] := by
  obtain ⟨_, _, rfl, rfl, ⟨_, _, rfl, rfl, rfl⟩⟩ := h
  exact rfl
def ok_S43 (x : S43) : Prop := (Lit.int .i64 x.f0).wf = true ∧ (Lit.int .i64 x.f1).wf = true ∧ (Lit.int .i64 x.f2).wf = true
set_option maxRecDepth 100000 in
theorem opn_S43 (w : World) : Opn Tryd.prog w 43 k43 ok_S43 := by
  intro H enc fuel cs x h
  obtain ⟨xs, n, _, _, hcl, hxl, hf⟩ := DataW.trod_struct Tryd.underlying43 h
  have hcl' : cs.length = 3 := hcl.trans (by kernel_rfl)
  have hxl' : xs.length = 3 := hxl
  obtain ⟨a0, h0, o0⟩ := opn_field hf 0 3 0 1 _ rfl rfl rfl (by kernel_rfl) (by omega) (opn_int Tryd.underlying3)
  obtain ⟨a1, h1, o1⟩ := opn_field hf 1 3 1 1 _ rfl rfl rfl (by kernel_rfl) (by omega) (opn_int Tryd.underlying3)
  obtain ⟨a2, h2, o2⟩ := opn_field hf 2 3 2 1 _ rfl rfl rfl (by kernel_rfl) (by omega) (opn_int Tryd.underlying3)
  have hk := (opn_step h0 (opn_step h1 (opn_last h2 (by omega)) (by omega)) (by omega))
  rw [List.drop_zero] at hk
  exact ⟨⟨a0, a1, a2⟩, hk, ⟨o0, o1, o2⟩⟩
def P : Prop := ∀ (l0 : List (S37)) (s1 : S43), (∀ a ∈ l0, ok_S37 a) → ok_S43 s1 → ∃ k, spigotlaw37_PhaseFills.f k l0 s1.f0 s1.f1 s1.f2 = some true
end Go.Proofs.YtcjilccldfkhmaaDoor.phaseFills
