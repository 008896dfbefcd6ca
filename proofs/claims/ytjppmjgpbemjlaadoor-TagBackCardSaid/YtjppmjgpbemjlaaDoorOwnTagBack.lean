/- What the law TagBack says once its arguments are opened. -/
import Derived.Test.YtjppmjgpbemjlaaDoorQx25
namespace Go.Proofs.YtjppmjgpbemjlaaDoor.tagBack
open Go.RowKit Go.Proofs.YtjppmjgpbemjlaaDoor.Q Go.Proofs.YtjppmjgpbemjlaaDoorW.PrintWords Go.Proofs.YtjppmjgpbemjlaaDoorW.PrintLast
set_option linter.unusedVariables false
instance : Inhabited S24 := ⟨z24⟩
def ok_S24 (x : S24) : Prop := (Lit.int .i64 x.f0).wf = true ∧ x.f1.size ≤ 9223372036854775807
set_option maxRecDepth 100000 in
theorem opn_S24 (w : World) : Opn Tryd.prog w 24 k24 ok_S24 := by
  intro H enc fuel cs x h
  obtain ⟨xs, n, _, _, hcl, hxl, hf⟩ := DataW.trod_struct Tryd.underlying24 h
  have hcl' : cs.length = 2 := hcl.trans (by kernel_rfl)
  have hxl' : xs.length = 2 := hxl
  obtain ⟨a0, h0, o0⟩ := opn_field hf 0 3 0 1 _ rfl rfl rfl (by kernel_rfl) (by omega) (opn_int Tryd.underlying3)
  obtain ⟨a1, h1, o1⟩ := opn_field hf 1 9 1 1 _ rfl rfl rfl (by kernel_rfl) (by omega) (opn_string Tryd.underlying9)
  have hk := (opn_step h0 (opn_last h1 (by omega)) (by omega))
  rw [List.drop_zero] at hk
  exact ⟨⟨a0, a1⟩, hk, ⟨o0, o1⟩⟩
def P : Prop := ∀ (l0 : List (S24)) (a1 : Int), (∀ a ∈ l0, ok_S24 a) → (Lit.int .i64 a1).wf = true → spigotlaw08_TagBack.f l0 a1 = some true
end Go.Proofs.YtjppmjgpbemjlaaDoor.tagBack
