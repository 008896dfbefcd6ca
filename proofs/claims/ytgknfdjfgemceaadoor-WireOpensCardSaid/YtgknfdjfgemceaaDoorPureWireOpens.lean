/- Any bytes begin with the document's message, or have its first error; and all messages of a text are the document's. -/
import Derived.Test.YtgknfdjfgemceaaDoorQx31
namespace Go.Proofs.YtgknfdjfgemceaaDoor.Pure
set_option linter.unusedVariables false
set_option linter.unusedSimpArgs false
open Go.RowKit Go.Proofs.YtgknfdjfgemceaaDoor.Q Go.Proofs.YtgknfdjfgemceaaDoorW.PrintWords Go.Proofs.YtgknfdjfgemceaaDoorW.PrintLast

theorem WireOpens : spigotlaw10_WireOpens.Pure := by
  intro a0 h0
  refine ⟨1, ?_⟩
  unfold spigotlaw10_WireOpens.f spigotlaw10_awake.f
  simp only [Option.bind_some, if_true]
  by_cases c : (a0.size : Int) > 8000
  · rw [if_pos c]
  · rw [if_neg c]
    unfold wire_Open.f spigotref10_Open.f
    rw [if_pos (by omega), if_pos h0]
    simp only [Option.bind_some, if_true, bne_self_eq_false]
    simp only [spigotlaw10_WireOpens.j0]
    rw [if_neg (by simp)]
    unfold wire_Cut.f spigotref10_Cut.f
    rw [if_pos (by omega), if_pos (by omega)]
    simp only [Option.bind_some]
    unfold spigotref04_Same.f
    have hc := cutL_count a0.size a0.data.toList 0 (by rw [size_list]; omega)
    rw [size_list] at hc
    rw [if_pos (by rw [List.length_map]; unfold big; omega)]
    have e : (cutL a0.size a0.data.toList 0).1.map bodB = (cutL a0.size a0.data.toList 0).1.map bodC := rfl
    rw [e]
    simp

end Go.Proofs.YtgknfdjfgemceaaDoor.Pure
