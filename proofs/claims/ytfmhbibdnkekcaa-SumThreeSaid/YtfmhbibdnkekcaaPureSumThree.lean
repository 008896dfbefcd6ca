/- The law SumThree, over plain bytes: any number has its three digits, and any text is the number whose digits it has, or is refused. Condition: the text's own reach, as the row has it. -/
import Derived.Test.YtfmhbibdnkekcaaQx19
namespace Go.Proofs.Ytfmhbibdnkekcaa.Pure
set_option linter.unusedVariables false
set_option linter.unusedSimpArgs false
open Go.RowKit Go.Proofs.Ytfmhbibdnkekcaa.Q Go.Proofs.YtfmhbibdnkekcaaW.PrintWords Go.Proofs.YtfmhbibdnkekcaaW.PrintLast

theorem SumThree : spigotlaw09_SumThree.Pure := by
  intro n s hn hs
  refine ⟨1, ?_⟩
  unfold spigotlaw09_SumThree.f spigotlaw09_awake.f
  simp only [Option.bind_some, if_true]
  split
  · rfl
  have main : ∀ t : ByteArray × Int, sum_Three.f n = some t → spigotlaw09_SumThree.j0 1 n t.1 t.2 false = some true := by
    intro t ht
    unfold sum_Three.f at ht
    simp only [spigotlaw09_SumThree.j0, Bool.false_eq_true, if_false]
    by_cases c : 0 ≤ n ∧ n ≤ 255
    · rw [if_pos c] at ht; injection ht with ht; subst ht
      rw [if_neg (by omega), if_neg (by omega), if_pos rfl]
      unfold spigotref09_Three.f
      rw [if_pos c]; simp
    · rw [if_neg c] at ht; injection ht with ht; subst ht
      by_cases c0 : n < 0
      · rw [if_pos c0, if_pos rfl]; decide +kernel
      · rw [if_neg c0, if_pos (by omega), if_pos rfl]; decide +kernel
  obtain ⟨t, ht⟩ : ∃ t, sum_Three.f n = some t := by unfold sum_Three.f; split <;> exact ⟨_, rfl⟩
  rw [ht]
  unfold sum_Read.f spigotref09_Read.f
  simp only [Option.bind_some]
  by_cases c : 0 ≤ threeNo s
  · rw [if_pos c, if_pos rfl, if_pos rfl]; exact main t ht
  · rw [if_neg c, if_neg (by decide), if_pos rfl, if_pos rfl, decide_eq_false (by omega)]; exact main t ht

end Go.Proofs.Ytfmhbibdnkekcaa.Pure
