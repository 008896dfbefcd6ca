/- The law SumLengths, over plain bytes: any length has its digits, and any text is the length whose digits it has, or is refused. Condition: the text's own reach, as the row has it. -/
import Derived.Test.YtfmhbibdnkekcaaDoorQx21
namespace Go.Proofs.YtfmhbibdnkekcaaDoor.Pure
set_option linter.unusedVariables false
set_option linter.unusedSimpArgs false
open Go.RowKit Go.Proofs.YtfmhbibdnkekcaaDoor.Q Go.Proofs.YtfmhbibdnkekcaaDoorW.PrintWords Go.Proofs.YtfmhbibdnkekcaaDoorW.PrintLast

theorem SumLengths : spigotlaw09_SumLengths.Pure := by
  intro n s hn hs
  refine ⟨1, ?_⟩
  unfold spigotlaw09_SumLengths.f spigotlaw09_awake.f
  simp only [Option.bind_some, if_true]
  split
  · rfl
  have main : ∀ t : ByteArray × Int, sum_Length.f n = some t → spigotlaw09_SumLengths.j0 1 n t.1 t.2 false = some true := by
    intro t ht
    unfold sum_Length.f at ht
    simp only [spigotlaw09_SumLengths.j0, Bool.false_eq_true, if_false]
    by_cases c0 : n < 1
    · rw [if_pos c0] at ht; injection ht with ht; subst ht
      rw [if_pos c0, if_pos rfl]; decide +kernel
    rw [if_neg c0] at ht ⊢
    by_cases c1 : n > 4096
    · rw [if_pos c1] at ht; injection ht with ht; subst ht
      rw [if_pos c1, if_pos rfl]; decide +kernel
    rw [if_neg c1] at ht ⊢
    unfold strconv_Itoa.f at ht
    rw [if_pos (by omega)] at ht
    simp only [Option.bind_some] at ht
    injection ht with ht; subst ht
    unfold spigotref08_Digits.f
    rw [if_pos rfl, if_pos (by omega)]; simp
  obtain ⟨t, ht⟩ : ∃ t, sum_Length.f n = some t := by
    unfold sum_Length.f
    split
    · exact ⟨_, rfl⟩
    · split
      · exact ⟨_, rfl⟩
      · unfold strconv_Itoa.f
        rw [if_pos (by omega)]; exact ⟨_, rfl⟩
  rw [ht]
  unfold sum_ReadLength.f spigotref09_ReadLength.f
  rw [if_pos (by unfold big; omega)]
  simp only [Option.bind_some]
  by_cases c : 0 ≤ lenNo s
  · rw [if_pos c, if_pos rfl, if_pos rfl]; exact main t ht
  · rw [if_neg c, if_neg (by decide), if_pos rfl, if_pos rfl, decide_eq_false (by omega)]; exact main t ht

end Go.Proofs.YtfmhbibdnkekcaaDoor.Pure
