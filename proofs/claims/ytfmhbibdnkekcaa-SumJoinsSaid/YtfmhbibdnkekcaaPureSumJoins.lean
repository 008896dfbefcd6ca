/- The law SumJoins, over plain bytes: two texts, one behind the other, have their sums' sum; what is no sum is refused. Condition: the texts' own reach, as the row has it. -/
import Derived.Test.YtfmhbibdnkekcaaQx21
namespace Go.Proofs.Ytfmhbibdnkekcaa.Pure
set_option linter.unusedVariables false
set_option linter.unusedSimpArgs false
open Go.RowKit Go.Proofs.Ytfmhbibdnkekcaa.Q Go.Proofs.YtfmhbibdnkekcaaW.PrintWords Go.Proofs.YtfmhbibdnkekcaaW.PrintLast

theorem sumOf_range (s : ByteArray) : 0 ≤ sumOf s ∧ sumOf s ≤ 255 := by unfold sumOf; omega
theorem join_yes {a b : Int} (ha : 0 ≤ a ∧ a ≤ 255) (hb : 0 ≤ b ∧ b ≤ 255) : sum_Join.f a b = some ((a + b) % 256, 0) := by
  unfold sum_Join.f sum_right.f
  rw [if_pos ha.1]; simp only [Option.bind_some]
  rw [if_pos (by simpa using ha.2), if_pos hb.1]; simp only [Option.bind_some]
  rw [if_pos (by simpa using hb.2), w64 (by omega) (by omega), Int.tmod_eq_emod_of_nonneg (by omega)]
theorem join_no {a b : Int} (h : ¬ (0 ≤ a ∧ a ≤ 255) ∨ ¬ (0 ≤ b ∧ b ≤ 255)) : sum_Join.f a b = some (0, 2) := by
  unfold sum_Join.f sum_right.f
  by_cases a0 : a ≥ 0
  · rw [if_pos a0]; simp only [Option.bind_some]
    by_cases a1 : a ≤ 255
    · rw [if_pos (by simpa using a1)]
      by_cases b0 : b ≥ 0
      · rw [if_pos b0]; simp only [Option.bind_some]
        rw [if_neg (by simp; omega)]
      · rw [if_neg b0]; simp
    · rw [if_neg (by simpa using a1)]
  · rw [if_neg a0]; simp
theorem SumJoins : spigotlaw09_SumJoins.Pure := by
  intro a b n ha hb hn
  refine ⟨1, ?_⟩
  unfold spigotlaw09_SumJoins.f spigotlaw09_awake.f
  simp only [Option.bind_some, if_true]
  have ba : a.size ≤ big := by unfold big; omega
  have bb : b.size ≤ big := by unfold big; omega
  have bab : (a ++ b).size ≤ big := by rw [ByteArray.size_append]; unfold big; omega
  have ra := sumOf_range a
  have rb := sumOf_range b
  have hj : (sumOf a + sumOf b) % 256 = sumOf (a ++ b) := by
    unfold sumOf
    have : (a ++ b).data.toList = a.data.toList ++ b.data.toList := by simp
    rw [this, bsum_append]; omega
  have main : ∀ x23 : Bool, spigotlaw09_SumJoins.j0 1 a b n x23 = some true := by
    intro x
    simp only [spigotlaw09_SumJoins.j0]
    cases x
    · rw [if_neg (by simp)]
      simp only [sum_Sum.f, if_pos ba, if_pos bb, if_pos bab, Option.bind_some]
      rw [join_yes ra rb]; simp only [Option.bind_some]
      by_cases c : 0 ≤ n ∧ n ≤ 255
      · rw [join_yes c ⟨by omega, by omega⟩, join_yes ⟨by omega, by omega⟩ c]; simp only [Option.bind_some, if_true]
        rw [if_neg (by omega), if_pos (by omega), if_pos hj, if_pos (by simp; omega)]
        simp; omega
      · rw [join_no (.inl c), join_no (.inr c)]; simp only [Option.bind_some, if_true]
        by_cases c0 : n < 0
        · rw [if_pos c0, if_pos (by omega), if_pos hj]; simp
        · rw [if_neg c0, if_pos (by omega), if_pos hj, if_pos (by simp; omega)]
          simp; omega
    · rw [if_pos rfl]
  split
  · exact main _
  · exact main _

end Go.Proofs.Ytfmhbibdnkekcaa.Pure
