/- The law SumTexts, over plain bytes: of any text the program's sum is the document's. Condition: the text's own reach, as the row has it. -/
import Derived.Test.YtfmhbibdnkekcaaQx14
namespace Go.Proofs.Ytfmhbibdnkekcaa.Pure
set_option linter.unusedVariables false
set_option linter.unusedSimpArgs false
open Go.RowKit Go.Proofs.Ytfmhbibdnkekcaa.Q Go.Proofs.YtfmhbibdnkekcaaW.PrintWords Go.Proofs.YtfmhbibdnkekcaaW.PrintLast

theorem SumTexts : spigotlaw09_SumTexts.Pure := by
  intro s hs
  unfold spigotlaw09_SumTexts.f spigotlaw09_awake.f sum_Sum.f spigotref09_Sum.f
  have hb : s.size ≤ big := by unfold big; omega
  simp only [Option.bind_some, if_true, if_pos hb]
  split
  · rfl
  · simp

end Go.Proofs.Ytfmhbibdnkekcaa.Pure
