/- The law TagReads, over plain bytes: any bytes are the document's fields, up to the first one that is not right, and have its error. Condition: the text's own reach, as the row has it. -/
import Derived.Test.YtjppmjgpbemjlaaDoorQx17
namespace Go.Proofs.YtjppmjgpbemjlaaDoor.Pure
set_option linter.unusedVariables false
set_option linter.unusedSimpArgs false
open Go.RowKit Go.Proofs.YtjppmjgpbemjlaaDoor.Q Go.Proofs.YtjppmjgpbemjlaaDoorW.PrintWords Go.Proofs.YtjppmjgpbemjlaaDoorW.PrintLast

theorem TagReads : spigotlaw08_TagReads.Pure := by
  intro s hs
  refine ⟨1, ?_⟩
  have hb : s.size ≤ big := by unfold big; omega
  unfold spigotlaw08_TagReads.f spigotlaw08_awake.f
  simp only [Option.bind_some, if_true]
  split
  · rfl
  unfold tag_Next.f spigotref08_Next.f
  simp only [if_pos hb, Option.bind_some, if_true, spigotlaw08_TagReads.j0]
  rw [bne_self_eq_false, if_neg (by simp)]
  unfold tag_Fields.f spigotref08_Fields.f
  simp only [if_pos hb, Option.bind_some]
  have hc := fieldsL_count _ s.data.toList 0 0 (Nat.le_refl _) (by omega)
  unfold spigotlaw08_plain.f
  rw [if_pos (by rw [List.length_map]; omega)]
  simp only [Option.bind_some, if_true]
  have e : ((fieldsL s.data.toList 0 0).1.map mkF).map plainF = (fieldsL s.data.toList 0 0).1.map mkG := by simp [mkF, mkG, plainF]
  rw [e]
  unfold spigotref08_Same.f
  rw [if_pos (by rw [List.length_map]; unfold big; omega), sameGs_refl]
  simp

end Go.Proofs.YtjppmjgpbemjlaaDoor.Pure
