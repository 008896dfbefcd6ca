/- The law TagOne, over plain bytes: what is read is formed again as the same bytes. Condition: the text's own reach, as the row has it. -/
import Derived.Test.YtjppmjgpbemjlaaDoorQx23
namespace Go.Proofs.YtjppmjgpbemjlaaDoor.Pure
set_option linter.unusedVariables false
set_option linter.unusedSimpArgs false
open Go.RowKit Go.Proofs.YtjppmjgpbemjlaaDoor.Q Go.Proofs.YtjppmjgpbemjlaaDoorW.PrintWords Go.Proofs.YtjppmjgpbemjlaaDoorW.PrintLast

theorem TagOne : spigotlaw08_TagOne.Pure := by
  intro s hs
  have hb : s.size ≤ big := by unfold big; omega
  unfold spigotlaw08_TagOne.f spigotlaw08_awake.f
  simp only [Option.bind_some, if_true]
  split
  · rfl
  unfold tag_Fields.f
  simp only [if_pos hb, Option.bind_some]
  obtain ⟨h1, h2, h3⟩ := fieldsL_forms _ s.data.toList 0 0 (Nat.le_refl _)
  have hc := fieldsL_count _ s.data.toList 0 0 (Nat.le_refl _) (by omega)
  have hp := fieldsL_place _ s.data.toList 0 0 (Nat.le_refl _)
  rw [size_list] at hp
  have hsm : smallF ((fieldsL s.data.toList 0 0).1.map mkF) = true := by
    unfold smallF
    rw [List.all_eq_true]
    intro x hx
    obtain ⟨f, hf, rfl⟩ := List.mem_map.1 hx
    have hv := (h3 f hf).1
    unfold valueL at hv
    simp only [Bool.and_eq_true, decide_eq_true_eq] at hv
    have : (mkF f).f1.size = f.2.length := by unfold mkF; exact sz_lit _
    rw [decide_eq_true_eq, this]; unfold big; omega
  unfold tag_Forms.f
  rw [if_pos hsm]
  simp only [Option.bind_some]
  have e : ((fieldsL s.data.toList 0 0).1.map mkF).map pairF = (fieldsL s.data.toList 0 0).1.map fun f => ((f.1 : Int), f.2) := by
    rw [List.map_map]; rfl
  have ea : allFormsL ((fieldsL s.data.toList 0 0).1.map fun f => ((f.1 : Int), f.2)) = (s.data.toList.take ((fieldsL s.data.toList 0 0).2.1 - 0), 0) := by
    unfold allFormsL
    rw [if_neg (by rw [List.length_map]; omega), h1]
  rw [e, ea, if_pos (by rfl), if_pos (by omega), if_pos (by omega), if_pos (by omega)]
  rw [ByteArray.toList_eq, ByteArray.toList_eq, Int.toNat_natCast, take_list]
  simp

end Go.Proofs.YtjppmjgpbemjlaaDoor.Pure
