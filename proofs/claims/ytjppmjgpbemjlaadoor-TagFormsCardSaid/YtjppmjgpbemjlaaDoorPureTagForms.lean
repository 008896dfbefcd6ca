/- The law TagForms, over plain lists of fields: both programs' forms are the one list's forms. -/
import Derived.Test.YtjppmjgpbemjlaaDoorOwnTagForms
namespace Go.Proofs.YtjppmjgpbemjlaaDoor.Pure
open Go.RowKit Go.Proofs.YtjppmjgpbemjlaaDoor.Q Go.Proofs.YtjppmjgpbemjlaaDoorW.PrintWords Go.Proofs.YtjppmjgpbemjlaaDoorW.PrintLast Go.Proofs.YtjppmjgpbemjlaaDoor.tagForms
set_option linter.unusedVariables false
set_option linter.unusedSimpArgs false
theorem TagForms_loop (l : List S24) (hl : l.length ≤ 100) (d : Nat) : ∀ (k i : Nat), i + d = l.length → d < k → (∀ j (h : j < l.length), j < i → l[j].f1.size ≤ 1000) →
    spigotlaw08_TagForms.l0 k l l (l.length : Int) (i : Int) = some true := by
  induction d with
  | zero =>
    intro k i hi hk hs
    obtain ⟨k, rfl⟩ : ∃ n, k = n + 1 := ⟨k - 1, by omega⟩
    simp only [spigotlaw08_TagForms.l0]
    rw [if_neg (by omega)]
    have h1 : smallF l = true := by
      unfold smallF
      rw [List.all_eq_true]
      intro x hx
      obtain ⟨j, hj, rfl⟩ := List.getElem_of_mem hx
      have := hs j hj (by omega)
      rw [decide_eq_true_eq]; unfold big; omega
    have h2 : smallG (l.map plainF) = true := by
      unfold smallG
      rw [List.all_eq_true]
      intro x hx
      obtain ⟨y, hy, rfl⟩ := List.mem_map.1 hx
      obtain ⟨j, hj, rfl⟩ := List.getElem_of_mem hy
      have := hs j hj (by omega)
      rw [decide_eq_true_eq]
      show l[j].f1.size ≤ _
      omega
    unfold tag_Forms.f spigotlaw08_plain.f
    rw [if_pos h1, if_pos (by omega)]
    simp only [Option.bind_some]
    unfold spigotref08_Forms.f
    rw [if_pos ⟨h2, by rw [List.length_map]; unfold big; omega⟩]
    have e : (l.map plainF).map pairG = l.map pairF := by rw [List.map_map]; rfl
    rw [e]
    simp
  | succ d ih =>
    intro k i hi hk hs
    obtain ⟨k, rfl⟩ : ∃ n, k = n + 1 := ⟨k - 1, by omega⟩
    have h1 : i < l.length := by omega
    simp only [spigotlaw08_TagForms.l0]
    rw [if_pos (by omega), if_pos (by omega), if_pos (by omega), rdF_at l i h1]
    by_cases c : ((l[i].f1.size : Int) > 1000)
    · rw [if_pos c]
    · rw [if_neg c]
      unfold tag_Form.f spigotref08_Form.f
      rw [if_pos (by unfold big; omega), if_pos (by omega)]
      simp only [Option.bind_some]
      rw [if_pos trivial, if_pos trivial, show ((i : Int) + 1) = ((i + 1 : Nat) : Int) by omega, w64 (by omega) (by omega)]
      refine ih k (i + 1) (by omega) (by omega) (fun j hj hji => ?_)
      rcases Nat.lt_or_ge j i with g | g
      · exact hs j hj g
      · obtain rfl : j = i := by omega
        omega
theorem TagForms : Go.Proofs.YtjppmjgpbemjlaaDoor.tagForms.P := by
  intro l hok
  refine ⟨l.length + 1, ?_⟩
  unfold spigotlaw08_TagForms.f spigotlaw08_awake.f
  simp only [Option.bind_some, if_true]
  split
  · rfl
  · exact TagForms_loop l (by omega) l.length (l.length + 1) 0 (by omega) (by omega) (fun j h g => absurd g (by omega))

end Go.Proofs.YtjppmjgpbemjlaaDoor.Pure
