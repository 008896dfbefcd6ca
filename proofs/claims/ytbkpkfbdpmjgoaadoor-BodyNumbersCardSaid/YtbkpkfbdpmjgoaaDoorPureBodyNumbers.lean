/- Any text is the document's number, and its numbers, or none. -/
import Derived.Test.YtbkpkfbdpmjgoaaDoorQx25
namespace Go.Proofs.YtbkpkfbdpmjgoaaDoor.Pure
set_option linter.unusedVariables false
set_option linter.unusedSimpArgs false
open Go.RowKit Go.Proofs.YtbkpkfbdpmjgoaaDoor.Q Go.Proofs.YtbkpkfbdpmjgoaaDoorW.PrintWords Go.Proofs.YtbkpkfbdpmjgoaaDoorW.PrintLast

theorem same_loop (l : List Int) (hl : l.length ≤ 4000000) (d : Nat) : ∀ i : Nat, i + d = l.length → Ev (fun k => spigotref03_Same.l0 k l l (i : Int)) true := by
  induction d with
  | zero =>
    intro i hi
    refine Ev.step (f := fun _ => some true) (fun k => ?_) (Ev.now _)
    simp only [spigotref03_Same.l0]
    rw [if_neg (by omega)]
  | succ d ih =>
    intro i hi
    refine Ev.step (fun k => ?_) (ih (i + 1) (by omega))
    simp only [spigotref03_Same.l0]
    rw [if_pos (by omega), if_pos (by omega), if_pos (by omega), if_pos trivial, w64 (by omega) (by omega)]
    rfl
theorem same_self (l : List Int) (hl : l.length ≤ 4000000) : Ev (fun k => spigotref03_Same.f k l l) true := by
  refine Ev.congr (fun k => ?_) (same_loop l hl l.length 0 (by omega))
  unfold spigotref03_Same.f
  rw [if_pos rfl]; rfl
theorem BodyNumbers : spigotlaw11_BodyNumbers.Pure := by
  intro a0 hw
  unfold spigotlaw11_BodyNumbers.f spigotlaw11_awake.f
  simp only [Option.bind_some, if_true]
  by_cases c : (a0.size : Int) > 600
  · exact ⟨0, if_pos c⟩
  simp only [if_neg c]
  have e1 : body_Number.f a0 = some (((numP a0.data.toList).1 : Int), ((numP a0.data.toList).2 : Int)) := by unfold body_Number.f; rw [if_pos (by omega)]
  have e2 : spigotref11_Number.f a0 = some (refNo a0.data.toList) := by unfold spigotref11_Number.f big; rw [if_pos (by omega)]
  have e3 : body_Numbers.f a0 = some (numsP (splitC 44 a0.data.toList) []) := by unfold body_Numbers.f; rw [if_pos (by omega)]
  have e4 : spigotref11_Numbers.f a0 = some ((numsP (splitC 44 a0.data.toList) []).1, (numsP (splitC 44 a0.data.toList) []).2 == 0) := by unfold spigotref11_Numbers.f; rw [if_pos (by omega)]
  rw [e1, e2, e3, e4]
  simp only [Option.bind_some]
  have hr := numP_range a0.data.toList
  have hn : refNo a0.data.toList = if (numP a0.data.toList).2 = 0 then ((numP a0.data.toList).1 : Int) else -1 := rfl
  have hs := numsP_range (splitC 44 a0.data.toList) []
  have hz := (splitC_sizes 44 a0.data.toList).1
  have hsl : a0.data.toList.length = a0.size := rfl
  rw [hn]
  generalize numP a0.data.toList = r at *
  generalize numsP (splitC 44 a0.data.toList) [] = q at *
  obtain ⟨n, e⟩ := r
  obtain ⟨l, f⟩ := q
  simp only at hr hs ⊢
  have hl : l.length ≤ 4000000 := by
    rcases hs with h | h
    · rw [h.2]; simp only [List.length_nil]; omega
    · rw [h.2]; simp
  obtain ⟨k, hk⟩ := (same_self l hl).rounds
  refine ⟨k, ?_⟩
  rw [hk]
  simp only [Option.bind_some]
  have hf : (if ((f == 0) == (f == 0)) = true then (if (f == 0) = true then some true else if f = 112 then some true else some false) else some false) = some true := by
    rw [if_pos (by simp)]
    rcases hs with h | h
    · rw [if_pos (by rw [h.1]; rfl)]
    · rw [if_neg (by rw [h.1]; decide), if_pos h.1]
  rw [hf]
  rcases hr.2 with h | ⟨h, h2⟩
  · rw [if_pos (by omega), if_pos h, if_pos rfl]
  · rw [if_neg (by omega), if_pos (by omega), if_pos (by omega), if_neg (by omega)]

end Go.Proofs.YtbkpkfbdpmjgoaaDoor.Pure
