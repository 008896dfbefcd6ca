/- How many ticks of any stretch lie in trading is the document's number, or refused. -/
import Derived.Test.YtcjilccldfkhmaaDoorOwnPhaseOpens
namespace Go.Proofs.YtcjilccldfkhmaaDoor.Pure
open Go.RowKit Go.Proofs.YtcjilccldfkhmaaDoor.Q Go.Proofs.YtcjilccldfkhmaaDoorW.PrintWords Go.Proofs.YtcjilccldfkhmaaDoorW.PrintLast Go.Proofs.YtcjilccldfkhmaaDoor.phaseOpens
set_option linter.unusedVariables false
set_option linter.unusedSimpArgs false
theorem uptoL_le {l : List (Int × Int)} (hd : dayL l = true) (x : Int) (hx : 0 ≤ x) : 0 ≤ uptoL x l ∧ uptoL x l ≤ x := by
  have h := uptoL_range x l (day_asc hd)
  refine ⟨h.1, ?_⟩
  have h0 := ((dayL_iff l).1 hd).1
  cases l with
  | nil => simp at h0
  | cons p r =>
    have hp : p.1 = 0 := by simpa using h0.2.2
    by_cases c : p.1 < x
    · have := h.2 p r rfl c; omega
    · rw [uptoL_none x (p :: r) (fun y hy => by
        rcases List.mem_cons.1 hy with g | g
        · rw [g]; omega
        · have := ascL_above (day_asc hd) y g; omega)]
      exact hx
theorem open_ref (l : List S37) (a1 a2 : Int) (hd : dayL (l.map prP) = true) (h1 : 0 ≤ a1 ∧ a1 ≤ a2) (h2 : a2 ≤ 1099511627776) : spigotref37_Open.f (l.map plQ) a1 a2 = some (ticksL a1 a2 (l.map prP)) := by
  unfold spigotref37_Open.f spigotref37_upto.f
  rw [prQ_plQ, if_pos ⟨hd, by omega, h2⟩, if_pos ⟨hd, h1.1, by omega⟩]
  simp only [Option.bind_some]
  have u1 := uptoL_le hd a1 h1.1
  have u2 := uptoL_le hd a2 (by omega)
  rw [ticksL_upto h1.2 _ (day_asc hd), w64 (by omega) (by omega)]
theorem PhaseOpens : Go.Proofs.YtcjilccldfkhmaaDoor.phaseOpens.P := by
  intro l0 a1 a2 hok hw1 hw2
  refine ⟨1, ?_⟩
  unfold spigotlaw37_PhaseOpens.f spigotlaw37_awake.f
  simp only [Option.bind_some, if_true]
  by_cases c1 : (l0.length : Int) > 100
  · rw [if_pos c1]
  rw [if_neg c1]
  have hpl : spigotlaw37_plain.f l0 = some (l0.map plQ) := by unfold spigotlaw37_plain.f; rw [if_pos (by omega)]
  have hrt : spigotref37_Right.f (l0.map plQ) = some (dayL (l0.map prP)) := by unfold spigotref37_Right.f; rw [prQ_plQ]
  unfold phase_Open.f
  rw [hpl]
  simp only [Option.bind_some]
  rw [hrt]
  simp only [Option.bind_some]
  by_cases c2 : dayL (l0.map prP) = true
  · rw [if_pos c2, if_pos c2]
    by_cases c3 : a2 < 0
    · rw [if_pos c3, if_neg (show ¬ ((0 ≤ a2 ∧ a2 ≤ 1099511627776) ∧ 0 ≤ a1 ∧ a1 ≤ a2) by omega)]
      simp [spigotlaw37_PhaseOpens.j0]
    rw [if_neg c3]
    by_cases c4 : a2 > 1099511627776
    · rw [if_pos c4, if_neg (show ¬ ((0 ≤ a2 ∧ a2 ≤ 1099511627776) ∧ 0 ≤ a1 ∧ a1 ≤ a2) by omega)]
      simp [spigotlaw37_PhaseOpens.j0]
    rw [if_neg c4]
    by_cases c5 : a1 < 0
    · rw [if_pos c5, if_neg (show ¬ ((0 ≤ a2 ∧ a2 ≤ 1099511627776) ∧ 0 ≤ a1 ∧ a1 ≤ a2) by omega)]
      simp [spigotlaw37_PhaseOpens.j0]
    rw [if_neg c5]
    by_cases c6 : a1 > a2
    · rw [decide_eq_true c6, if_neg (show ¬ ((0 ≤ a2 ∧ a2 ≤ 1099511627776) ∧ 0 ≤ a1 ∧ a1 ≤ a2) by omega)]
      simp [spigotlaw37_PhaseOpens.j0]
    rw [decide_eq_false c6, if_pos (show (0 ≤ a2 ∧ a2 ≤ 1099511627776) ∧ 0 ≤ a1 ∧ a1 ≤ a2 by omega)]
    simp only [spigotlaw37_PhaseOpens.j0, Bool.false_eq_true, if_false, if_true]
    rw [hpl]
    simp only [Option.bind_some]
    rw [open_ref l0 a1 a2 c2 (by omega) (by omega)]
    simp
  · rw [if_neg c2, if_neg c2, if_pos (by decide)]
    rfl

end Go.Proofs.YtcjilccldfkhmaaDoor.Pure
