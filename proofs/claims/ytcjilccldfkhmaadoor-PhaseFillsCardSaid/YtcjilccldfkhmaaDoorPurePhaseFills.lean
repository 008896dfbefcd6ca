/- The open ticks of two stretches side by side are those of both together; one tick is open just if it lies in trading. -/
import Derived.Test.YtcjilccldfkhmaaDoorOwnPhaseFills
namespace Go.Proofs.YtcjilccldfkhmaaDoor.Pure
open Go.RowKit Go.Proofs.YtcjilccldfkhmaaDoor.Q Go.Proofs.YtcjilccldfkhmaaDoorW.PrintWords Go.Proofs.YtcjilccldfkhmaaDoorW.PrintLast Go.Proofs.YtcjilccldfkhmaaDoor.phaseFills
set_option linter.unusedVariables false
set_option linter.unusedSimpArgs false
theorem uptoL_leF {l : List (Int × Int)} (hd : dayL l = true) (x : Int) (hx : 0 ≤ x) : 0 ≤ uptoL x l ∧ uptoL x l ≤ x := by
  have h := uptoL_range x l (day_asc hd)
  refine ⟨h.1, ?_⟩
  have h0 := ((dayL_iff l).1 hd).1
  cases l with
  | nil => simp at h0
  | cons p r =>
    have hp : p.1 = 0 := by simpa using h0.2.2
    by_cases c : p.1 < x
    · have := h.2 p r rfl c; omega
    · rw [uptoL_none x (p :: r) (fun y hy => by
        rcases List.mem_cons.1 hy with g | g
        · rw [g]; omega
        · have := ascL_above (day_asc hd) y g; omega)]
      exact hx
theorem open_yesF (l : List S37) (a1 a2 : Int) (hd : dayL (l.map prP) = true) (h1 : 0 ≤ a1 ∧ a1 ≤ a2) (h2 : a2 ≤ 1099511627776) : phase_Open.f l a1 a2 = some (uptoL a2 (l.map prP) - uptoL a1 (l.map prP), 0) := by
  unfold phase_Open.f
  rw [if_pos hd, if_pos (show (0 ≤ a2 ∧ a2 ≤ 1099511627776) ∧ 0 ≤ a1 ∧ a1 ≤ a2 by omega), ticksL_upto h1.2 _ (day_asc hd)]
theorem at_yesF (l : List S37) (a1 : Int) (hd : dayL (l.map prP) = true) (ha : 0 ≤ a1 ∧ a1 ≤ 1099511627776) :
    phase_At.f l a1 = some (((begunL a1 (l.map prP) - 1 : Nat) : Int), ((l.map prP).getD (begunL a1 (l.map prP) - 1) (0, 0)).2, 0) := by
  have h0 := ((dayL_iff _).1 hd).1
  rw [List.length_map] at h0
  have hb := begunL_pos hd ha.1
  have hle := begunL_le a1 (l.map prP)
  rw [List.length_map] at hle
  have hlt : begunL a1 (l.map prP) - 1 < l.length := by omega
  unfold phase_At.f phase_asked.f phase_Check.f
  rw [if_pos hd]
  simp only [Option.bind_some, if_true]
  rw [within_eq, decide_eq_true ha]
  simp only [Option.bind_some, if_true]
  unfold phase_later.f
  rw [if_pos hd]
  simp only [Option.bind_some]
  have e : wrap64 (((begunL a1 (l.map prP) : Nat) : Int) - 1) = ((begunL a1 (l.map prP) - 1 : Nat) : Int) := by rw [w64 (by omega) (by omega)]; omega
  rw [e, if_pos (by omega), if_pos (by omega), rdP_at l _ hlt, prP_getD l _ hlt]
theorem PhaseFills : Go.Proofs.YtcjilccldfkhmaaDoor.phaseFills.P := by
  intro l0 s1 hok hs
  refine ⟨1, ?_⟩
  generalize s1.f0 = a
  generalize s1.f1 = b
  generalize s1.f2 = c
  unfold spigotlaw37_PhaseFills.f spigotlaw37_awake.f
  simp only [Option.bind_some, if_true]
  by_cases c1 : (l0.length : Int) > 100
  · rw [if_pos c1]; simp [spigotlaw37_PhaseFills.j0]
  rw [if_neg c1]
  by_cases c2 : a < 0
  · rw [if_pos c2]; simp [spigotlaw37_PhaseFills.j0]
  rw [if_neg c2]
  by_cases c3 : a > b
  · rw [if_pos c3]; simp [spigotlaw37_PhaseFills.j0]
  rw [if_neg c3]
  by_cases c4 : b > c
  · rw [if_pos c4]; simp [spigotlaw37_PhaseFills.j0]
  rw [if_neg c4]
  by_cases c5 : c ≥ 1099511627776
  · rw [decide_eq_true c5]; simp [spigotlaw37_PhaseFills.j0]
  rw [decide_eq_false c5]
  simp only [spigotlaw37_PhaseFills.j0, Bool.false_eq_true, if_false]
  by_cases hd : dayL (l0.map prP) = true
  · have ha := uptoL_leF hd a (by omega)
    have hb := uptoL_leF hd b (by omega)
    have hc := uptoL_leF hd c (by omega)
    rw [open_yesF l0 a b hd (by omega) (by omega), open_yesF l0 b c hd (by omega) (by omega), open_yesF l0 a c hd (by omega) (by omega), w64 (x := a + 1) (by omega) (by omega), open_yesF l0 a (a + 1) hd (by omega) (by omega), at_yesF l0 a hd (by omega)]
    simp only [Option.bind_some, if_true]
    have h0 := ((dayL_iff _).1 hd).1
    have hone := uptoL_one a (l0.map prP) (day_asc hd) (fun p r e => by
      have h2 := h0.2.2
      rw [e] at h2
      have : p.1 = 0 := by simpa using h2
      omega) (fun e => by rw [e] at h0; simp at h0)
    rw [w64 (by omega) (by omega), if_pos (by omega), hone]
    by_cases g : ((l0.map prP).getD (begunL a (l0.map prP) - 1) (0, 0)).2 = 3
    · rw [if_pos g, g]; decide
    · rw [if_neg g, show (((l0.map prP).getD (begunL a (l0.map prP) - 1) (0, 0)).2 == 3) = false by rw [beq_eq_false_iff_ne]; exact g]; decide
  · unfold phase_Open.f
    rw [if_neg hd, if_neg hd, if_neg hd]
    simp only [Option.bind_some]
    rw [if_neg (by decide)]
    simp
    rw [w64 (x := 0) (by decide) (by decide), w64 (x := 0) (by decide) (by decide)]

end Go.Proofs.YtcjilccldfkhmaaDoor.Pure
