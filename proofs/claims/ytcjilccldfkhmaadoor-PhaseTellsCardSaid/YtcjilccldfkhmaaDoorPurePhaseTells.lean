/- Of any day and any tick the phase, and when the next one begins, are the document's, or refused; and what may be done. -/
import Derived.Test.YtcjilccldfkhmaaDoorOwnPhaseTells
namespace Go.Proofs.YtcjilccldfkhmaaDoor.Pure
open Go.RowKit Go.Proofs.YtcjilccldfkhmaaDoor.Q Go.Proofs.YtcjilccldfkhmaaDoorW.PrintWords Go.Proofs.YtcjilccldfkhmaaDoorW.PrintLast Go.Proofs.YtcjilccldfkhmaaDoor.phaseTells
set_option linter.unusedVariables false
set_option linter.unusedSimpArgs false
theorem asked_eq (l : List S37) (a1 : Int) : phase_asked.f l a1 = some (if dayL (l.map prP) = true then (if 0 ≤ a1 ∧ a1 ≤ 1099511627776 then 0 else 2) else 370) := by
  unfold phase_asked.f phase_Check.f
  simp only [Option.bind_some]
  by_cases c : dayL (l.map prP) = true
  · rw [if_pos c, if_pos c, if_pos rfl, within_eq]
    simp only [Option.bind_some]
    by_cases c1 : 0 ≤ a1 ∧ a1 ≤ 1099511627776
    · rw [decide_eq_true c1, if_pos rfl, if_pos c1]
    · rw [decide_eq_false c1, if_neg c1]; simp
  · rw [if_neg c, if_neg c, if_neg (by decide)]
theorem at_no (l : List S37) (a1 e : Int) (h : phase_asked.f l a1 = some e) (he : e ≠ 0) : phase_At.f l a1 = some (0, 0, e) ∧ phase_Next.f l a1 = some (0, false, e) := by
  unfold phase_At.f phase_Next.f
  rw [h]
  simp only [Option.bind_some]
  rw [if_neg he, if_neg he]; exact ⟨rfl, rfl⟩
theorem day_len {l : List S37} (hd : dayL (l.map prP) = true) : 1 ≤ l.length ∧ l.length ≤ 32 := by
  have := ((dayL_iff _).1 hd).1
  rw [List.length_map] at this
  exact ⟨this.1, this.2.1⟩
theorem begun_in {l : List S37} (hd : dayL (l.map prP) = true) {a1 : Int} (ha : 0 ≤ a1) : 1 ≤ begunL a1 (l.map prP) ∧ begunL a1 (l.map prP) ≤ l.length := by
  have := begunL_le a1 (l.map prP)
  rw [List.length_map] at this
  exact ⟨begunL_pos hd ha, this⟩
theorem at_yes (l : List S37) (a1 : Int) (hd : dayL (l.map prP) = true) (ha : 0 ≤ a1 ∧ a1 ≤ 1099511627776) (hb : begunL a1 (l.map prP) - 1 < l.length) :
    phase_At.f l a1 = some (((begunL a1 (l.map prP) - 1 : Nat) : Int), (l[begunL a1 (l.map prP) - 1]'hb).f1, 0) := by
  have hbi := begun_in hd ha.1
  have hln := day_len hd
  unfold phase_At.f
  rw [asked_eq, if_pos hd, if_pos ha]
  simp only [Option.bind_some, if_true]
  unfold phase_later.f
  rw [if_pos hd]
  simp only [Option.bind_some]
  have e : wrap64 (((begunL a1 (l.map prP) : Nat) : Int) - 1) = ((begunL a1 (l.map prP) - 1 : Nat) : Int) := by rw [w64 (by omega) (by omega)]; omega
  rw [e, if_pos (by omega), if_pos (by omega), rdP_at l _ hb]
theorem next_yes (l : List S37) (a1 : Int) (hd : dayL (l.map prP) = true) (ha : 0 ≤ a1 ∧ a1 ≤ 1099511627776) :
    (begunL a1 (l.map prP) = l.length → phase_Next.f l a1 = some (0, false, 0)) ∧ (∀ hb : begunL a1 (l.map prP) < l.length, phase_Next.f l a1 = some ((l[begunL a1 (l.map prP)]'hb).f0, true, 0)) := by
  unfold phase_Next.f
  rw [asked_eq, if_pos hd, if_pos ha]
  simp only [Option.bind_some, if_true]
  unfold phase_later.f
  rw [if_pos hd]
  simp only [Option.bind_some]
  constructor
  · intro h
    rw [if_pos (by omega)]
  · intro hb
    rw [if_neg (by omega), if_pos (by omega), if_pos (by omega), rdP_at l _ hb]
theorem may_both (a w : Int) : ∃ b, phase_May.f a w = some b ∧ spigotref37_May.f a w = some b := by
  unfold phase_May.f spigotref37_May.f
  rw [within_eq, in37_eq, in37_eq]
  simp only [Option.bind_some]
  have e0 : ∀ p : Prop, [Decidable p] → (decide p = true) = p := fun p _ => by simp
  simp only [e0]
  by_cases h3 : a = 3
  · simp only [if_pos h3]
    by_cases c : 0 ≤ w ∧ w ≤ 5
    · simp only [if_pos c, decide_eq_true c]; exact ⟨true, rfl, rfl⟩
    · simp only [if_neg c, decide_eq_false c]; exact ⟨false, rfl, rfl⟩
  · simp only [if_neg h3]
    by_cases h2 : a = 2
    · simp only [if_pos h2, if_neg (show ¬ a = 4 by omega)]
      by_cases c : 0 ≤ w ∧ w ≤ 5
      · simp only [if_pos c]
        by_cases c1 : 1 ≤ w ∧ w ≤ 5
        · simp only [if_pos c1]
          exact ⟨true, by rw [show (w != 0) = true by rw [bne_iff_ne]; omega], rfl⟩
        · simp only [if_neg c1]
          exact ⟨false, by rw [show (w != 0) = false by rw [bne_eq_false_iff_eq]; omega], rfl⟩
      · simp only [if_neg c, if_neg (show ¬ (1 ≤ w ∧ w ≤ 5) by omega)]
        exact ⟨false, rfl, rfl⟩
    · simp only [if_neg h2]
      by_cases h4 : a = 4
      · simp only [if_pos h4]
        by_cases c : 0 ≤ w ∧ w ≤ 5
        · simp only [if_pos c]; exact ⟨_, rfl, rfl⟩
        · simp only [if_neg c]
          exact ⟨false, rfl, by rw [show (w == 2) = false by rw [beq_eq_false_iff_ne]; omega]⟩
      · simp only [if_neg h4]
        by_cases c : 0 ≤ w ∧ w ≤ 5
        · simp only [if_pos c]; exact ⟨false, rfl, rfl⟩
        · simp only [if_neg c]; exact ⟨false, rfl, rfl⟩
theorem wrong_eq (l : List S37) (a1 : Int) (hl : l.length ≤ 100) : spigotlaw37_wrong.f l a1 = some (if dayL (l.map prP) = true then (if 0 ≤ a1 ∧ a1 ≤ 1099511627776 then 0 else 2) else 370) := by
  unfold spigotlaw37_wrong.f spigotlaw37_plain.f
  rw [if_pos (by omega)]
  simp only [Option.bind_some]
  unfold spigotref37_Right.f
  rw [prQ_plQ]
  simp only [Option.bind_some]
  by_cases c : dayL (l.map prP) = true
  · rw [if_pos c, if_pos c]
    by_cases c1 : 0 ≤ a1 ∧ a1 ≤ 1099511627776
    · rw [if_neg (by omega), if_neg (by omega), if_pos c1]
    · rw [if_neg c1]
      by_cases c2 : a1 < 0
      · rw [if_pos c2]
      · rw [if_neg c2, if_pos (by omega)]
  · rw [if_neg c, if_neg c]
theorem PhaseTells : Go.Proofs.YtcjilccldfkhmaaDoor.phaseTells.P := by
  intro l0 a1 a2 hok hw1 hw2
  refine ⟨1, ?_⟩
  unfold spigotlaw37_PhaseTells.f spigotlaw37_awake.f
  simp only [Option.bind_some, if_true]
  by_cases c1 : (l0.length : Int) > 100
  · rw [if_pos c1]
  rw [if_neg c1, wrong_eq l0 a1 (by omega)]
  have hpl : spigotlaw37_plain.f l0 = some (l0.map plQ) := by unfold spigotlaw37_plain.f; rw [if_pos (by omega)]
  have hrt : spigotref37_Right.f (l0.map plQ) = some (dayL (l0.map prP)) := by unfold spigotref37_Right.f; rw [prQ_plQ]
  have hck : phase_Check.f l0 = some (if dayL (l0.map prP) = true then 0 else 370) := rfl
  obtain ⟨b1, m1, m2⟩ := may_both a1 a2
  rw [hpl, hck]
  by_cases c2 : dayL (l0.map prP) = true
  · by_cases c3 : 0 ≤ a1 ∧ a1 ≤ 1099511627776
    · have hbi := begun_in c2 c3.1
      have hln := day_len c2
      have hat := at_yes l0 a1 c2 c3 (by omega)
      have hnx := next_yes l0 a1 c2 c3
      obtain ⟨b2, m3, m4⟩ := may_both (l0[begunL a1 (l0.map prP) - 1]'(by omega)).f1 a2
      have hplace : spigotref37_Place.f (l0.map plQ) a1 = some ((begunL a1 (l0.map prP) - 1 : Nat) : Int) := by
        unfold spigotref37_Place.f; rw [prQ_plQ, if_pos c2]
      have ew : wrap64 (((begunL a1 (l0.map prP) - 1 : Nat) : Int) + 1) = ((begunL a1 (l0.map prP) : Nat) : Int) := by rw [w64 (by omega) (by omega)]; omega
      rw [hat]
      simp only [Option.bind_some]
      rw [if_pos c2, if_pos c3]
      by_cases c4 : begunL a1 (l0.map prP) < l0.length
      · rw [hnx.2 c4]
        simp only [Option.bind_some]
        rw [hrt]
        simp only [Option.bind_some]
        rw [c2, if_neg (by simp), m1, m2]
        simp only [Option.bind_some]
        rw [if_neg (by simp), m3, m4]
        simp only [Option.bind_some]
        simp only [spigotlaw37_PhaseTells.j0, bne_self_eq_false, Bool.false_eq_true, if_false, if_true]
        rw [hpl, Option.bind_some, hplace, Option.bind_some]
        have r1 := rdP_at l0 (begunL a1 (l0.map prP) - 1) (by omega)
        have r2 := rdP_at l0 _ c4
        have i1 : ((begunL a1 (l0.map prP) : Nat) : Int) < (l0.length : Int) := by omega
        have i2 : (0 : Int) ≤ ((begunL a1 (l0.map prP) : Nat) : Int) := by omega
        have i3 : ((begunL a1 (l0.map prP) - 1 : Nat) : Int) < (l0.length : Int) := by omega
        have i4 : (0 : Int) ≤ ((begunL a1 (l0.map prP) - 1 : Nat) : Int) := by omega
        simp only [ew, r1, r2, if_pos i1, if_pos i2, if_pos i3, if_pos i4, if_true, decide_eq_true i1, beq_self_eq_true]
      · have c5 : begunL a1 (l0.map prP) = l0.length := by omega
        rw [hnx.1 c5]
        simp only [Option.bind_some]
        rw [hrt]
        simp only [Option.bind_some]
        rw [c2, if_neg (by simp), m1, m2]
        simp only [Option.bind_some]
        rw [if_neg (by simp), m3, m4]
        simp only [Option.bind_some]
        simp only [spigotlaw37_PhaseTells.j0, bne_self_eq_false, Bool.false_eq_true, if_false, if_true]
        rw [hpl, Option.bind_some, hplace, Option.bind_some]
        have r1 := rdP_at l0 (begunL a1 (l0.map prP) - 1) (by omega)
        have i1 : ¬ ((begunL a1 (l0.map prP) : Nat) : Int) < (l0.length : Int) := by omega
        have i3 : ((begunL a1 (l0.map prP) - 1 : Nat) : Int) < (l0.length : Int) := by omega
        have i4 : (0 : Int) ≤ ((begunL a1 (l0.map prP) - 1 : Nat) : Int) := by omega
        simp only [ew, r1, if_neg i1, if_pos i3, if_pos i4, if_true, decide_eq_false i1, beq_self_eq_true]
    · have ha := asked_eq l0 a1
      rw [if_pos c2, if_neg c3] at ha
      obtain ⟨hat, hnx⟩ := at_no l0 a1 2 ha (by decide)
      obtain ⟨b2, m3, m4⟩ := may_both 0 a2
      rw [hat, hnx]
      simp only [Option.bind_some]
      rw [if_pos c2, if_neg c3, hrt]
      simp only [Option.bind_some]
      rw [c2, if_neg (by simp), m1, m2]
      simp only [Option.bind_some]
      rw [if_neg (by simp), m3, m4]
      simp only [Option.bind_some]
      simp only [spigotlaw37_PhaseTells.j0, bne_self_eq_false, Bool.false_eq_true, if_false, if_true]
      rw [if_neg (by decide), show wrap64 (wrap64 (0 + 0) + 0) = 0 by rw [w64 (x := 0 + 0) (by decide) (by decide), w64 (by decide) (by decide)]; rfl, if_pos rfl]
      rfl
  · have ha := asked_eq l0 a1
    rw [if_neg c2] at ha
    obtain ⟨hat, hnx⟩ := at_no l0 a1 370 ha (by decide)
    obtain ⟨b2, m3, m4⟩ := may_both 0 a2
    have c2f : dayL (l0.map prP) = false := by simpa using c2
    rw [hat, hnx]
    simp only [Option.bind_some]
    rw [if_neg c2, hrt]
    simp only [Option.bind_some]
    rw [c2f, if_neg (by simp), m1, m2]
    simp only [Option.bind_some]
    rw [if_neg (by simp), m3, m4]
    simp only [Option.bind_some]
    simp only [spigotlaw37_PhaseTells.j0, bne_self_eq_false, Bool.false_eq_true, if_false, if_true]
    rw [if_neg (by decide), show wrap64 (wrap64 (0 + 0) + 0) = 0 by rw [w64 (x := 0 + 0) (by decide) (by decide), w64 (by decide) (by decide)]; rfl, if_pos rfl]
    rfl

end Go.Proofs.YtcjilccldfkhmaaDoor.Pure
