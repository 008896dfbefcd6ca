/- Any day, shifted at any tick, is the document's, or refused; the day that was handed in stays. -/
import Derived.Test.YtcjilccldfkhmaaDoorOwnPhaseShifts
namespace Go.Proofs.YtcjilccldfkhmaaDoor.Pure
open Go.RowKit Go.Proofs.YtcjilccldfkhmaaDoor.Q Go.Proofs.YtcjilccldfkhmaaDoorW.PrintWords Go.Proofs.YtcjilccldfkhmaaDoorW.PrintLast Go.Proofs.YtcjilccldfkhmaaDoor.phaseShifts
set_option linter.unusedVariables false
set_option linter.unusedSimpArgs false
theorem wrong_eqS (l : List S37) (a1 : Int) (hl : l.length ≤ 100) : spigotlaw37_wrong.f l a1 = some (if dayL (l.map prP) = true then (if 0 ≤ a1 ∧ a1 ≤ 1099511627776 then 0 else 2) else 370) := by
  unfold spigotlaw37_wrong.f spigotlaw37_plain.f
  rw [if_pos (by omega)]
  simp only [Option.bind_some]
  unfold spigotref37_Right.f
  rw [prQ_plQ]
  simp only [Option.bind_some]
  by_cases c : dayL (l.map prP) = true
  · rw [if_pos c, if_pos c]
    by_cases c1 : 0 ≤ a1 ∧ a1 ≤ 1099511627776
    · rw [if_neg (by omega), if_neg (by omega), if_pos c1]
    · rw [if_neg c1]
      by_cases c2 : a1 < 0
      · rw [if_pos c2]
      · rw [if_neg c2, if_pos (by omega)]
  · rw [if_neg c, if_neg c]
/-- The shifted day is a day just if each phase that is shifted stays within bounds. -/
theorem shift_day (l : List S37) (now b : Int) (hd : dayL (l.map prP) = true) (hn : 0 ≤ now) (hb : 0 ≤ b) : dayL ((l.map (shP now b)).map prP) = fitsP now b (l.drop (begunL now (l.map prP))) := by
  have h := (dayL_iff _).1 hd
  rw [List.length_map] at h
  have hlt0 : 0 < l.length := by omega
  have hget : ∀ i (hi : i < l.length), ((l.map (shP now b)).map prP).getD i (0, 0) = ((shP now b l[i]).f0, l[i].f1) := fun i hi => by
    rw [prP_getD _ i (by rw [List.length_map]; exact hi), List.getElem_map]
    unfold shP; split <;> rfl
  have hgood : ∀ i (hi : i < l.length), 1 ≤ l[i].f1 ∧ l[i].f1 ≤ 4 ∧ 0 ≤ l[i].f0 ∧ l[i].f0 ≤ 1099511627776 ∧ (0 < i → (l[i - 1]'(by omega)).f0 < l[i].f0 ∧ (l[i - 1]'(by omega)).f1 ≠ l[i].f1) := fun i hi => by
    have := h.2 i hi
    unfold goodP at this
    rw [decide_eq_true_eq, prP_getD l i hi, prP_getD l (i - 1) (by omega)] at this
    exact this
  have hasc := day_asc hd
  have hle := begunL_le now (l.map prP)
  rw [List.length_map] at hle
  by_cases c : fitsP now b (l.drop (begunL now (l.map prP))) = true
  · rw [c, dayL_iff]
    rw [List.length_map, List.length_map]
    have hfit : ∀ i (hi : i < l.length), l[i].f0 > now → l[i].f0 + b ≤ 1099511627776 := fun i hi hgt => by
      have hci : begunL now (l.map prP) ≤ i := by
        rcases Nat.lt_or_ge i (begunL now (l.map prP)) with g | g
        · have := begunL_before now (l.map prP) i g
          rw [prP_getD l i hi] at this; simp only at this; omega
        · exact g
      unfold fitsP at c
      rw [List.all_eq_true] at c
      have hm : l[i] ∈ l.drop (begunL now (l.map prP)) := by
        rw [List.mem_iff_getElem]
        exact ⟨i - begunL now (l.map prP), by rw [List.length_drop]; omega, by rw [List.getElem_drop]; congr 1; omega⟩
      have := c _ hm
      rw [decide_eq_true_eq] at this
      exact this hgt
    have hsh : ∀ x : S37, (shP now b x).f0 = if x.f0 > now then x.f0 + b else x.f0 := fun x => by unfold shP; split <;> rfl
    refine ⟨⟨h.1.1, h.1.2.1, ?_⟩, fun i hi => ?_⟩
    · rw [hget 0 hlt0, hsh]
      have h0 := h.1.2.2
      rw [prP_getD l 0 hlt0] at h0
      simp only at h0
      simp only
      rw [if_neg (by omega)]; exact h0
    · unfold goodP
      rw [decide_eq_true_eq, hget i hi, hget (i - 1) (by omega), hsh, hsh]
      have hg := hgood i hi
      have hf := hfit i hi
      simp only
      refine ⟨hg.1, hg.2.1, ?_, ?_, fun hp => ?_⟩
      · split <;> omega
      · split <;> omega
      · have hg5 := hg.2.2.2.2 hp
        refine ⟨?_, hg5.2⟩
        split <;> split <;> omega
  · have cf : fitsP now b (l.drop (begunL now (l.map prP))) = false := by simpa using c
    rw [cf]
    rw [Bool.eq_false_iff]
    intro hday
    apply c
    unfold fitsP
    rw [List.all_eq_true]
    intro x hx
    rw [decide_eq_true_eq]
    intro hgt
    have hm := day_mem hday (prP (shP now b x)) (List.mem_map.2 ⟨shP now b x, List.mem_map.2 ⟨x, List.mem_of_mem_drop hx, rfl⟩, rfl⟩)
    have hb2 := hm.2.2.2
    unfold prP shP at hb2
    rw [if_pos hgt] at hb2
    exact hb2
theorem PhaseShifts : Go.Proofs.YtcjilccldfkhmaaDoor.phaseShifts.P := by
  intro l0 a1 a2 hok hw1 hw2
  refine ⟨2, ?_⟩
  unfold spigotlaw37_PhaseShifts.f spigotlaw37_awake.f
  simp only [Option.bind_some, if_true]
  by_cases c1 : (l0.length : Int) > 100
  · rw [if_pos c1]
  rw [if_neg c1, if_pos (by simp; omega)]
  rw [List.nil_append]
  have hpl : spigotlaw37_plain.f l0 = some (l0.map plQ) := by unfold spigotlaw37_plain.f; rw [if_pos (by omega)]
  have hsm : spigotref37_Same.f (l0.map plQ) (l0.map plQ) = some true := by
    unfold spigotref37_Same.f; rw [if_pos (by rw [List.length_map]; unfold big; omega)]; simp
  unfold phase_Shift.f
  rw [hpl]
  simp only [Option.bind_some]
  rw [hsm]
  simp only [Option.bind_some, if_true]
  rw [wrong_eqS l0 a1 (by omega)]
  simp only [Option.bind_some]
  by_cases c2 : dayL (l0.map prP) = true
  · rw [if_pos c2, if_pos c2]
    by_cases c3 : 0 ≤ a1 ∧ a1 ≤ 1099511627776
    · rw [if_pos c3, if_pos rfl]
      by_cases c4 : 0 ≤ a2 ∧ a2 ≤ 1099511627776
      · have h34 : (0 ≤ a1 ∧ a1 ≤ 1099511627776) ∧ 0 ≤ a2 ∧ a2 ≤ 1099511627776 := ⟨c3, c4⟩
        rw [if_pos h34, if_neg (show ¬ a2 < 0 by omega), decide_eq_false (show ¬ a2 > 1099511627776 by omega)]
        simp only [spigotlaw37_PhaseShifts.j0, spigotlaw37_PhaseShifts.j1, Bool.false_eq_true, if_false, if_true]
        rw [hpl]
        simp only [Option.bind_some]
        have hQ : (l0.map plQ).map (shQ a1 a2) = (l0.map (shP a1 a2)).map plQ := by
          rw [List.map_map, List.map_map]
          apply List.map_congr_left
          intro x _
          show shQ a1 a2 (plQ x) = plQ (shP a1 a2 x)
          unfold shQ shP plQ
          simp only
          split <;> rfl
        have hsf : spigotref37_Shift.f (l0.map plQ) a1 a2 = some ((l0.map (shP a1 a2)).map plQ, fitsP a1 a2 (l0.drop (begunL a1 (l0.map prP)))) := by
          unfold spigotref37_Shift.f
          rw [prQ_plQ, if_pos ⟨c2, c4⟩, hQ, prQ_plQ, shift_day l0 a1 a2 c2 c3.1 c4.1]
        rw [hsf]
        simp only [Option.bind_some]
        by_cases c5 : fitsP a1 a2 (l0.drop (begunL a1 (l0.map prP))) = true
        · rw [if_pos c5, c5]
          simp only [if_true]
          have hpl2 : spigotlaw37_plain.f (l0.map (shP a1 a2)) = some ((l0.map (shP a1 a2)).map plQ) := by unfold spigotlaw37_plain.f; rw [if_pos (by rw [List.length_map]; omega)]
          rw [hpl2]
          simp only [Option.bind_some]
          unfold spigotref37_Same.f
          rw [if_pos (by rw [List.length_map, List.length_map]; unfold big; omega)]
          simp
        · rw [if_neg c5, if_neg c5]
          simp
      · have h34 : ¬ ((0 ≤ a1 ∧ a1 ≤ 1099511627776) ∧ 0 ≤ a2 ∧ a2 ≤ 1099511627776) := fun g => c4 g.2
        rw [if_neg h34]
        by_cases c5 : a2 < 0
        · rw [if_pos c5]
          simp [spigotlaw37_PhaseShifts.j0, spigotlaw37_PhaseShifts.j1]
        · rw [if_neg c5, decide_eq_true (show a2 > 1099511627776 by omega)]
          simp [spigotlaw37_PhaseShifts.j0, spigotlaw37_PhaseShifts.j1]
    · have h34 : ¬ ((0 ≤ a1 ∧ a1 ≤ 1099511627776) ∧ 0 ≤ a2 ∧ a2 ≤ 1099511627776) := fun g => c3 g.1
      rw [if_neg h34, if_neg c3, if_neg (show ¬ (2 : Int) = 0 by decide)]
      simp [spigotlaw37_PhaseShifts.j0, spigotlaw37_PhaseShifts.j1]
  · rw [if_neg c2, if_neg c2, if_neg (show ¬ (370 : Int) = 0 by decide)]
    simp [spigotlaw37_PhaseShifts.j0, spigotlaw37_PhaseShifts.j1]

end Go.Proofs.YtcjilccldfkhmaaDoor.Pure
