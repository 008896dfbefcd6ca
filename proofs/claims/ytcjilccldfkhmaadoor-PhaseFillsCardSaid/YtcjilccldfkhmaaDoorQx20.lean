/- Each Go function that the laws of this seat reach, as a plain Lean function, and its contract: the machine's call does what that function says. -/
import Derived.Test.YtcjilccldfkhmaaDoorQx0
import Derived.Test.YtcjilccldfkhmaaDoorQx2
import Derived.Test.YtcjilccldfkhmaaDoorQx15
namespace Go.Proofs.YtcjilccldfkhmaaDoor.Q
open Go.RowKit Go.Proofs.YtcjilccldfkhmaaDoorW.PrintWords Go.Proofs.YtcjilccldfkhmaaDoorW.PrintLast Go.Proofs.YtcjilccldfkhmaaDoorW.PrintMore
attribute [local go_sem] max2_int min2_int max_two min_two max_three min_three max_four min_four   -- for this text's walks alone
set_option linter.unusedVariables false
set_option linter.unusedSimpArgs false

--PART
/-! ### spigotref37_upto_p: function 29 -/
mutual
def spigotref37_upto_p.l0 : Nat → List (S56) → Int → Int → Int → Option (Int)
  | 0, _, _, _, _ => none
  | k + 1, x0, x1, x5, x6 => if x6 < (x0.length : Int) then (if 0 ≤ x6 then (spigotref37_upto_p.j1 k x0 x1 x5 x6 (decide (((rd_T56 x0 x6).f0) < x1))) else (none)) else (spigotref37_upto_p.j1 k x0 x1 x5 x6 false)
def spigotref37_upto_p.j1 : Nat → List (S56) → Int → Int → Int → Bool → Option (Int)
  | 0, _, _, _, _, _ => none
  | k + 1, x0, x1, x5, x6, x19 => if x19 = true then (if 0 ≤ x6 then (if x6 < (x0.length : Int) then (if ((rd_T56 x0 x6).f1) = 3 then (if (wrap64 (x6 + 1)) < (x0.length : Int) then (if 0 ≤ (wrap64 (x6 + 1)) then (if ((rd_T56 x0 (wrap64 (x6 + 1))).f0) < x1 then (spigotref37_upto_p.l0 k x0 x1 (wrap64 (x5 + (wrap64 (((rd_T56 x0 (wrap64 (x6 + 1))).f0) - ((rd_T56 x0 x6).f0))))) (wrap64 (x6 + 1))) else (spigotref37_upto_p.l0 k x0 x1 (wrap64 (x5 + (wrap64 (x1 - ((rd_T56 x0 x6).f0))))) (wrap64 (x6 + 1)))) else (none)) else (spigotref37_upto_p.l0 k x0 x1 (wrap64 (x5 + (wrap64 (x1 - ((rd_T56 x0 x6).f0))))) (wrap64 (x6 + 1)))) else (spigotref37_upto_p.l0 k x0 x1 x5 (wrap64 (x6 + 1)))) else (none)) else (none)) else (some x5)
end
def spigotref37_upto_p.f (k : Nat) (l0 : List (S56)) (a1 : Int) : Option (Int) := spigotref37_upto_p.l0 k l0 a1 0 0
theorem spigotref37_upto_p.mono_l : ∀ k, (∀ y0 y1 y2 y3, LeO (spigotref37_upto_p.l0 k y0 y1 y2 y3) (spigotref37_upto_p.l0 (k + 1) y0 y1 y2 y3)) ∧ (∀ y0 y1 y2 y3 y4, LeO (spigotref37_upto_p.j1 k y0 y1 y2 y3 y4) (spigotref37_upto_p.j1 (k + 1) y0 y1 y2 y3 y4))
  | 0 => ⟨fun _ _ _ _ r h => by simp [spigotref37_upto_p.l0] at h, fun _ _ _ _ _ r h => by simp [spigotref37_upto_p.j1] at h⟩
  | k + 1 => by
    obtain ⟨ih0, ih1⟩ := spigotref37_upto_p.mono_l k
    refine ⟨?_, ?_⟩
    · intro y0 y1 y2 y3
      unfold spigotref37_upto_p.l0
      repeat' first
      | (with_reducible exact ih0 _ _ _ _)
      | (with_reducible exact ih1 _ _ _ _ _)
      | (with_reducible exact LeO.refl _)
      | (with_reducible exact LeO.none _)
      | (with_reducible refine LeO.ite ?_ ?_)
      | (with_reducible refine LeO.bind ?_ (fun _ => ?_))
      | exact ih0 _ _ _ _
      | exact ih1 _ _ _ _ _
      | exact LeO.none _
      | refine LeO.ite ?_ ?_
      | refine LeO.bind ?_ (fun _ => ?_)
    · intro y0 y1 y2 y3 y4
      unfold spigotref37_upto_p.j1
      repeat' first
      | (with_reducible exact ih0 _ _ _ _)
      | (with_reducible exact ih1 _ _ _ _ _)
      | (with_reducible exact LeO.refl _)
      | (with_reducible exact LeO.none _)
      | (with_reducible refine LeO.ite ?_ ?_)
      | (with_reducible refine LeO.bind ?_ (fun _ => ?_))
      | exact ih0 _ _ _ _
      | exact ih1 _ _ _ _ _
      | exact LeO.none _
      | refine LeO.ite ?_ ?_
      | refine LeO.bind ?_ (fun _ => ?_)
theorem spigotref37_upto_p.mono : ∀ a0 a1 k, LeO (spigotref37_upto_p.f k a0 a1) (spigotref37_upto_p.f (k + 1) a0 a1) := by
  intro a0 a1 k
  obtain ⟨ih0, ih1⟩ := spigotref37_upto_p.mono_l k
  unfold spigotref37_upto_p.f
  repeat' first
      | (with_reducible exact ih0 _ _ _ _)
      | (with_reducible exact ih1 _ _ _ _ _)
      | (with_reducible exact LeO.refl _)
      | (with_reducible exact LeO.none _)
      | (with_reducible refine LeO.ite ?_ ?_)
      | (with_reducible refine LeO.bind ?_ (fun _ => ?_))
      | exact ih0 _ _ _ _
      | exact ih1 _ _ _ _ _
      | exact LeO.none _
      | refine LeO.ite ?_ ?_
      | refine LeO.bind ?_ (fun _ => ?_)
set_option maxHeartbeats 8000000 in
set_option maxRecDepth 100000 in
theorem spigotref37_upto_p.calls (k : Nat) (A0 : Option Addr) (c0 : Nat) (l0 : List (S56)) (a1 : Int) (r : Int) (w : World) (hr0 : Kd.C k56 w A0 l0.length l0) (hc0 : l0.length ≤ c0) (h : spigotref37_upto_p.f k l0 a1 = some r) :
    Calls Tryd.prog 29 #[.slice A0 l0.length c0, .int .i64 a1] w fun e w' => e = .returned (.int .i64 r) ∧ Drawn0 w w' := by
  have HR0 := Aside0.mk hr0
  have HC0 := Aside0.mk hc0
  clear hr0 hc0
  have H : (spigotref37_upto_p.l0 k l0 a1 0 0) = some r := h
  clear h
  have H' := Aside0.mk H
  clear H
  go_enter Tryd.func29, Tryd.ntmps29
  go_wp2
  repeat (go_quiet (fail); try go_wp2)
  go_loopg [5, 6] k (fun kq v5 v6 w' => ∃ (x5_1 : Int) (x6_1 : Int), v5 = .int .i64 x5_1 ∧ v6 = .int .i64 x6_1 ∧ Aside0 (spigotref37_upto_p.l0 kq l0 a1 x5_1 x6_1 = some r) ∧ Aside0 (kq ≤ k) ∧ Drawn0 w w')
  case atStart => exact ⟨(0), (0), (by first | rfl | (simp; done) | (simp [*]; done)), (by first | rfl | (simp; done) | (simp [*]; done)), H', ⟨Nat.le_refl _⟩, by repeat (first | exact Drawn0.refl _ | apply Drawn0.step)⟩
  case round =>
    clear H'
    try clear c2
    try clear p2
    obtain ⟨x5_1, x6_1, rfl, rfl, HA, HK1, ⟨m1, rfl⟩⟩ := hrel
    cases gk with
    | zero => exact absurd HA.out (by simp [spigotref37_upto_p.l0])
    | succ k1 =>
      have H := HA.out
      clear HA
      simp only [spigotref37_upto_p.l0] at H
      have HC3 := Aside0.mk H
      clear H
      go_upto_region 3 with (fail)
      repeat (go_quiet (fail); go_upto_region 3 with (fail))
      go_cut [19] (fun v19 wc => ∃ (kq : Nat) (x19_2 : Bool), v19 = .bool x19_2 ∧ Aside0 (spigotref37_upto_p.j1 kq l0 a1 x5_1 x6_1 x19_2 = some r) ∧ Aside0 (kq ≤ k1) ∧ Drawn0 w wc)
      case first =>
        have H := HC3.out
        clear HC3
        by_cases c4 : x6_1 < (l0.length : Int)
        · rw [if_pos c4] at H
          have c4b0 : decide (x6_1 < (l0.length : Int)) = true := decide_eq_true c4
          clear c4
          (first | rw [c4b0] | (simp only [i64_w, i32_w]; rw [c4b0]) | skip)
          by_cases c5 : 0 ≤ x6_1
          · rw [if_pos c5] at H
            have c5b0 : decide (0 ≤ x6_1) = true := decide_eq_true c5
            clear c5
            have H' := Aside0.mk H
            clear H
            have p194 : 0 ≤ (x6_1 : Int) := of_decide_eq_true (by first | (with_reducible assumption) | assumption)
            have q194 : x6_1 < (l0.length : Int) := of_decide_eq_true (by first | (with_reducible assumption) | assumption)
            obtain ⟨ad194, e194, hx194_0, hx194_1⟩ := at_T56 HR0.out x6_1 p194 q194
            cases e194
            replace p194 := eq_true p194
            replace q194 := eq_true q194
            go_wp2
            repeat (go_quiet (fail); try go_wp2)
            go_meet
            case rel => exact ⟨_, (decide (((rd_T56 l0 x6_1).f0) < a1)), (by first | rfl | (simp; done) | (simp [*]; done)), H', ⟨by have := HK1.out; first | omega | exact Nat.le_refl _⟩, by repeat (first | exact Drawn0.refl _ | apply Drawn0.step)⟩
          · rw [if_neg c5] at H
            exact absurd H (by simp)
        · rw [if_neg c4] at H
          have c4b0 : decide (x6_1 < (l0.length : Int)) = false := decide_eq_false c4
          clear c4
          (first | rw [c4b0] | (simp only [i64_w, i32_w]; rw [c4b0]) | skip)
          have H' := Aside0.mk H
          clear H
          go_wp2
          repeat (go_quiet (fail); try go_wp2)
          go_meet
          case rel => exact ⟨_, (false), (by first | rfl | (simp; done) | (simp [*]; done)), H', ⟨by have := HK1.out; first | omega | exact Nat.le_refl _⟩, by repeat (first | exact Drawn0.refl _ | apply Drawn0.step)⟩
      case rest =>
        clear HC3
        try clear p1
        try clear q1
        try clear hx1
        try clear c2
        try clear p2
        try clear c4
        try clear c4b0
        try clear c5
        try clear c5b0
        try clear hx194_0
        try clear hx194_1
        try clear p194
        try clear p2
        try clear q194
        obtain ⟨kq, x19_2, rfl, HA, HJ2, ⟨mc2, rfl⟩⟩ := hcut
        cases kq with
        | zero => exact absurd HA.out (by simp [spigotref37_upto_p.j1])
        | succ kj2 =>
          have H := HA.out
          clear HA
          simp only [spigotref37_upto_p.j1] at H
          by_cases c6 : x19_2 = true
          · subst c6
            have H1 : (if 0 ≤ x6_1 then (if x6_1 < (l0.length : Int) then (if ((rd_T56 l0 x6_1).f1) = 3 then (if (wrap64 (x6_1 + 1)) < (l0.length : Int) then (if 0 ≤ (wrap64 (x6_1 + 1)) then (if ((rd_T56 l0 (wrap64 (x6_1 + 1))).f0) < a1 then (spigotref37_upto_p.l0 kj2 l0 a1 (wrap64 (x5_1 + (wrap64 (((rd_T56 l0 (wrap64 (x6_1 + 1))).f0) - ((rd_T56 l0 x6_1).f0))))) (wrap64 (x6_1 + 1))) else (spigotref37_upto_p.l0 kj2 l0 a1 (wrap64 (x5_1 + (wrap64 (a1 - ((rd_T56 l0 x6_1).f0))))) (wrap64 (x6_1 + 1)))) else (none)) else (spigotref37_upto_p.l0 kj2 l0 a1 (wrap64 (x5_1 + (wrap64 (a1 - ((rd_T56 l0 x6_1).f0))))) (wrap64 (x6_1 + 1)))) else (spigotref37_upto_p.l0 kj2 l0 a1 x5_1 (wrap64 (x6_1 + 1)))) else (none)) else (none)) = some r := by rw [if_pos rfl] at H; exact H
            clear H
            have H := H1
            clear H1
            by_cases c7 : 0 ≤ x6_1
            · rw [if_pos c7] at H
              have c7b0 : decide (0 ≤ x6_1) = true := decide_eq_true c7
              clear c7
              by_cases c8 : x6_1 < (l0.length : Int)
              · rw [if_pos c8] at H
                have c8b0 : decide (x6_1 < (l0.length : Int)) = true := decide_eq_true c8
                clear c8
                by_cases c9 : ((rd_T56 l0 x6_1).f1) = 3
                · rw [if_pos c9] at H
                  have c9b0 : (((rd_T56 l0 x6_1).f1) == 3) = true := beq_iff_eq.mpr c9
                  have c9b1 : (((rd_T56 l0 x6_1).f1) != 3) = false := bne_eq_false_iff_eq.mpr c9
                  clear c9
                  by_cases c10 : (wrap64 (x6_1 + 1)) < (l0.length : Int)
                  · rw [if_pos c10] at H
                    have c10b0 : decide ((wrap64 (x6_1 + 1)) < (l0.length : Int)) = true := decide_eq_true c10
                    clear c10
                    obtain ⟨ji11, hji11⟩ : ∃ j_ : Int, (wrap64 (x6_1 + 1)) = j_ := ⟨_, rfl⟩
                    replace H : (if 0 ≤ (ji11) then (if ((rd_T56 l0 (ji11)).f0) < a1 then (spigotref37_upto_p.l0 kj2 l0 a1 (wrap64 (x5_1 + (wrap64 (((rd_T56 l0 (ji11)).f0) - ((rd_T56 l0 x6_1).f0))))) ji11) else (spigotref37_upto_p.l0 kj2 l0 a1 (wrap64 (x5_1 + (wrap64 (a1 - ((rd_T56 l0 x6_1).f0))))) ji11)) else (none)) = some r := by first | (rw [hji11] at H; exact H) | (simp only [hji11] at H ⊢; exact H)
                    (try rw [hji11] at c10b0)
                    have hji11w : (IntKind.i64.wrap (x6_1 + 1)) = ji11 := (i64_w _).trans hji11
                    by_cases c12 : 0 ≤ (ji11)
                    · rw [if_pos c12] at H
                      have c12b0 : decide (0 ≤ (ji11)) = true := decide_eq_true c12
                      clear c12
                      by_cases c13 : ((rd_T56 l0 (ji11)).f0) < a1
                      · rw [if_pos c13] at H
                        have c13b0 : decide (((rd_T56 l0 (ji11)).f0) < a1) = true := decide_eq_true c13
                        clear c13
                        have H' := Aside0.mk H
                        clear H
                        have p195 : 0 ≤ (x6_1 : Int) := of_decide_eq_true (by first | (with_reducible assumption) | assumption)
                        have q195 : x6_1 < (l0.length : Int) := of_decide_eq_true (by first | (with_reducible assumption) | assumption)
                        obtain ⟨ad195, e195, hx195_0, hx195_1⟩ := at_T56 HR0.out x6_1 p195 q195
                        cases e195
                        replace p195 := eq_true p195
                        replace q195 := eq_true q195
                        have p196 : 0 ≤ ((ji11) : Int) := of_decide_eq_true (by first | (with_reducible assumption) | assumption)
                        have q196 : (ji11) < (l0.length : Int) := of_decide_eq_true (by first | (with_reducible assumption) | assumption)
                        obtain ⟨ad196, e196, hx196_0, hx196_1⟩ := at_T56 HR0.out (ji11) p196 q196
                        obtain rfl : ad195 = ad196 := (by injection e196)
                        replace p196 := eq_true p196
                        replace q196 := eq_true q196
                        have p197 : 0 ≤ ((ji11) : Int) := of_decide_eq_true (by first | (with_reducible assumption) | assumption)
                        have q197 : (ji11) < (l0.length : Int) := of_decide_eq_true (by first | (with_reducible assumption) | assumption)
                        obtain ⟨ad197, e197, hx197_0, hx197_1⟩ := at_T56 HR0.out (ji11) p197 q197
                        obtain rfl : ad195 = ad197 := (by injection e197)
                        replace p197 := eq_true p197
                        replace q197 := eq_true q197
                        have p198 : 0 ≤ (x6_1 : Int) := of_decide_eq_true (by first | (with_reducible assumption) | assumption)
                        have q198 : x6_1 < (l0.length : Int) := of_decide_eq_true (by first | (with_reducible assumption) | assumption)
                        obtain ⟨ad198, e198, hx198_0, hx198_1⟩ := at_T56 HR0.out x6_1 p198 q198
                        obtain rfl : ad195 = ad198 := (by injection e198)
                        replace p198 := eq_true p198
                        replace q198 := eq_true q198
                        go_wp2
                        repeat (go_quiet (fail); try go_wp2)
                        go_roundg kj2
                        case measure => have := HK1.out; have := HJ2.out; omega
                        case rel => exact ⟨(wrap64 (x5_1 + (wrap64 (((rd_T56 l0 (ji11)).f0) - ((rd_T56 l0 x6_1).f0))))), (ji11), (by first | rfl | (simp; done) | (simp only [← hji11] <;> (first | rfl | simp)) | (simp [*]; done)), (by first | rfl | (simp; done) | (simp only [← hji11] <;> (first | rfl | simp)) | (simp [*]; done)), H', ⟨by have := HK1.out; have := HJ2.out; omega⟩, by repeat (first | exact Drawn0.refl _ | apply Drawn0.step)⟩
                      · rw [if_neg c13] at H
                        have c13b0 : decide (((rd_T56 l0 (ji11)).f0) < a1) = false := decide_eq_false c13
                        clear c13
                        have H' := Aside0.mk H
                        clear H
                        have p195 : 0 ≤ (x6_1 : Int) := of_decide_eq_true (by first | (with_reducible assumption) | assumption)
                        have q195 : x6_1 < (l0.length : Int) := of_decide_eq_true (by first | (with_reducible assumption) | assumption)
                        obtain ⟨ad195, e195, hx195_0, hx195_1⟩ := at_T56 HR0.out x6_1 p195 q195
                        cases e195
                        replace p195 := eq_true p195
                        replace q195 := eq_true q195
                        have p196 : 0 ≤ ((ji11) : Int) := of_decide_eq_true (by first | (with_reducible assumption) | assumption)
                        have q196 : (ji11) < (l0.length : Int) := of_decide_eq_true (by first | (with_reducible assumption) | assumption)
                        obtain ⟨ad196, e196, hx196_0, hx196_1⟩ := at_T56 HR0.out (ji11) p196 q196
                        obtain rfl : ad195 = ad196 := (by injection e196)
                        replace p196 := eq_true p196
                        replace q196 := eq_true q196
                        have p199 : 0 ≤ (x6_1 : Int) := of_decide_eq_true (by first | (with_reducible assumption) | assumption)
                        have q199 : x6_1 < (l0.length : Int) := of_decide_eq_true (by first | (with_reducible assumption) | assumption)
                        obtain ⟨ad199, e199, hx199_0, hx199_1⟩ := at_T56 HR0.out x6_1 p199 q199
                        obtain rfl : ad195 = ad199 := (by injection e199)
                        replace p199 := eq_true p199
                        replace q199 := eq_true q199
                        go_wp2
                        repeat (go_quiet (fail); try go_wp2)
                        go_roundg kj2
                        case measure => have := HK1.out; have := HJ2.out; omega
                        case rel => exact ⟨(wrap64 (x5_1 + (wrap64 (a1 - ((rd_T56 l0 x6_1).f0))))), (ji11), (by first | rfl | (simp; done) | (simp [*]; done)), (by first | rfl | (simp; done) | (simp only [← hji11] <;> (first | rfl | simp)) | (simp [*]; done)), H', ⟨by have := HK1.out; have := HJ2.out; omega⟩, by repeat (first | exact Drawn0.refl _ | apply Drawn0.step)⟩
                    · rw [if_neg c12] at H
                      exact absurd H (by simp)
                  · rw [if_neg c10] at H
                    have c10b0 : decide ((wrap64 (x6_1 + 1)) < (l0.length : Int)) = false := decide_eq_false c10
                    clear c10
                    have H' := Aside0.mk H
                    clear H
                    have p195 : 0 ≤ (x6_1 : Int) := of_decide_eq_true (by first | (with_reducible assumption) | assumption)
                    have q195 : x6_1 < (l0.length : Int) := of_decide_eq_true (by first | (with_reducible assumption) | assumption)
                    obtain ⟨ad195, e195, hx195_0, hx195_1⟩ := at_T56 HR0.out x6_1 p195 q195
                    cases e195
                    replace p195 := eq_true p195
                    replace q195 := eq_true q195
                    have p200 : 0 ≤ (x6_1 : Int) := of_decide_eq_true (by first | (with_reducible assumption) | assumption)
                    have q200 : x6_1 < (l0.length : Int) := of_decide_eq_true (by first | (with_reducible assumption) | assumption)
                    obtain ⟨ad200, e200, hx200_0, hx200_1⟩ := at_T56 HR0.out x6_1 p200 q200
                    obtain rfl : ad195 = ad200 := (by injection e200)
                    replace p200 := eq_true p200
                    replace q200 := eq_true q200
                    go_wp2
                    repeat (go_quiet (fail); try go_wp2)
                    go_roundg kj2
                    case measure => have := HK1.out; have := HJ2.out; omega
                    case rel => exact ⟨(wrap64 (x5_1 + (wrap64 (a1 - ((rd_T56 l0 x6_1).f0))))), (wrap64 (x6_1 + 1)), (by first | rfl | (simp; done) | (simp [*]; done)), (by first | rfl | (simp; done) | (simp [*]; done)), H', ⟨by have := HK1.out; have := HJ2.out; omega⟩, by repeat (first | exact Drawn0.refl _ | apply Drawn0.step)⟩
                · rw [if_neg c9] at H
                  have c9b0 : (((rd_T56 l0 x6_1).f1) == 3) = false := beq_eq_false_iff_ne.mpr c9
                  have c9b1 : (((rd_T56 l0 x6_1).f1) != 3) = true := bne_iff_ne.mpr c9
                  have H' := Aside0.mk H
                  clear H
                  have p195 : 0 ≤ (x6_1 : Int) := of_decide_eq_true (by first | (with_reducible assumption) | assumption)
                  have q195 : x6_1 < (l0.length : Int) := of_decide_eq_true (by first | (with_reducible assumption) | assumption)
                  obtain ⟨ad195, e195, hx195_0, hx195_1⟩ := at_T56 HR0.out x6_1 p195 q195
                  cases e195
                  replace p195 := eq_true p195
                  replace q195 := eq_true q195
                  go_wp2
                  repeat (go_quiet (fail); try go_wp2)
                  go_roundg kj2
                  case measure => have := HK1.out; have := HJ2.out; omega
                  case rel => exact ⟨(x5_1), (wrap64 (x6_1 + 1)), (by first | rfl | (simp; done) | (simp [*]; done)), (by first | rfl | (simp; done) | (simp [*]; done)), H', ⟨by have := HK1.out; have := HJ2.out; omega⟩, by repeat (first | exact Drawn0.refl _ | apply Drawn0.step)⟩
              · rw [if_neg c8] at H
                exact absurd H (by simp)
            · rw [if_neg c7] at H
              exact absurd H (by simp)
          · replace c6 := Bool.eq_false_iff.mpr c6
            subst c6
            have H1 : (some x5_1) = some r := by rw [if_neg (show ¬ (false = true) by decide)] at H; exact H
            clear H
            have H := H1
            clear H1
            obtain rfl := Option.some.inj H
            go_wp2
            repeat (go_quiet (fail); try go_wp2)
            go_ret
            exact ⟨by first | rfl | (simp; done) | (simp [*]; done), by repeat (first | exact Drawn0.refl _ | apply Drawn0.step)⟩
/-! ### spigotref37_upto: function 29 -/
theorem prQ_drop (l : List S56) (i : Nat) (h : i < l.length) : (l.map prQ).drop i = (l[i].f0, l[i].f1) :: (l.map prQ).drop (i + 1) := by
  rw [List.drop_eq_getElem_cons (by rw [List.length_map]; exact h), List.getElem_map]; rfl
theorem ref37_upto_loop (l : List S56) (x : Int) (hx : 0 ≤ x ∧ x ≤ 1099511627776) (hd : dayL (l.map prQ) = true) (d : Nat) : ∀ (k i : Nat) (n : Int), i + d = l.length → 0 ≤ n → n ≤ 1099511627776 * (i : Int) →
    spigotref37_upto_p.l0 (k + 2 * d + 2) l x n (i : Int) = some (n + uptoL x ((l.map prQ).drop i)) := by
  have hlen := ((dayL_iff _).1 hd).1
  rw [List.length_map] at hlen
  have hin : ∀ i (h : i < l.length), 0 ≤ l[i].f0 ∧ l[i].f0 ≤ 1099511627776 := fun i h => by
    have := day_in hd i (by rw [List.length_map]; exact h)
    rw [List.getD_eq_getElem?_getD, List.getElem?_map, List.getElem?_eq_getElem h] at this
    exact ⟨this.2.2.1, this.2.2.2⟩
  induction d with
  | zero =>
    intro k i n hi h0 h1
    rw [show k + 2 * 0 + 2 = k + 1 + 1 by omega]
    unfold spigotref37_upto_p.l0
    rw [if_neg (by omega), List.drop_eq_nil_of_le (by rw [List.length_map]; omega)]
    simp [spigotref37_upto_p.j1, uptoL]
  | succ d ih =>
    intro k i n hi h0 h1
    have hlt : i < l.length := by omega
    rw [show k + 2 * (d + 1) + 2 = (k + 2 * d + 2) + 1 + 1 by omega]
    have hi0 := hin i hlt
    conv => lhs; unfold spigotref37_upto_p.l0
    rw [if_pos (by omega), if_pos (by omega), rdQ_at l i hlt, prQ_drop l i hlt]
    conv => lhs; unfold spigotref37_upto_p.j1
    rw [w64 (x := (i : Int) + 1) (by omega) (by omega), show (i : Int) + 1 = ((i + 1 : Nat) : Int) by omega, rdQ_at l i hlt]
    by_cases c : l[i].f0 < x
    · rw [decide_eq_true c, if_pos rfl, if_pos (by omega), if_pos (by omega)]
      by_cases c3 : l[i].f1 = 3
      · rw [if_pos c3]
        by_cases c4 : i + 1 < l.length
        · have hi1 := hin (i + 1) c4
          rw [if_pos (by omega), if_pos (by omega), rdQ_at l (i + 1) c4]
          by_cases c5 : (l[i + 1]'c4).f0 < x
          · rw [if_pos c5, w64 (x := (l[i + 1]'c4).f0 - l[i].f0) (by omega) (by omega), w64 (by omega) (by omega)]
            have hasc : l[i].f0 < (l[i + 1]'c4).f0 := by
              have := ((dayL_iff _).1 hd).2 (i + 1) (by rw [List.length_map]; exact c4)
              unfold goodP at this
              rw [decide_eq_true_eq, prQ_getD l (i + 1) c4, show i + 1 - 1 = i by omega, prQ_getD l i hlt] at this
              exact (this.2.2.2.2 (by omega)).1
            rw [ih k (i + 1) _ (by omega) (by omega) (by omega)]
            congr 1
            conv => rhs; unfold uptoL
            rw [if_pos c, if_pos c3, prQ_drop l (i + 1) c4]
            simp only [if_pos c5]
            omega
          · rw [if_neg c5, w64 (x := x - l[i].f0) (by omega) (by omega), w64 (by omega) (by omega), ih k (i + 1) _ (by omega) (by omega) (by omega)]
            congr 1
            conv => rhs; unfold uptoL
            rw [if_pos c, if_pos c3, prQ_drop l (i + 1) c4]
            simp only [if_neg c5]
            omega
        · rw [if_neg (by omega), w64 (x := x - l[i].f0) (by omega) (by omega), w64 (by omega) (by omega), ih k (i + 1) _ (by omega) (by omega) (by omega)]
          congr 1
          conv => rhs; unfold uptoL
          rw [if_pos c, if_pos c3, List.drop_eq_nil_of_le (show (l.map prQ).length ≤ i + 1 by rw [List.length_map]; omega)]
          simp only
          omega
      · rw [if_neg c3, ih k (i + 1) _ (by omega) (by omega) (by omega)]
        congr 1
        conv => rhs; unfold uptoL
        rw [if_pos c, if_neg c3]; omega
    · rw [decide_eq_false c]
      simp only [Bool.false_eq_true, if_false]
      congr 1
      unfold uptoL
      rw [if_neg c]; omega
def spigotref37_upto.f (l0 : List S56) (a1 : Int) : Option Int := if dayL (l0.map prQ) = true ∧ 0 ≤ a1 ∧ a1 ≤ 1099511627776 then some (uptoL a1 (l0.map prQ)) else none
theorem spigotref37_upto.calls (A0 : Option Addr) (c0 : Nat) (l0 : List S56) (a1 : Int) (r : Int) (w : World) (hr0 : Kd.C k56 w A0 l0.length l0) (hc0 : l0.length ≤ c0) (h : spigotref37_upto.f l0 a1 = some r) :
    Calls Tryd.prog 29 #[.slice A0 l0.length c0, .int .i64 a1] w fun e w' => e = .returned (.int .i64 r) ∧ Drawn0 w w' := by
  unfold spigotref37_upto.f at h
  by_cases c : dayL (l0.map prQ) = true ∧ 0 ≤ a1 ∧ a1 ≤ 1099511627776
  · rw [if_pos c] at h
    obtain rfl := Option.some.inj h
    refine spigotref37_upto_p.calls (2 * l0.length + 2) A0 c0 l0 a1 _ w hr0 hc0 ?_
    have := ref37_upto_loop l0 a1 c.2 c.1 l0.length 0 0 0 (by omega) (by omega) (by omega)
    simpa [spigotref37_upto_p.f] using this
  · rw [if_neg c] at h; cases h

end Go.Proofs.YtcjilccldfkhmaaDoor.Q
