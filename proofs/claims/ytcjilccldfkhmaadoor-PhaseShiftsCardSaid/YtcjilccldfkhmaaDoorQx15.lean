/- Each Go function that the laws of this seat reach, as a plain Lean function, and its contract: the machine's call does what that function says. -/
import Derived.Test.YtcjilccldfkhmaaDoorQx0
import Derived.Test.YtcjilccldfkhmaaDoorQx2
import Derived.Test.YtcjilccldfkhmaaDoorQx14
namespace Go.Proofs.YtcjilccldfkhmaaDoor.Q
open Go.RowKit Go.Proofs.YtcjilccldfkhmaaDoorW.PrintWords Go.Proofs.YtcjilccldfkhmaaDoorW.PrintLast Go.Proofs.YtcjilccldfkhmaaDoorW.PrintMore
attribute [local go_sem] max2_int min2_int max_two min_two max_three min_three max_four min_four   -- for this text's walks alone
set_option linter.unusedVariables false
set_option linter.unusedSimpArgs false

--PART
/-! ### spigotref37_Right_p: function 13 -/
mutual
def spigotref37_Right_p.j0 : Nat → List (S56) → Bool → Option (Bool)
  | 0, _, _ => none
  | k + 1, x0, x18 => if x18 = true then (some false) else (spigotref37_Right_p.l0 k x0 0)
def spigotref37_Right_p.l0 : Nat → List (S56) → Int → Option (Bool)
  | 0, _, _ => none
  | k + 1, x0, x3 => if x3 < (x0.length : Int) then (if 0 ≤ x3 then ((spigotref37_in.f ((rd_T56 x0 x3).f1) 1 4).bind fun t151 => (if t151 = true then ((spigotref37_in.f ((rd_T56 x0 x3).f0) 0 1099511627776).bind fun t153 => (spigotref37_Right_p.j2 k x0 x3 (!t153))) else (spigotref37_Right_p.j2 k x0 x3 true))) else (none)) else (some true)
def spigotref37_Right_p.j2 : Nat → List (S56) → Int → Bool → Option (Bool)
  | 0, _, _, _ => none
  | k + 1, x0, x3, x40 => if x40 = true then (some false) else (if x3 > 0 then (if 0 ≤ x3 then (if x3 < (x0.length : Int) then (if 0 ≤ (wrap64 (x3 - 1)) then (if (wrap64 (x3 - 1)) < (x0.length : Int) then (if ((rd_T56 x0 x3).f0) ≤ ((rd_T56 x0 (wrap64 (x3 - 1))).f0) then (some false) else (if ((rd_T56 x0 x3).f1) = ((rd_T56 x0 (wrap64 (x3 - 1))).f1) then (some false) else (spigotref37_Right_p.l0 k x0 (wrap64 (x3 + 1))))) else (none)) else (none)) else (none)) else (none)) else (spigotref37_Right_p.l0 k x0 (wrap64 (x3 + 1))))
end
def spigotref37_Right_p.f (k : Nat) (l0 : List (S56)) : Option (Bool) := if (l0.length : Int) < 1 then (spigotref37_Right_p.j0 k l0 true) else (if (l0.length : Int) > 32 then (spigotref37_Right_p.j0 k l0 true) else (if 0 < (l0.length : Int) then (spigotref37_Right_p.j0 k l0 (((rd_T56 l0 0).f0) != 0)) else (none)))
theorem spigotref37_Right_p.mono_l : ∀ k, (∀ y0 y1, LeO (spigotref37_Right_p.j0 k y0 y1) (spigotref37_Right_p.j0 (k + 1) y0 y1)) ∧ (∀ y0 y1, LeO (spigotref37_Right_p.l0 k y0 y1) (spigotref37_Right_p.l0 (k + 1) y0 y1)) ∧ (∀ y0 y1 y2, LeO (spigotref37_Right_p.j2 k y0 y1 y2) (spigotref37_Right_p.j2 (k + 1) y0 y1 y2))
  | 0 => ⟨fun _ _ r h => by simp [spigotref37_Right_p.j0] at h, fun _ _ r h => by simp [spigotref37_Right_p.l0] at h, fun _ _ _ r h => by simp [spigotref37_Right_p.j2] at h⟩
  | k + 1 => by
    obtain ⟨ih0, ih1, ih2⟩ := spigotref37_Right_p.mono_l k
    refine ⟨?_, ?_, ?_⟩
    · intro y0 y1
      unfold spigotref37_Right_p.j0
      repeat' first
      | (with_reducible exact ih0 _ _)
      | (with_reducible exact ih1 _ _)
      | (with_reducible exact ih2 _ _ _)
      | (with_reducible exact LeO.refl _)
      | (with_reducible exact LeO.none _)
      | (with_reducible refine LeO.ite ?_ ?_)
      | (with_reducible refine LeO.bind ?_ (fun _ => ?_))
      | exact ih0 _ _
      | exact ih1 _ _
      | exact ih2 _ _ _
      | exact LeO.none _
      | refine LeO.ite ?_ ?_
      | refine LeO.bind ?_ (fun _ => ?_)
    · intro y0 y1
      unfold spigotref37_Right_p.l0
      repeat' first
      | (with_reducible exact ih0 _ _)
      | (with_reducible exact ih1 _ _)
      | (with_reducible exact ih2 _ _ _)
      | (with_reducible exact LeO.refl _)
      | (with_reducible exact LeO.none _)
      | (with_reducible refine LeO.ite ?_ ?_)
      | (with_reducible refine LeO.bind ?_ (fun _ => ?_))
      | exact ih0 _ _
      | exact ih1 _ _
      | exact ih2 _ _ _
      | exact LeO.none _
      | refine LeO.ite ?_ ?_
      | refine LeO.bind ?_ (fun _ => ?_)
    · intro y0 y1 y2
      unfold spigotref37_Right_p.j2
      repeat' first
      | (with_reducible exact ih0 _ _)
      | (with_reducible exact ih1 _ _)
      | (with_reducible exact ih2 _ _ _)
      | (with_reducible exact LeO.refl _)
      | (with_reducible exact LeO.none _)
      | (with_reducible refine LeO.ite ?_ ?_)
      | (with_reducible refine LeO.bind ?_ (fun _ => ?_))
      | exact ih0 _ _
      | exact ih1 _ _
      | exact ih2 _ _ _
      | exact LeO.none _
      | refine LeO.ite ?_ ?_
      | refine LeO.bind ?_ (fun _ => ?_)
theorem spigotref37_Right_p.mono : ∀ a0 k, LeO (spigotref37_Right_p.f k a0) (spigotref37_Right_p.f (k + 1) a0) := by
  intro a0 k
  obtain ⟨ih0, ih1, ih2⟩ := spigotref37_Right_p.mono_l k
  unfold spigotref37_Right_p.f
  repeat' first
      | (with_reducible exact ih0 _ _)
      | (with_reducible exact ih1 _ _)
      | (with_reducible exact ih2 _ _ _)
      | (with_reducible exact LeO.refl _)
      | (with_reducible exact LeO.none _)
      | (with_reducible refine LeO.ite ?_ ?_)
      | (with_reducible refine LeO.bind ?_ (fun _ => ?_))
      | exact ih0 _ _
      | exact ih1 _ _
      | exact ih2 _ _ _
      | exact LeO.none _
      | refine LeO.ite ?_ ?_
      | refine LeO.bind ?_ (fun _ => ?_)
set_option maxHeartbeats 8000000 in
set_option maxRecDepth 100000 in
theorem spigotref37_Right_p.calls (k : Nat) (A0 : Option Addr) (c0 : Nat) (l0 : List (S56)) (r : Bool) (w : World) (hr0 : Kd.C k56 w A0 l0.length l0) (hc0 : l0.length ≤ c0) (h : spigotref37_Right_p.f k l0 = some r) :
    Calls Tryd.prog 13 #[.slice A0 l0.length c0] w fun e w' => e = .returned (.bool r) ∧ Drawn0 w w' := by
  have HR0 := Aside0.mk hr0
  have HC0 := Aside0.mk hc0
  clear hr0 hc0
  have H : (if (l0.length : Int) < 1 then (spigotref37_Right_p.j0 k l0 true) else (if (l0.length : Int) > 32 then (spigotref37_Right_p.j0 k l0 true) else (if 0 < (l0.length : Int) then (spigotref37_Right_p.j0 k l0 (((rd_T56 l0 0).f0) != 0)) else (none)))) = some r := h
  clear h
  have HC2 := Aside0.mk H
  clear H
  go_enter Tryd.func13, Tryd.ntmps13
  go_upto_region 1 with (fail)
  repeat (go_quiet (fail); go_upto_region 1 with (fail))
  go_cut [18] (fun v18 wc => ∃ (kq : Nat) (x18_1 : Bool), v18 = .bool x18_1 ∧ Aside0 (spigotref37_Right_p.j0 kq l0 x18_1 = some r) ∧ Aside0 (kq ≤ k) ∧ Drawn0 w wc)
  case first =>
    have H := HC2.out
    clear HC2
    by_cases c3 : (l0.length : Int) < 1
    · rw [if_pos c3] at H
      have c3b0 : decide ((l0.length : Int) < 1) = true := decide_eq_true c3
      have c3b1 : decide (l0.length < 1) = true := decide_eq_true (by omega)
      clear c3
      (first | rw [c3b0] | (simp only [i64_w, i32_w]; rw [c3b0]) | skip)
      have H' := Aside0.mk H
      clear H
      go_wp2
      repeat (go_quiet (fail); try go_wp2)
      go_meet
      case rel => exact ⟨_, (true), (by first | rfl | (simp; done) | (simp [*]; done)), H', ⟨by first | omega | exact Nat.le_refl _⟩, by repeat (first | exact Drawn0.refl _ | apply Drawn0.step)⟩
    · rw [if_neg c3] at H
      have c3b0 : decide ((l0.length : Int) < 1) = false := decide_eq_false c3
      have c3b1 : decide (l0.length < 1) = false := decide_eq_false (by omega)
      clear c3
      (first | rw [c3b0] | (simp only [i64_w, i32_w]; rw [c3b0]) | skip)
      by_cases c4 : (l0.length : Int) > 32
      · rw [if_pos c4] at H
        have c4b0 : decide (32 < (l0.length : Int)) = true := decide_eq_true c4
        have c4b1 : decide (32 < l0.length) = true := decide_eq_true (by omega)
        clear c4
        have H' := Aside0.mk H
        clear H
        go_wp2
        repeat (go_quiet (fail); try go_wp2)
        go_meet
        case rel => exact ⟨_, (true), (by first | rfl | (simp; done) | (simp [*]; done)), H', ⟨by first | omega | exact Nat.le_refl _⟩, by repeat (first | exact Drawn0.refl _ | apply Drawn0.step)⟩
      · rw [if_neg c4] at H
        have c4b0 : decide (32 < (l0.length : Int)) = false := decide_eq_false c4
        have c4b1 : decide (32 < l0.length) = false := decide_eq_false (by omega)
        clear c4
        by_cases c5 : 0 < (l0.length : Int)
        · rw [if_pos c5] at H
          have c5b0 : decide (0 < (l0.length : Int)) = true := decide_eq_true c5
          have c5b1 : decide (0 < l0.length) = true := decide_eq_true (by omega)
          clear c5
          have H' := Aside0.mk H
          clear H
          have p149 : 0 ≤ (0 : Int) := (by omega)
          have q149 : 0 < (l0.length : Int) := of_decide_eq_true (by first | (with_reducible assumption) | assumption)
          obtain ⟨ad149, e149, hx149_0, hx149_1⟩ := at_T56 HR0.out 0 p149 q149
          cases e149
          have qi149 : (0 < l0.length) = True := eq_true (by omega)
          (try rw [show ((0 : Int)).toNat = 0 from rfl] at hx149_0)
          (try rw [show 0 * 2 = 0 from rfl] at hx149_0)
          (try rw [Addr.add_zero'] at hx149_0)
          (try rw [show ((0 : Int)).toNat = 0 from rfl] at hx149_1)
          (try rw [show 0 * 2 = 0 from rfl] at hx149_1)
          (try rw [Addr.add_zero'] at hx149_1)
          replace p149 := eq_true p149
          replace q149 := eq_true q149
          go_wp2
          repeat (go_quiet (fail); try go_wp2)
          go_meet
          case rel => exact ⟨_, ((((rd_T56 l0 0).f0) != 0)), (by first | rfl | (simp; done) | (simp [*]; done)), H', ⟨by first | omega | exact Nat.le_refl _⟩, by repeat (first | exact Drawn0.refl _ | apply Drawn0.step)⟩
        · rw [if_neg c5] at H
          exact absurd H (by simp)
  case rest =>
    clear HC2
    try clear c1
    try clear p1
    try clear q1
    try clear hx1
    try clear qi1
    try clear p2
    try clear c3
    try clear c3b0
    try clear c3b1
    try clear c4
    try clear c4b0
    try clear c4b1
    try clear c5
    try clear c5b0
    try clear c5b1
    try clear hx149_0
    try clear hx149_1
    try clear p149
    try clear q149
    obtain ⟨kq, x18_1, rfl, HA, HJ1, ⟨mc1, rfl⟩⟩ := hcut
    cases kq with
    | zero => exact absurd HA.out (by simp [spigotref37_Right_p.j0])
    | succ kj1 =>
      have H := HA.out
      clear HA
      simp only [spigotref37_Right_p.j0] at H
      by_cases c6 : x18_1 = true
      · subst c6
        have H1 : (some false) = some r := by rw [if_pos rfl] at H; exact H
        clear H
        have H := H1
        clear H1
        obtain rfl := Option.some.inj H
        go_wp2
        repeat (go_quiet (fail); try go_wp2)
        go_ret
        exact ⟨by first | rfl | (simp; done) | (simp [*]; done), by repeat (first | exact Drawn0.refl _ | apply Drawn0.step)⟩
      · replace c6 := Bool.eq_false_iff.mpr c6
        subst c6
        have H1 : (spigotref37_Right_p.l0 kj1 l0 0) = some r := by rw [if_neg (show ¬ (false = true) by decide)] at H; exact H
        clear H
        have H := H1
        clear H1
        have H' := Aside0.mk H
        clear H
        go_wp2
        repeat (go_quiet (fail); try go_wp2)
        go_loopg [3] kj1 (fun kq v3 w' => ∃ (x3_2 : Int), v3 = .int .i64 x3_2 ∧ Aside0 (spigotref37_Right_p.l0 kq l0 x3_2 = some r) ∧ Aside0 (kq ≤ kj1) ∧ Drawn0 w w')
        case atStart => exact ⟨(0), (by first | rfl | (simp; done) | (simp [*]; done)), H', ⟨Nat.le_refl _⟩, by repeat (first | exact Drawn0.refl _ | apply Drawn0.step)⟩
        case round =>
          clear H'
          try clear c1
          try clear p1
          try clear q1
          try clear hx1
          try clear qi1
          try clear p2
          try clear c3
          try clear c3b0
          try clear c3b1
          try clear c4
          try clear c4b0
          try clear c4b1
          try clear c5
          try clear c5b0
          try clear c5b1
          try clear c6
          try clear hx149_0
          try clear hx149_1
          try clear p1
          try clear p149
          try clear p2
          try clear q1
          try clear q149
          obtain ⟨x3_2, rfl, HA, HK2, ⟨m2, rfl⟩⟩ := hrel
          cases gk with
          | zero => exact absurd HA.out (by simp [spigotref37_Right_p.l0])
          | succ k2 =>
            have H := HA.out
            clear HA
            simp only [spigotref37_Right_p.l0] at H
            by_cases c7 : x3_2 < (l0.length : Int)
            · rw [if_pos c7] at H
              have c7b0 : decide (x3_2 < (l0.length : Int)) = true := decide_eq_true c7
              clear c7
              have HC8 := Aside0.mk H
              clear H
              go_upto_region 6 with (fail)
              repeat (go_quiet (fail); go_upto_region 6 with (fail))
              go_cut [40] (fun v40 wc => ∃ (kq : Nat) (x40_7 : Bool), v40 = .bool x40_7 ∧ Aside0 (spigotref37_Right_p.j2 kq l0 x3_2 x40_7 = some r) ∧ Aside0 (kq ≤ k2) ∧ Drawn0 w wc)
              case first =>
                have H := HC8.out
                clear HC8
                by_cases c9 : 0 ≤ x3_2
                · rw [if_pos c9] at H
                  have c9b0 : decide (0 ≤ x3_2) = true := decide_eq_true c9
                  clear c9
                  (first | rw [c9b0] | (simp only [i64_w, i32_w]; rw [c9b0]) | skip)
                  replace H := Option.bind_eq_some_iff.mp H
                  obtain ⟨t151, A100, H⟩ := H
                  replace H : (if t151 = true then ((spigotref37_in.f ((rd_T56 l0 x3_2).f0) 0 1099511627776).bind fun t153 => (spigotref37_Right_p.j2 k2 l0 x3_2 (!t153))) else (spigotref37_Right_p.j2 k2 l0 x3_2 true)) = some r := H
                  have A10 := Aside0.mk A100
                  clear A100
                  by_cases c11 : t151 = true
                  · subst c11
                    have H1 : ((spigotref37_in.f ((rd_T56 l0 x3_2).f0) 0 1099511627776).bind fun t153 => (spigotref37_Right_p.j2 k2 l0 x3_2 (!t153))) = some r := by rw [if_pos rfl] at H; exact H
                    clear H
                    have H := H1
                    clear H1
                    replace H := Option.bind_eq_some_iff.mp H
                    obtain ⟨t153, A120, H⟩ := H
                    replace H : (spigotref37_Right_p.j2 k2 l0 x3_2 (!t153)) = some r := H
                    have A12 := Aside0.mk A120
                    clear A120
                    have H' := Aside0.mk H
                    clear H
                    have p150 : 0 ≤ (x3_2 : Int) := of_decide_eq_true (by first | (with_reducible assumption) | assumption)
                    have q150 : x3_2 < (l0.length : Int) := of_decide_eq_true (by first | (with_reducible assumption) | assumption)
                    obtain ⟨ad150, e150, hx150_0, hx150_1⟩ := at_T56 HR0.out x3_2 p150 q150
                    cases e150
                    replace p150 := eq_true p150
                    replace q150 := eq_true q150
                    go_wp2_with (first | (go_at_call 28; (with_reducible refine (spigotref37_in.calls ((rd_T56 l0 x3_2).f1) 1 4 true _ A10.out).mono ?_); rintro e w' ⟨rfl, ⟨nd, rfl⟩⟩; (try first | exact ⟨rfl, _, World.drewN_drewN _ _ _⟩ | exact ⟨rfl, _, Eq.trans (World.drewN_drewN _ _ _) (congrArg (World.drewN _) (Nat.add_assoc _ _ _))⟩); have p152 : 0 ≤ (x3_2 : Int) := of_decide_eq_true (by first | (with_reducible assumption) | assumption); have q152 : x3_2 < (l0.length : Int) := of_decide_eq_true (by first | (with_reducible assumption) | assumption); obtain ⟨ad152, e152, hx152_0, hx152_1⟩ := at_T56 HR0.out x3_2 p152 q152; obtain rfl : ad150 = ad152 := (by injection e152); replace p152 := eq_true p152; replace q152 := eq_true q152) | (go_at_call 28; (with_reducible refine (spigotref37_in.calls ((rd_T56 l0 x3_2).f0) 0 1099511627776 t153 _ A12.out).mono ?_); rintro e w' ⟨rfl, ⟨nd, rfl⟩⟩; (try first | exact ⟨rfl, _, World.drewN_drewN _ _ _⟩ | exact ⟨rfl, _, Eq.trans (World.drewN_drewN _ _ _) (congrArg (World.drewN _) (Nat.add_assoc _ _ _))⟩)))
                    repeat (go_quiet (first | (go_at_call 28; (with_reducible refine (spigotref37_in.calls ((rd_T56 l0 x3_2).f1) 1 4 true _ A10.out).mono ?_); rintro e w' ⟨rfl, ⟨nd, rfl⟩⟩; (try first | exact ⟨rfl, _, World.drewN_drewN _ _ _⟩ | exact ⟨rfl, _, Eq.trans (World.drewN_drewN _ _ _) (congrArg (World.drewN _) (Nat.add_assoc _ _ _))⟩); have p152 : 0 ≤ (x3_2 : Int) := of_decide_eq_true (by first | (with_reducible assumption) | assumption); have q152 : x3_2 < (l0.length : Int) := of_decide_eq_true (by first | (with_reducible assumption) | assumption); obtain ⟨ad152, e152, hx152_0, hx152_1⟩ := at_T56 HR0.out x3_2 p152 q152; obtain rfl : ad150 = ad152 := (by injection e152); replace p152 := eq_true p152; replace q152 := eq_true q152) | (go_at_call 28; (with_reducible refine (spigotref37_in.calls ((rd_T56 l0 x3_2).f0) 0 1099511627776 t153 _ A12.out).mono ?_); rintro e w' ⟨rfl, ⟨nd, rfl⟩⟩; (try first | exact ⟨rfl, _, World.drewN_drewN _ _ _⟩ | exact ⟨rfl, _, Eq.trans (World.drewN_drewN _ _ _) (congrArg (World.drewN _) (Nat.add_assoc _ _ _))⟩))); try go_wp2_with (first | (go_at_call 28; (with_reducible refine (spigotref37_in.calls ((rd_T56 l0 x3_2).f1) 1 4 true _ A10.out).mono ?_); rintro e w' ⟨rfl, ⟨nd, rfl⟩⟩; (try first | exact ⟨rfl, _, World.drewN_drewN _ _ _⟩ | exact ⟨rfl, _, Eq.trans (World.drewN_drewN _ _ _) (congrArg (World.drewN _) (Nat.add_assoc _ _ _))⟩); have p152 : 0 ≤ (x3_2 : Int) := of_decide_eq_true (by first | (with_reducible assumption) | assumption); have q152 : x3_2 < (l0.length : Int) := of_decide_eq_true (by first | (with_reducible assumption) | assumption); obtain ⟨ad152, e152, hx152_0, hx152_1⟩ := at_T56 HR0.out x3_2 p152 q152; obtain rfl : ad150 = ad152 := (by injection e152); replace p152 := eq_true p152; replace q152 := eq_true q152) | (go_at_call 28; (with_reducible refine (spigotref37_in.calls ((rd_T56 l0 x3_2).f0) 0 1099511627776 t153 _ A12.out).mono ?_); rintro e w' ⟨rfl, ⟨nd, rfl⟩⟩; (try first | exact ⟨rfl, _, World.drewN_drewN _ _ _⟩ | exact ⟨rfl, _, Eq.trans (World.drewN_drewN _ _ _) (congrArg (World.drewN _) (Nat.add_assoc _ _ _))⟩))))
                    go_meet
                    case rel => exact ⟨_, (!t153), (by first | rfl | (simp; done) | (simp [*]; done)), H', ⟨by have := HJ1.out; have := HK2.out; first | omega | exact Nat.le_refl _⟩, by repeat (first | exact Drawn0.refl _ | apply Drawn0.step)⟩
                  · replace c11 := Bool.eq_false_iff.mpr c11
                    subst c11
                    have H1 : (spigotref37_Right_p.j2 k2 l0 x3_2 true) = some r := by rw [if_neg (show ¬ (false = true) by decide)] at H; exact H
                    clear H
                    have H := H1
                    clear H1
                    have H' := Aside0.mk H
                    clear H
                    have p150 : 0 ≤ (x3_2 : Int) := of_decide_eq_true (by first | (with_reducible assumption) | assumption)
                    have q150 : x3_2 < (l0.length : Int) := of_decide_eq_true (by first | (with_reducible assumption) | assumption)
                    obtain ⟨ad150, e150, hx150_0, hx150_1⟩ := at_T56 HR0.out x3_2 p150 q150
                    cases e150
                    replace p150 := eq_true p150
                    replace q150 := eq_true q150
                    go_wp2_with (first | (go_at_call 28; (with_reducible refine (spigotref37_in.calls ((rd_T56 l0 x3_2).f1) 1 4 false _ A10.out).mono ?_); rintro e w' ⟨rfl, ⟨nd, rfl⟩⟩; (try first | exact ⟨rfl, _, World.drewN_drewN _ _ _⟩ | exact ⟨rfl, _, Eq.trans (World.drewN_drewN _ _ _) (congrArg (World.drewN _) (Nat.add_assoc _ _ _))⟩)))
                    repeat (go_quiet (first | (go_at_call 28; (with_reducible refine (spigotref37_in.calls ((rd_T56 l0 x3_2).f1) 1 4 false _ A10.out).mono ?_); rintro e w' ⟨rfl, ⟨nd, rfl⟩⟩; (try first | exact ⟨rfl, _, World.drewN_drewN _ _ _⟩ | exact ⟨rfl, _, Eq.trans (World.drewN_drewN _ _ _) (congrArg (World.drewN _) (Nat.add_assoc _ _ _))⟩))); try go_wp2_with (first | (go_at_call 28; (with_reducible refine (spigotref37_in.calls ((rd_T56 l0 x3_2).f1) 1 4 false _ A10.out).mono ?_); rintro e w' ⟨rfl, ⟨nd, rfl⟩⟩; (try first | exact ⟨rfl, _, World.drewN_drewN _ _ _⟩ | exact ⟨rfl, _, Eq.trans (World.drewN_drewN _ _ _) (congrArg (World.drewN _) (Nat.add_assoc _ _ _))⟩))))
                    go_meet
                    case rel => exact ⟨_, (true), (by first | rfl | (simp; done) | (simp [*]; done)), H', ⟨by have := HJ1.out; have := HK2.out; first | omega | exact Nat.le_refl _⟩, by repeat (first | exact Drawn0.refl _ | apply Drawn0.step)⟩
                · rw [if_neg c9] at H
                  exact absurd H (by simp)
              case rest =>
                clear HC8
                try clear c1
                try clear p1
                try clear q1
                try clear hx1
                try clear qi1
                try clear p2
                try clear c3
                try clear c3b0
                try clear c3b1
                try clear c4
                try clear c4b0
                try clear c4b1
                try clear c5
                try clear c5b0
                try clear c5b1
                try clear c6
                try clear c7
                try clear c7b0
                try clear c9
                try clear c9b0
                try clear c11
                try clear hx149_0
                try clear hx149_1
                try clear hx150_0
                try clear hx150_1
                try clear hx152_0
                try clear hx152_1
                try clear p1
                try clear p149
                try clear p150
                try clear p152
                try clear p2
                try clear q1
                try clear q149
                try clear q150
                try clear q152
                obtain ⟨kq, x40_7, rfl, HA, HJ7, ⟨mc7, rfl⟩⟩ := hcut
                cases kq with
                | zero => exact absurd HA.out (by simp [spigotref37_Right_p.j2])
                | succ kj7 =>
                  have H := HA.out
                  clear HA
                  simp only [spigotref37_Right_p.j2] at H
                  by_cases c13 : x40_7 = true
                  · subst c13
                    have H1 : (some false) = some r := by rw [if_pos rfl] at H; exact H
                    clear H
                    have H := H1
                    clear H1
                    obtain rfl := Option.some.inj H
                    go_wp2
                    repeat (go_quiet (fail); try go_wp2)
                    go_ret
                    exact ⟨by first | rfl | (simp; done) | (simp [*]; done), by repeat (first | exact Drawn0.refl _ | apply Drawn0.step)⟩
                  · replace c13 := Bool.eq_false_iff.mpr c13
                    subst c13
                    have H1 : (if x3_2 > 0 then (if 0 ≤ x3_2 then (if x3_2 < (l0.length : Int) then (if 0 ≤ (wrap64 (x3_2 - 1)) then (if (wrap64 (x3_2 - 1)) < (l0.length : Int) then (if ((rd_T56 l0 x3_2).f0) ≤ ((rd_T56 l0 (wrap64 (x3_2 - 1))).f0) then (some false) else (if ((rd_T56 l0 x3_2).f1) = ((rd_T56 l0 (wrap64 (x3_2 - 1))).f1) then (some false) else (spigotref37_Right_p.l0 kj7 l0 (wrap64 (x3_2 + 1))))) else (none)) else (none)) else (none)) else (none)) else (spigotref37_Right_p.l0 kj7 l0 (wrap64 (x3_2 + 1)))) = some r := by rw [if_neg (show ¬ (false = true) by decide)] at H; exact H
                    clear H
                    have H := H1
                    clear H1
                    by_cases c14 : x3_2 > 0
                    · rw [if_pos c14] at H
                      have c14b0 : decide (0 < x3_2) = true := decide_eq_true c14
                      clear c14
                      by_cases c15 : 0 ≤ x3_2
                      · rw [if_pos c15] at H
                        have c15b0 : decide (0 ≤ x3_2) = true := decide_eq_true c15
                        clear c15
                        by_cases c16 : x3_2 < (l0.length : Int)
                        · rw [if_pos c16] at H
                          have c16b0 : decide (x3_2 < (l0.length : Int)) = true := decide_eq_true c16
                          clear c16
                          obtain ⟨ji17, hji17⟩ : ∃ j_ : Int, (wrap64 (x3_2 - 1)) = j_ := ⟨_, rfl⟩
                          replace H : (if 0 ≤ (ji17) then (if (ji17) < (l0.length : Int) then (if ((rd_T56 l0 x3_2).f0) ≤ ((rd_T56 l0 (ji17)).f0) then (some false) else (if ((rd_T56 l0 x3_2).f1) = ((rd_T56 l0 (ji17)).f1) then (some false) else (spigotref37_Right_p.l0 kj7 l0 (wrap64 (x3_2 + 1))))) else (none)) else (none)) = some r := by first | (rw [hji17] at H; exact H) | (simp only [hji17] at H ⊢; exact H)
                          have hji17w : (IntKind.i64.wrap (x3_2 - 1)) = ji17 := (i64_w _).trans hji17
                          by_cases c18 : 0 ≤ (ji17)
                          · rw [if_pos c18] at H
                            have c18b0 : decide (0 ≤ (ji17)) = true := decide_eq_true c18
                            clear c18
                            by_cases c19 : (ji17) < (l0.length : Int)
                            · rw [if_pos c19] at H
                              have c19b0 : decide ((ji17) < (l0.length : Int)) = true := decide_eq_true c19
                              clear c19
                              by_cases c20 : ((rd_T56 l0 x3_2).f0) ≤ ((rd_T56 l0 (ji17)).f0)
                              · rw [if_pos c20] at H
                                have c20b0 : decide (((rd_T56 l0 x3_2).f0) ≤ ((rd_T56 l0 (ji17)).f0)) = true := decide_eq_true c20
                                clear c20
                                obtain rfl := Option.some.inj H
                                have p154 : 0 ≤ (x3_2 : Int) := of_decide_eq_true (by first | (with_reducible assumption) | assumption)
                                have q154 : x3_2 < (l0.length : Int) := of_decide_eq_true (by first | (with_reducible assumption) | assumption)
                                obtain ⟨ad154, e154, hx154_0, hx154_1⟩ := at_T56 HR0.out x3_2 p154 q154
                                cases e154
                                replace p154 := eq_true p154
                                replace q154 := eq_true q154
                                have p155 : 0 ≤ ((ji17) : Int) := of_decide_eq_true (by first | (with_reducible assumption) | assumption)
                                have q155 : (ji17) < (l0.length : Int) := of_decide_eq_true (by first | (with_reducible assumption) | assumption)
                                obtain ⟨ad155, e155, hx155_0, hx155_1⟩ := at_T56 HR0.out (ji17) p155 q155
                                obtain rfl : ad154 = ad155 := (by injection e155)
                                replace p155 := eq_true p155
                                replace q155 := eq_true q155
                                go_wp2
                                repeat (go_quiet (fail); try go_wp2)
                                go_ret
                                exact ⟨by first | rfl | (simp; done) | (simp only [← hji17] <;> (first | rfl | simp)) | (simp [*]; done), by repeat (first | exact Drawn0.refl _ | apply Drawn0.step)⟩
                              · rw [if_neg c20] at H
                                have c20b0 : decide (((rd_T56 l0 x3_2).f0) ≤ ((rd_T56 l0 (ji17)).f0)) = false := decide_eq_false c20
                                clear c20
                                by_cases c21 : ((rd_T56 l0 x3_2).f1) = ((rd_T56 l0 (ji17)).f1)
                                · rw [if_pos c21] at H
                                  have c21b0 : (((rd_T56 l0 x3_2).f1) == ((rd_T56 l0 (ji17)).f1)) = true := beq_iff_eq.mpr c21
                                  have c21b1 : (((rd_T56 l0 x3_2).f1) != ((rd_T56 l0 (ji17)).f1)) = false := bne_eq_false_iff_eq.mpr c21
                                  clear c21
                                  obtain rfl := Option.some.inj H
                                  have p154 : 0 ≤ (x3_2 : Int) := of_decide_eq_true (by first | (with_reducible assumption) | assumption)
                                  have q154 : x3_2 < (l0.length : Int) := of_decide_eq_true (by first | (with_reducible assumption) | assumption)
                                  obtain ⟨ad154, e154, hx154_0, hx154_1⟩ := at_T56 HR0.out x3_2 p154 q154
                                  cases e154
                                  replace p154 := eq_true p154
                                  replace q154 := eq_true q154
                                  have p155 : 0 ≤ ((ji17) : Int) := of_decide_eq_true (by first | (with_reducible assumption) | assumption)
                                  have q155 : (ji17) < (l0.length : Int) := of_decide_eq_true (by first | (with_reducible assumption) | assumption)
                                  obtain ⟨ad155, e155, hx155_0, hx155_1⟩ := at_T56 HR0.out (ji17) p155 q155
                                  obtain rfl : ad154 = ad155 := (by injection e155)
                                  replace p155 := eq_true p155
                                  replace q155 := eq_true q155
                                  have p156 : 0 ≤ (x3_2 : Int) := of_decide_eq_true (by first | (with_reducible assumption) | assumption)
                                  have q156 : x3_2 < (l0.length : Int) := of_decide_eq_true (by first | (with_reducible assumption) | assumption)
                                  obtain ⟨ad156, e156, hx156_0, hx156_1⟩ := at_T56 HR0.out x3_2 p156 q156
                                  obtain rfl : ad154 = ad156 := (by injection e156)
                                  replace p156 := eq_true p156
                                  replace q156 := eq_true q156
                                  have p157 : 0 ≤ ((ji17) : Int) := of_decide_eq_true (by first | (with_reducible assumption) | assumption)
                                  have q157 : (ji17) < (l0.length : Int) := of_decide_eq_true (by first | (with_reducible assumption) | assumption)
                                  obtain ⟨ad157, e157, hx157_0, hx157_1⟩ := at_T56 HR0.out (ji17) p157 q157
                                  obtain rfl : ad154 = ad157 := (by injection e157)
                                  replace p157 := eq_true p157
                                  replace q157 := eq_true q157
                                  go_wp2
                                  repeat (go_quiet (fail); try go_wp2)
                                  go_ret
                                  exact ⟨by first | rfl | (simp; done) | (simp only [← hji17] <;> (first | rfl | simp)) | (simp [*]; done), by repeat (first | exact Drawn0.refl _ | apply Drawn0.step)⟩
                                · rw [if_neg c21] at H
                                  have c21b0 : (((rd_T56 l0 x3_2).f1) == ((rd_T56 l0 (ji17)).f1)) = false := beq_eq_false_iff_ne.mpr c21
                                  have c21b1 : (((rd_T56 l0 x3_2).f1) != ((rd_T56 l0 (ji17)).f1)) = true := bne_iff_ne.mpr c21
                                  have H' := Aside0.mk H
                                  clear H
                                  have p154 : 0 ≤ (x3_2 : Int) := of_decide_eq_true (by first | (with_reducible assumption) | assumption)
                                  have q154 : x3_2 < (l0.length : Int) := of_decide_eq_true (by first | (with_reducible assumption) | assumption)
                                  obtain ⟨ad154, e154, hx154_0, hx154_1⟩ := at_T56 HR0.out x3_2 p154 q154
                                  cases e154
                                  replace p154 := eq_true p154
                                  replace q154 := eq_true q154
                                  have p155 : 0 ≤ ((ji17) : Int) := of_decide_eq_true (by first | (with_reducible assumption) | assumption)
                                  have q155 : (ji17) < (l0.length : Int) := of_decide_eq_true (by first | (with_reducible assumption) | assumption)
                                  obtain ⟨ad155, e155, hx155_0, hx155_1⟩ := at_T56 HR0.out (ji17) p155 q155
                                  obtain rfl : ad154 = ad155 := (by injection e155)
                                  replace p155 := eq_true p155
                                  replace q155 := eq_true q155
                                  have p156 : 0 ≤ (x3_2 : Int) := of_decide_eq_true (by first | (with_reducible assumption) | assumption)
                                  have q156 : x3_2 < (l0.length : Int) := of_decide_eq_true (by first | (with_reducible assumption) | assumption)
                                  obtain ⟨ad156, e156, hx156_0, hx156_1⟩ := at_T56 HR0.out x3_2 p156 q156
                                  obtain rfl : ad154 = ad156 := (by injection e156)
                                  replace p156 := eq_true p156
                                  replace q156 := eq_true q156
                                  have p157 : 0 ≤ ((ji17) : Int) := of_decide_eq_true (by first | (with_reducible assumption) | assumption)
                                  have q157 : (ji17) < (l0.length : Int) := of_decide_eq_true (by first | (with_reducible assumption) | assumption)
                                  obtain ⟨ad157, e157, hx157_0, hx157_1⟩ := at_T56 HR0.out (ji17) p157 q157
                                  obtain rfl : ad154 = ad157 := (by injection e157)
                                  replace p157 := eq_true p157
                                  replace q157 := eq_true q157
                                  go_wp2
                                  repeat (go_quiet (fail); try go_wp2)
                                  go_roundg kj7
                                  case measure => have := HJ1.out; have := HK2.out; have := HJ7.out; omega
                                  case rel => exact ⟨(wrap64 (x3_2 + 1)), (by first | rfl | (simp; done) | (simp [*]; done)), H', ⟨by have := HJ1.out; have := HK2.out; have := HJ7.out; omega⟩, by repeat (first | exact Drawn0.refl _ | apply Drawn0.step)⟩
                            · rw [if_neg c19] at H
                              exact absurd H (by simp)
                          · rw [if_neg c18] at H
                            exact absurd H (by simp)
                        · rw [if_neg c16] at H
                          exact absurd H (by simp)
                      · rw [if_neg c15] at H
                        exact absurd H (by simp)
                    · rw [if_neg c14] at H
                      have c14b0 : decide (0 < x3_2) = false := decide_eq_false c14
                      clear c14
                      have H' := Aside0.mk H
                      clear H
                      go_wp2
                      repeat (go_quiet (fail); try go_wp2)
                      go_roundg kj7
                      case measure => have := HJ1.out; have := HK2.out; have := HJ7.out; omega
                      case rel => exact ⟨(wrap64 (x3_2 + 1)), (by first | rfl | (simp; done) | (simp [*]; done)), H', ⟨by have := HJ1.out; have := HK2.out; have := HJ7.out; omega⟩, by repeat (first | exact Drawn0.refl _ | apply Drawn0.step)⟩
            · rw [if_neg c7] at H
              have c7b0 : decide (x3_2 < (l0.length : Int)) = false := decide_eq_false c7
              clear c7
              obtain rfl := Option.some.inj H
              go_wp2
              repeat (go_quiet (fail); try go_wp2)
              go_ret
              exact ⟨by first | rfl | (simp; done) | (simp [*]; done), by repeat (first | exact Drawn0.refl _ | apply Drawn0.step)⟩
/-! ### spigotref37_Right: function 13 -/
theorem rdQ_at (l : List S56) (i : Nat) (h : i < l.length) : rd_T56 l (i : Int) = l[i] := by simp [rd_T56, h]
theorem prQ_getD (l : List S56) (i : Nat) (h : i < l.length) : (l.map prQ).getD i (0, 0) = (l[i].f0, l[i].f1) := by
  rw [List.getD_eq_getElem?_getD, List.getElem?_map, List.getElem?_eq_getElem h]; rfl
theorem in37_eq (a b c : Int) : spigotref37_in.f a b c = some (decide (b ≤ a ∧ a ≤ c)) := by
  unfold spigotref37_in.f
  by_cases h : a ≥ b
  · rw [if_pos h]; congr 1; rw [decide_eq_decide]; omega
  · rw [if_neg h]; congr 1; symm; rw [decide_eq_false_iff_not]; omega
theorem ref37_Right_loop (l : List S56) (hl : l.length ≤ 32) (d : Nat) : ∀ (k i : Nat), i + d = l.length →
    spigotref37_Right_p.l0 (k + 2 * d + 1) l (i : Int) = some (allP (l.map prQ) d i) := by
  induction d with
  | zero =>
    intro k i hi
    unfold spigotref37_Right_p.l0
    rw [if_neg (by omega)]; rfl
  | succ d ih =>
    intro k i hi
    have h1 : i < l.length := by omega
    rw [show k + 2 * (d + 1) + 1 = (k + 2 * d + 1) + 1 + 1 by omega]
    have hstep : ∀ b : Bool, spigotref37_Right_p.j2 (k + 2 * d + 1 + 1) l (i : Int) b = if b = true then some false else if (0 < i → (l[i - 1]'(by omega)).f0 < l[i].f0 ∧ (l[i - 1]'(by omega)).f1 ≠ l[i].f1) then some (allP (l.map prQ) d (i + 1)) else some false := by
      intro b
      conv => lhs; unfold spigotref37_Right_p.j2
      cases b with
      | true => rw [if_pos rfl, if_pos rfl]
      | false =>
        simp only [Bool.false_eq_true, if_false]
        rw [w64 (x := (i : Int) + 1) (by omega) (by omega), show (i : Int) + 1 = ((i + 1 : Nat) : Int) by omega, ih k (i + 1) (by omega)]
        by_cases c : 0 < i
        · rw [if_pos (by omega), if_pos (by omega), if_pos (by omega), w64 (by omega) (by omega), show (i : Int) - 1 = ((i - 1 : Nat) : Int) by omega, rdQ_at l (i - 1) (by omega), rdQ_at l i h1, if_pos (by omega), if_pos (by omega)]
          by_cases c1 : l[i].f0 ≤ (l[i - 1]'(by omega)).f0
          · rw [if_pos c1, if_neg (fun g => by have := (g c).1; omega)]
          · rw [if_neg c1]
            by_cases c2 : l[i].f1 = (l[i - 1]'(by omega)).f1
            · rw [if_pos c2, if_neg (fun g => (g c).2 c2.symm)]
            · rw [if_neg c2, if_pos (fun _ => ⟨by omega, fun e => c2 e.symm⟩)]
        · rw [if_neg (by omega), if_pos (fun g => absurd g c)]
    have hg : goodP (l.map prQ) i = decide (1 ≤ l[i].f1 ∧ l[i].f1 ≤ 4 ∧ 0 ≤ l[i].f0 ∧ l[i].f0 ≤ 1099511627776 ∧ (0 < i → (l[i - 1]'(by omega)).f0 < l[i].f0 ∧ (l[i - 1]'(by omega)).f1 ≠ l[i].f1)) := by
      unfold goodP
      rw [prQ_getD l i h1, prQ_getD l (i - 1) (by omega)]
    conv => lhs; unfold spigotref37_Right_p.l0
    rw [if_pos (by omega), if_pos (by omega), rdQ_at l i h1, in37_eq, in37_eq]
    simp only [Option.bind_some]
    unfold allP
    rw [hg, hstep, hstep]
    by_cases c1 : 1 ≤ l[i].f1 ∧ l[i].f1 ≤ 4
    · rw [decide_eq_true c1]
      simp only [if_true]
      by_cases c2 : 0 ≤ l[i].f0 ∧ l[i].f0 ≤ 1099511627776
      · rw [decide_eq_true c2]
        simp only [Bool.not_true, Bool.false_eq_true, if_false]
        by_cases c3 : (0 < i → (l[i - 1]'(by omega)).f0 < l[i].f0 ∧ (l[i - 1]'(by omega)).f1 ≠ l[i].f1)
        · rw [if_pos c3, decide_eq_true ⟨c1.1, c1.2, c2.1, c2.2, c3⟩]; rfl
        · rw [if_neg c3, decide_eq_false (fun g => c3 g.2.2.2.2)]; rfl
      · rw [decide_eq_false c2, decide_eq_false (fun g => c2 ⟨g.2.2.1, g.2.2.2.1⟩)]; rfl
    · rw [decide_eq_false c1]
      simp only [Bool.false_eq_true, if_false]
      rw [decide_eq_false (fun g => c1 ⟨g.1, g.2.1⟩)]
      simp
def spigotref37_Right.f (l0 : List S56) : Option Bool := some (dayL (l0.map prQ))
theorem ref37_Right_eq (l : List S56) : spigotref37_Right_p.f (2 * l.length + 2) l = spigotref37_Right.f l := by
  unfold spigotref37_Right_p.f spigotref37_Right.f dayL
  rw [List.length_map]
  by_cases c1 : (l.length : Int) < 1
  · rw [if_pos c1, decide_eq_false (fun q => by have := q.1; omega)]
    simp [spigotref37_Right_p.j0]
  rw [if_neg c1]
  by_cases c2 : (l.length : Int) > 32
  · rw [if_pos c2, decide_eq_false (fun q => by have := q.2.1; omega)]
    simp [spigotref37_Right_p.j0]
  have h0 : rd_T56 l 0 = l[0]'(by omega) := rdQ_at l 0 (by omega)
  have hlo := ref37_Right_loop l (by omega) l.length 0 0 (by omega)
  rw [Nat.zero_add, show ((0 : Nat) : Int) = 0 from rfl] at hlo
  rw [if_neg c2, if_pos (by omega), h0]
  rw [show 2 * l.length + 2 = (2 * l.length + 1) + 1 from rfl]
  simp only [spigotref37_Right_p.j0]
  rw [hlo, prQ_getD l 0 (by omega)]
  by_cases g : (l[0]'(by omega)).f0 = 0
  · rw [show ((l[0]'(by omega)).f0 != 0) = false by rw [bne_eq_false_iff_eq]; exact g, decide_eq_true ⟨by omega, by omega, g⟩]
    simp
  · rw [show ((l[0]'(by omega)).f0 != 0) = true by rw [bne_iff_ne]; exact g, decide_eq_false (fun q => g q.2.2)]
    simp
theorem spigotref37_Right.calls (A0 : Option Addr) (c0 : Nat) (l0 : List S56) (r : Bool) (w : World) (hr0 : Kd.C k56 w A0 l0.length l0) (hc0 : l0.length ≤ c0) (h : spigotref37_Right.f l0 = some r) :
    Calls Tryd.prog 13 #[.slice A0 l0.length c0] w fun e w' => e = .returned (.bool r) ∧ Drawn0 w w' :=
  spigotref37_Right_p.calls _ A0 c0 l0 r w hr0 hc0 ((ref37_Right_eq l0).trans h)

end Go.Proofs.YtcjilccldfkhmaaDoor.Q
