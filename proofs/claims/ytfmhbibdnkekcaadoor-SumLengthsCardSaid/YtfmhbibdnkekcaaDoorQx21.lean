/- Each Go function that the laws of this seat reach, as a plain Lean function, and its contract: the machine's call does what that function says. -/
import Derived.Test.YtfmhbibdnkekcaaDoorQx0
import Derived.Test.YtfmhbibdnkekcaaDoorQx1
import Derived.Test.YtfmhbibdnkekcaaDoorQx5
import Derived.Test.YtfmhbibdnkekcaaDoorQx7
import Derived.Test.YtfmhbibdnkekcaaDoorQx15
import Derived.Test.YtfmhbibdnkekcaaDoorQx17
import Derived.Test.YtfmhbibdnkekcaaDoorQx18
import Derived.Test.YtfmhbibdnkekcaaDoorQx20
namespace Go.Proofs.YtfmhbibdnkekcaaDoor.Q
open Go.RowKit Go.Proofs.YtfmhbibdnkekcaaDoorW.PrintWords Go.Proofs.YtfmhbibdnkekcaaDoorW.PrintLast Go.Proofs.YtfmhbibdnkekcaaDoorW.PrintMore
attribute [local go_sem] max2_int min2_int max_two min_two max_three min_three max_four min_four   -- for this text's walks alone
set_option linter.unusedVariables false
set_option linter.unusedSimpArgs false

/-! ### spigotlaw09_SumLengths: function 3 -/
def spigotlaw09_SumLengths.j0 : Nat → Int → ByteArray → Int → Bool → Option (Bool)
  | 0, _, _, _, _ => none
  | k + 1, x0, x5, x6, x49 => if x49 = true then (some false) else (if x0 < 1 then (if x6 = 2 then (some (x5.toList == ([] : List UInt8))) else (some false)) else (if x0 > 4096 then (if x6 = 2 then (some (x5.toList == ([] : List UInt8))) else (some false)) else (if x6 = 0 then ((spigotref08_Digits.f x0).bind fun t124 => (some (x5.toList == t124.toList))) else (some false))))
def spigotlaw09_SumLengths.f (k : Nat) (a0 : Int) (a1 : ByteArray) : Option (Bool) := (spigotlaw09_awake.f).bind fun t118 => (if t118 = true then (if (a1.size : Int) > 1000 then (some true) else ((sum_Length.f a0).bind fun bt119 => ((sum_ReadLength.f a1).bind fun bt121 => ((spigotref09_ReadLength.f a1).bind fun t123 => (if bt121.2 = 0 then (if bt121.1 = t123 then (spigotlaw09_SumLengths.j0 k a0 bt119.1 bt119.2 false) else (spigotlaw09_SumLengths.j0 k a0 bt119.1 bt119.2 true)) else (if bt121.2 = 112 then (if bt121.1 = 0 then (spigotlaw09_SumLengths.j0 k a0 bt119.1 bt119.2 (decide (t123 ≥ 0))) else (spigotlaw09_SumLengths.j0 k a0 bt119.1 bt119.2 true)) else (spigotlaw09_SumLengths.j0 k a0 bt119.1 bt119.2 true))))))) else (some false))
theorem spigotlaw09_SumLengths.mono_l : ∀ k, (∀ y0 y1 y2 y3, LeO (spigotlaw09_SumLengths.j0 k y0 y1 y2 y3) (spigotlaw09_SumLengths.j0 (k + 1) y0 y1 y2 y3))
  | 0 => fun _ _ _ _ r h => by simp [spigotlaw09_SumLengths.j0] at h
  | k + 1 => by
    have ih0 := spigotlaw09_SumLengths.mono_l k
    · intro y0 y1 y2 y3
      unfold spigotlaw09_SumLengths.j0
      repeat' first
      | (with_reducible exact ih0 _ _ _ _)
      | (with_reducible exact LeO.refl _)
      | (with_reducible exact LeO.none _)
      | (with_reducible refine LeO.ite ?_ ?_)
      | (with_reducible refine LeO.bind ?_ (fun _ => ?_))
      | exact ih0 _ _ _ _
      | exact LeO.none _
      | refine LeO.ite ?_ ?_
      | refine LeO.bind ?_ (fun _ => ?_)
theorem spigotlaw09_SumLengths.mono : ∀ a0 a1 k, LeO (spigotlaw09_SumLengths.f k a0 a1) (spigotlaw09_SumLengths.f (k + 1) a0 a1) := by
  intro a0 a1 k
  have ih0 := spigotlaw09_SumLengths.mono_l k
  unfold spigotlaw09_SumLengths.f
  repeat' first
      | (with_reducible exact ih0 _ _ _ _)
      | (with_reducible exact LeO.refl _)
      | (with_reducible exact LeO.none _)
      | (with_reducible refine LeO.ite ?_ ?_)
      | (with_reducible refine LeO.bind ?_ (fun _ => ?_))
      | exact ih0 _ _ _ _
      | exact LeO.none _
      | refine LeO.ite ?_ ?_
      | refine LeO.bind ?_ (fun _ => ?_)
set_option maxHeartbeats 8000000 in
set_option maxRecDepth 100000 in
theorem spigotlaw09_SumLengths.calls (k : Nat) (a0 : Int) (a1 : ByteArray) (r : Bool) (w : World) (hT_ : Aside0 (Tabs_ w)) (h : spigotlaw09_SumLengths.f k a0 a1 = some r) :
    Calls Tryd.prog 3 #[.int .i64 a0, .string a1] w fun e w' => e = .returned (.bool r) ∧ Below w.heap.size w w' := by
  have HB := Aside0.mk (Below.refl w.heap.size w)
  have H : ((spigotlaw09_awake.f).bind fun t118 => (if t118 = true then (if (a1.size : Int) > 1000 then (some true) else ((sum_Length.f a0).bind fun bt119 => ((sum_ReadLength.f a1).bind fun bt121 => ((spigotref09_ReadLength.f a1).bind fun t123 => (if bt121.2 = 0 then (if bt121.1 = t123 then (spigotlaw09_SumLengths.j0 k a0 bt119.1 bt119.2 false) else (spigotlaw09_SumLengths.j0 k a0 bt119.1 bt119.2 true)) else (if bt121.2 = 112 then (if bt121.1 = 0 then (spigotlaw09_SumLengths.j0 k a0 bt119.1 bt119.2 (decide (t123 ≥ 0))) else (spigotlaw09_SumLengths.j0 k a0 bt119.1 bt119.2 true)) else (spigotlaw09_SumLengths.j0 k a0 bt119.1 bt119.2 true))))))) else (some false))) = some r := h
  clear h
  replace H := Option.bind_eq_some_iff.mp H
  obtain ⟨t118, A30, H⟩ := H
  replace H : (if t118 = true then (if (a1.size : Int) > 1000 then (some true) else ((sum_Length.f a0).bind fun bt119 => ((sum_ReadLength.f a1).bind fun bt121 => ((spigotref09_ReadLength.f a1).bind fun t123 => (if bt121.2 = 0 then (if bt121.1 = t123 then (spigotlaw09_SumLengths.j0 k a0 bt119.1 bt119.2 false) else (spigotlaw09_SumLengths.j0 k a0 bt119.1 bt119.2 true)) else (if bt121.2 = 112 then (if bt121.1 = 0 then (spigotlaw09_SumLengths.j0 k a0 bt119.1 bt119.2 (decide (t123 ≥ 0))) else (spigotlaw09_SumLengths.j0 k a0 bt119.1 bt119.2 true)) else (spigotlaw09_SumLengths.j0 k a0 bt119.1 bt119.2 true))))))) else (some false)) = some r := H
  have A3 := Aside0.mk A30
  clear A30
  by_cases c4 : t118 = true
  · subst c4
    have H1 : (if (a1.size : Int) > 1000 then (some true) else ((sum_Length.f a0).bind fun bt119 => ((sum_ReadLength.f a1).bind fun bt121 => ((spigotref09_ReadLength.f a1).bind fun t123 => (if bt121.2 = 0 then (if bt121.1 = t123 then (spigotlaw09_SumLengths.j0 k a0 bt119.1 bt119.2 false) else (spigotlaw09_SumLengths.j0 k a0 bt119.1 bt119.2 true)) else (if bt121.2 = 112 then (if bt121.1 = 0 then (spigotlaw09_SumLengths.j0 k a0 bt119.1 bt119.2 (decide (t123 ≥ 0))) else (spigotlaw09_SumLengths.j0 k a0 bt119.1 bt119.2 true)) else (spigotlaw09_SumLengths.j0 k a0 bt119.1 bt119.2 true))))))) = some r := by rw [if_pos rfl] at H; exact H
    clear H
    have H := H1
    clear H1
    by_cases c5 : (a1.size : Int) > 1000
    · rw [if_pos c5] at H
      have c5b0 : decide (1000 < (a1.size : Int)) = true := decide_eq_true c5
      have c5b1 : decide (1000 < a1.size) = true := decide_eq_true (by omega)
      clear c5
      obtain rfl := Option.some.inj H
      go_enter Tryd.func3, Tryd.ntmps3
      go_wp2_with (first | ((with_reducible refine gate_callee (f := 4) rfl ?_); refine goesL_ (some 10) rfl rfl Tryd.func4 (by kernel_rfl) rfl #[] rfl (by (try simp only [List.map_toArray, List.map_cons, List.map_nil]); first | done | rfl | (simp only [List.length_drop, List.length_take]; rfl)) ?_; (with_reducible refine (spigotlaw09_awake.calls  true _ A3.out).mono ?_); rintro e w6 ⟨rfl, hb⟩; refine ⟨_, rfl, ?_⟩; have n0_ := Aside0.mk (below_step (by repeat (first | (with_reducible first | exact HB.out | apply below_alloc | apply pw_below_drewN | apply below_drew1) | exact HB.out)) hb); clear HB; have HB := n0_; clear n0_; (try clear hb); (try clear hb2); (try clear hk); (try clear hi)))
      go_ret
      exact ⟨by first | rfl | (simp [errW_none, errW_some] <;> rfl) | (simp [*, errW_none, errW_some] <;> rfl), by repeat (first | (with_reducible first | exact HB.out | apply below_alloc | apply pw_below_drewN | apply below_drew1) | exact HB.out)⟩
    · rw [if_neg c5] at H
      have c5b0 : decide (1000 < (a1.size : Int)) = false := decide_eq_false c5
      have c5b1 : decide (1000 < a1.size) = false := decide_eq_false (by omega)
      clear c5
      replace H := Option.bind_eq_some_iff.mp H
      obtain ⟨⟨t119, t120⟩, A70, H⟩ := H
      replace H : ((sum_ReadLength.f a1).bind fun bt121 => ((spigotref09_ReadLength.f a1).bind fun t123 => (if bt121.2 = 0 then (if bt121.1 = t123 then (spigotlaw09_SumLengths.j0 k a0 t119 t120 false) else (spigotlaw09_SumLengths.j0 k a0 t119 t120 true)) else (if bt121.2 = 112 then (if bt121.1 = 0 then (spigotlaw09_SumLengths.j0 k a0 t119 t120 (decide (t123 ≥ 0))) else (spigotlaw09_SumLengths.j0 k a0 t119 t120 true)) else (spigotlaw09_SumLengths.j0 k a0 t119 t120 true))))) = some r := H
      have A7 := Aside0.mk A70
      clear A70
      replace H := Option.bind_eq_some_iff.mp H
      obtain ⟨⟨t121, t122⟩, A80, H⟩ := H
      replace H : ((spigotref09_ReadLength.f a1).bind fun t123 => (if t122 = 0 then (if t121 = t123 then (spigotlaw09_SumLengths.j0 k a0 t119 t120 false) else (spigotlaw09_SumLengths.j0 k a0 t119 t120 true)) else (if t122 = 112 then (if t121 = 0 then (spigotlaw09_SumLengths.j0 k a0 t119 t120 (decide (t123 ≥ 0))) else (spigotlaw09_SumLengths.j0 k a0 t119 t120 true)) else (spigotlaw09_SumLengths.j0 k a0 t119 t120 true)))) = some r := H
      have A8 := Aside0.mk A80
      clear A80
      replace H := Option.bind_eq_some_iff.mp H
      obtain ⟨t123, A90, H⟩ := H
      replace H : (if t122 = 0 then (if t121 = t123 then (spigotlaw09_SumLengths.j0 k a0 t119 t120 false) else (spigotlaw09_SumLengths.j0 k a0 t119 t120 true)) else (if t122 = 112 then (if t121 = 0 then (spigotlaw09_SumLengths.j0 k a0 t119 t120 (decide (t123 ≥ 0))) else (spigotlaw09_SumLengths.j0 k a0 t119 t120 true)) else (spigotlaw09_SumLengths.j0 k a0 t119 t120 true))) = some r := H
      have A9 := Aside0.mk A90
      clear A90
      have HC10 := Aside0.mk H
      clear H
      go_enter Tryd.func3, Tryd.ntmps3
      go_upto_region 8 with (first | ((with_reducible refine gate_callee (f := 4) rfl ?_); refine goesL_ (some 10) rfl rfl Tryd.func4 (by kernel_rfl) rfl #[] rfl (by (try simp only [List.map_toArray, List.map_cons, List.map_nil]); first | done | rfl | (simp only [List.length_drop, List.length_take]; rfl)) ?_; (with_reducible refine (spigotlaw09_awake.calls  true _ A3.out).mono ?_); rintro e w11 ⟨rfl, hb⟩; refine ⟨_, rfl, ?_⟩; have n0_ := Aside0.mk (below_step (by repeat (first | (with_reducible first | exact HB.out | apply below_alloc | apply pw_below_drewN | apply below_drew1) | exact HB.out)) hb); clear HB; have HB := n0_; clear n0_; (try clear hb); (try clear hb2); (try clear hk); (try clear hi)) | ((with_reducible refine gate_callee (f := 5) rfl ?_); refine goesL_ (some 17) rfl rfl Tryd.func5 (by kernel_rfl) rfl #[.int .i64 a0] rfl (by (try simp only [List.map_toArray, List.map_cons, List.map_nil]); first | done | rfl | (simp only [List.length_drop, List.length_take]; rfl)) ?_; (with_reducible refine (sum_Length.calls a0 t119 t120 _ ?side1 A7.out).mono ?_); (case side1 => exact Aside0.mk (Tabs_.below hT_.out (by repeat (first | (with_reducible first | exact HB.out | apply below_alloc | apply pw_below_drewN | apply below_drew1) | exact HB.out)))); rintro e w12 ⟨rfl, hb⟩; refine ⟨_, rfl, ?_⟩; have n0_ := Aside0.mk (below_step (by repeat (first | (with_reducible first | exact HB.out | apply below_alloc | apply pw_below_drewN | apply below_drew1) | exact HB.out)) hb); clear HB; have HB := n0_; clear n0_; (try clear hb); (try clear hb2); (try clear hk); (try clear hi)) | ((with_reducible refine gate_callee (f := 6) rfl ?_); refine goesL_ (some 22) rfl rfl Tryd.func6 (by kernel_rfl) rfl #[.string a1] rfl (by (try simp only [List.map_toArray, List.map_cons, List.map_nil]); first | done | rfl | (simp only [List.length_drop, List.length_take]; rfl)) ?_; (with_reducible refine (sum_ReadLength.calls a1 t121 t122 _ A8.out).mono ?_); rintro e w' ⟨rfl, ⟨nd, rfl⟩⟩; refine ⟨_, rfl, ?_⟩) | ((with_reducible refine gate_callee (f := 7) rfl ?_); refine goesL_ (some 26) rfl rfl Tryd.func7 (by kernel_rfl) rfl #[.string a1] rfl (by (try simp only [List.map_toArray, List.map_cons, List.map_nil]); first | done | rfl | (simp only [List.length_drop, List.length_take]; rfl)) ?_; (with_reducible refine (spigotref09_ReadLength.calls a1 t123 _ A9.out).mono ?_); rintro e w13 ⟨rfl, hb⟩; refine ⟨_, rfl, ?_⟩; have n0_ := Aside0.mk (below_step (by repeat (first | (with_reducible first | exact HB.out | apply below_alloc | apply pw_below_drewN | apply below_drew1) | exact HB.out)) hb); clear HB; have HB := n0_; clear n0_; (try clear hb); (try clear hb2); (try clear hk); (try clear hi)))
      (try simp only [Act.put, List.setIfInBounds_toArray, List.set_cons_zero, List.set_cons_succ])
      go_cut [49] (fun v49 wc => ∃ (kq : Nat) (x49_9 : Bool), v49 = .bool x49_9 ∧ Aside0 (spigotlaw09_SumLengths.j0 kq a0 t119 t120 x49_9 = some r) ∧ Aside0 (kq ≤ k) ∧ Aside0 (Below w.heap.size w wc))
      case first =>
        have H := HC10.out
        clear HC10
        by_cases c14 : t122 = 0
        · rw [if_pos c14] at H
          have c14b0 : (t122 == 0) = true := beq_iff_eq.mpr c14
          have c14b1 : (t122 != 0) = false := bne_eq_false_iff_eq.mpr c14
          clear c14
          (first | rw [c14b0] | (simp only [i64_w, i32_w]; rw [c14b0]) | skip)
          by_cases c15 : t121 = t123
          · rw [if_pos c15] at H
            have c15b0 : (t121 == t123) = true := beq_iff_eq.mpr c15
            have c15b1 : (t121 != t123) = false := bne_eq_false_iff_eq.mpr c15
            clear c15
            have H' := Aside0.mk H
            clear H
            go_wp2
            go_meet
            case rel => exact ⟨_, (false), (by first | rfl | (simp; done) | (simp [*]; done)), H', ⟨by first | omega | exact Nat.le_refl _⟩, ⟨by repeat (first | (with_reducible first | exact HB.out | apply below_alloc | apply pw_below_drewN | apply below_drew1) | exact HB.out)⟩⟩
          · rw [if_neg c15] at H
            have c15b0 : (t121 == t123) = false := beq_eq_false_iff_ne.mpr c15
            have c15b1 : (t121 != t123) = true := bne_iff_ne.mpr c15
            have H' := Aside0.mk H
            clear H
            go_wp2
            go_meet
            case rel => exact ⟨_, (true), (by first | rfl | (simp; done) | (simp [*]; done)), H', ⟨by first | omega | exact Nat.le_refl _⟩, ⟨by repeat (first | (with_reducible first | exact HB.out | apply below_alloc | apply pw_below_drewN | apply below_drew1) | exact HB.out)⟩⟩
        · rw [if_neg c14] at H
          have c14b0 : (t122 == 0) = false := beq_eq_false_iff_ne.mpr c14
          have c14b1 : (t122 != 0) = true := bne_iff_ne.mpr c14
          (first | rw [c14b0] | (simp only [i64_w, i32_w]; rw [c14b0]) | skip)
          by_cases c16 : t122 = 112
          · rw [if_pos c16] at H
            have c16b0 : (t122 == 112) = true := beq_iff_eq.mpr c16
            have c16b1 : (t122 != 112) = false := bne_eq_false_iff_eq.mpr c16
            clear c16
            by_cases c17 : t121 = 0
            · rw [if_pos c17] at H
              have c17b0 : (t121 == 0) = true := beq_iff_eq.mpr c17
              have c17b1 : (t121 != 0) = false := bne_eq_false_iff_eq.mpr c17
              clear c17
              have H' := Aside0.mk H
              clear H
              go_wp2
              go_meet
              case rel => exact ⟨_, (decide (t123 ≥ 0)), (by first | rfl | (simp; done) | (simp [*]; done)), H', ⟨by first | omega | exact Nat.le_refl _⟩, ⟨by repeat (first | (with_reducible first | exact HB.out | apply below_alloc | apply pw_below_drewN | apply below_drew1) | exact HB.out)⟩⟩
            · rw [if_neg c17] at H
              have c17b0 : (t121 == 0) = false := beq_eq_false_iff_ne.mpr c17
              have c17b1 : (t121 != 0) = true := bne_iff_ne.mpr c17
              have H' := Aside0.mk H
              clear H
              go_wp2
              go_meet
              case rel => exact ⟨_, (true), (by first | rfl | (simp; done) | (simp [*]; done)), H', ⟨by first | omega | exact Nat.le_refl _⟩, ⟨by repeat (first | (with_reducible first | exact HB.out | apply below_alloc | apply pw_below_drewN | apply below_drew1) | exact HB.out)⟩⟩
          · rw [if_neg c16] at H
            have c16b0 : (t122 == 112) = false := beq_eq_false_iff_ne.mpr c16
            have c16b1 : (t122 != 112) = true := bne_iff_ne.mpr c16
            have H' := Aside0.mk H
            clear H
            go_wp2
            go_meet
            case rel => exact ⟨_, (true), (by first | rfl | (simp; done) | (simp [*]; done)), H', ⟨by first | omega | exact Nat.le_refl _⟩, ⟨by repeat (first | (with_reducible first | exact HB.out | apply below_alloc | apply pw_below_drewN | apply below_drew1) | exact HB.out)⟩⟩
      case rest =>
        clear HC10
        try clear c1
        try clear p2
        try clear c3
        try clear c4
        try clear c5
        try clear c5b0
        try clear c5b1
        try clear c6
        try clear c7
        try clear c14
        try clear c14b0
        try clear c14b1
        try clear c15
        try clear c15b0
        try clear c15b1
        try clear c16
        try clear c16b0
        try clear c16b1
        try clear c17
        try clear c17b0
        try clear c17b1
        obtain ⟨kq, x49_9, rfl, HA, HJ9, HB⟩ := hcut
        cases kq with
        | zero => exact absurd HA.out (by simp [spigotlaw09_SumLengths.j0])
        | succ kj9 =>
          have H := HA.out
          clear HA
          simp only [spigotlaw09_SumLengths.j0] at H
          by_cases c18 : x49_9 = true
          · subst c18
            have H1 : (some false) = some r := by rw [if_pos rfl] at H; exact H
            clear H
            have H := H1
            clear H1
            obtain rfl := Option.some.inj H
            go_wp2
            go_ret
            exact ⟨by first | rfl | (simp [errW_none, errW_some] <;> rfl) | (simp [*, errW_none, errW_some] <;> rfl), by repeat (first | (with_reducible first | exact HB.out | apply below_alloc | apply pw_below_drewN | apply below_drew1) | exact HB.out)⟩
          · replace c18 := Bool.eq_false_iff.mpr c18
            subst c18
            have H1 : (if a0 < 1 then (if t120 = 2 then (some (t119.toList == ([] : List UInt8))) else (some false)) else (if a0 > 4096 then (if t120 = 2 then (some (t119.toList == ([] : List UInt8))) else (some false)) else (if t120 = 0 then ((spigotref08_Digits.f a0).bind fun t124 => (some (t119.toList == t124.toList))) else (some false)))) = some r := by rw [if_neg (show ¬ (false = true) by decide)] at H; exact H
            clear H
            have H := H1
            clear H1
            by_cases c19 : a0 < 1
            · rw [if_pos c19] at H
              have c19b0 : decide (a0 < 1) = true := decide_eq_true c19
              clear c19
              by_cases c20 : t120 = 2
              · rw [if_pos c20] at H
                have c20b0 : (t120 == 2) = true := beq_iff_eq.mpr c20
                have c20b1 : (t120 != 2) = false := bne_eq_false_iff_eq.mpr c20
                clear c20
                obtain rfl := Option.some.inj H
                go_wp2
                go_ret
                exact ⟨by first | rfl | (simp [errW_none, errW_some] <;> rfl) | (simp [*, errW_none, errW_some] <;> rfl), by repeat (first | (with_reducible first | exact HB.out | apply below_alloc | apply pw_below_drewN | apply below_drew1) | exact HB.out)⟩
              · rw [if_neg c20] at H
                have c20b0 : (t120 == 2) = false := beq_eq_false_iff_ne.mpr c20
                have c20b1 : (t120 != 2) = true := bne_iff_ne.mpr c20
                obtain rfl := Option.some.inj H
                go_wp2
                go_ret
                exact ⟨by first | rfl | (simp [errW_none, errW_some] <;> rfl) | (simp [*, errW_none, errW_some] <;> rfl), by repeat (first | (with_reducible first | exact HB.out | apply below_alloc | apply pw_below_drewN | apply below_drew1) | exact HB.out)⟩
            · rw [if_neg c19] at H
              have c19b0 : decide (a0 < 1) = false := decide_eq_false c19
              clear c19
              by_cases c21 : a0 > 4096
              · rw [if_pos c21] at H
                have c21b0 : decide (4096 < a0) = true := decide_eq_true c21
                clear c21
                by_cases c22 : t120 = 2
                · rw [if_pos c22] at H
                  have c22b0 : (t120 == 2) = true := beq_iff_eq.mpr c22
                  have c22b1 : (t120 != 2) = false := bne_eq_false_iff_eq.mpr c22
                  clear c22
                  obtain rfl := Option.some.inj H
                  go_wp2
                  go_ret
                  exact ⟨by first | rfl | (simp [errW_none, errW_some] <;> rfl) | (simp [*, errW_none, errW_some] <;> rfl), by repeat (first | (with_reducible first | exact HB.out | apply below_alloc | apply pw_below_drewN | apply below_drew1) | exact HB.out)⟩
                · rw [if_neg c22] at H
                  have c22b0 : (t120 == 2) = false := beq_eq_false_iff_ne.mpr c22
                  have c22b1 : (t120 != 2) = true := bne_iff_ne.mpr c22
                  obtain rfl := Option.some.inj H
                  go_wp2
                  go_ret
                  exact ⟨by first | rfl | (simp [errW_none, errW_some] <;> rfl) | (simp [*, errW_none, errW_some] <;> rfl), by repeat (first | (with_reducible first | exact HB.out | apply below_alloc | apply pw_below_drewN | apply below_drew1) | exact HB.out)⟩
              · rw [if_neg c21] at H
                have c21b0 : decide (4096 < a0) = false := decide_eq_false c21
                clear c21
                by_cases c23 : t120 = 0
                · rw [if_pos c23] at H
                  have c23b0 : (t120 == 0) = true := beq_iff_eq.mpr c23
                  have c23b1 : (t120 != 0) = false := bne_eq_false_iff_eq.mpr c23
                  clear c23
                  replace H := Option.bind_eq_some_iff.mp H
                  obtain ⟨t124, A240, H⟩ := H
                  replace H : (some (t119.toList == t124.toList)) = some r := H
                  have A24 := Aside0.mk A240
                  clear A240
                  obtain rfl := Option.some.inj H
                  go_wp2_with (first | (go_at_call 8; (with_reducible refine (spigotref08_Digits.calls a0 t124 _ A24.out).mono ?_); rintro e w25 ⟨rfl, hb⟩; have n0_ := Aside0.mk (below_step (by repeat (first | (with_reducible first | exact HB.out | apply below_alloc | apply pw_below_drewN | apply below_drew1) | exact HB.out)) hb); clear HB; have HB := n0_; clear n0_; (try clear hb); (try clear hb2); (try clear hk); (try clear hi)))
                  go_ret
                  exact ⟨by first | rfl | (simp [errW_none, errW_some] <;> rfl) | (simp [*, errW_none, errW_some] <;> rfl), by repeat (first | (with_reducible first | exact HB.out | apply below_alloc | apply pw_below_drewN | apply below_drew1) | exact HB.out)⟩
                · rw [if_neg c23] at H
                  have c23b0 : (t120 == 0) = false := beq_eq_false_iff_ne.mpr c23
                  have c23b1 : (t120 != 0) = true := bne_iff_ne.mpr c23
                  obtain rfl := Option.some.inj H
                  go_wp2
                  go_ret
                  exact ⟨by first | rfl | (simp [errW_none, errW_some] <;> rfl) | (simp [*, errW_none, errW_some] <;> rfl), by repeat (first | (with_reducible first | exact HB.out | apply below_alloc | apply pw_below_drewN | apply below_drew1) | exact HB.out)⟩
  · replace c4 := Bool.eq_false_iff.mpr c4
    subst c4
    have H1 : (some false) = some r := by rw [if_neg (show ¬ (false = true) by decide)] at H; exact H
    clear H
    have H := H1
    clear H1
    obtain rfl := Option.some.inj H
    go_enter Tryd.func3, Tryd.ntmps3
    go_wp2_with (first | ((with_reducible refine gate_callee (f := 4) rfl ?_); refine goesL_ (some 10) rfl rfl Tryd.func4 (by kernel_rfl) rfl #[] rfl (by (try simp only [List.map_toArray, List.map_cons, List.map_nil]); first | done | rfl | (simp only [List.length_drop, List.length_take]; rfl)) ?_; (with_reducible refine (spigotlaw09_awake.calls  false _ A3.out).mono ?_); rintro e w26 ⟨rfl, hb⟩; refine ⟨_, rfl, ?_⟩; have n0_ := Aside0.mk (below_step (by repeat (first | (with_reducible first | exact HB.out | apply below_alloc | apply pw_below_drewN | apply below_drew1) | exact HB.out)) hb); clear HB; have HB := n0_; clear n0_; (try clear hb); (try clear hb2); (try clear hk); (try clear hi)))
    go_ret
    exact ⟨by first | rfl | (simp [errW_none, errW_some] <;> rfl) | (simp [*, errW_none, errW_some] <;> rfl), by repeat (first | (with_reducible first | exact HB.out | apply below_alloc | apply pw_below_drewN | apply below_drew1) | exact HB.out)⟩

/-- THE ONE PURE STATEMENT of spigotlaw09_SumLengths: yours. -/
def spigotlaw09_SumLengths.Pure : Prop := ∀ (a0 : Int) (a1 : ByteArray), (Lit.int .i64 a0).wf = true → a1.size ≤ 140737488351232 → ∃ k, spigotlaw09_SumLengths.f k a0 a1 = some true
theorem spigotlaw09_SumLengths.walk (P : spigotlaw09_SumLengths.Pure) (a0 : Int) (a1 : ByteArray) (w : World) (hT_ : Aside0 (Tabs_ w)) (w0 : (Lit.int .i64 a0).wf = true) (w1 : a1.size ≤ 140737488351232) :
    Calls Tryd.prog 3 #[.int .i64 a0, .string a1] w fun e w' => e = .returned (.bool true) ∧ Below w.heap.size w w' := by
  obtain ⟨k, h⟩ := P a0 a1 w0 w1
  refine (spigotlaw09_SumLengths.calls k a0 a1 true w hT_ h).mono ?_
  rintro e w' ⟨rfl, hd⟩
  exact ⟨rfl, hd⟩

end Go.Proofs.YtfmhbibdnkekcaaDoor.Q
