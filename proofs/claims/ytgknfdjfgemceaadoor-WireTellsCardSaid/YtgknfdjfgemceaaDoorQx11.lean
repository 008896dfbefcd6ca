/- Each Go function that the laws of this seat reach, as a plain Lean function, and its contract: the machine's call does what that function says. -/
import Derived.Test.YtgknfdjfgemceaaDoorQx0
import Derived.Test.YtgknfdjfgemceaaDoorQx1
namespace Go.Proofs.YtgknfdjfgemceaaDoor.Q
open Go.RowKit Go.Proofs.YtgknfdjfgemceaaDoorW.PrintWords Go.Proofs.YtgknfdjfgemceaaDoorW.PrintLast Go.Proofs.YtgknfdjfgemceaaDoorW.PrintMore
attribute [local go_sem] max2_int min2_int max_two min_two max_three min_three max_four min_four   -- for this text's walks alone
set_option linter.unusedVariables false
set_option linter.unusedSimpArgs false

--PART
/-! ### sum_Sum_p: function 22 -/
def sum_Sum_p.l0 : Nat → ByteArray → Int → Int → Int → Option (Int)
  | 0, _, _, _, _ => none
  | k + 1, x0, x3, x6, x7 => if x7 < x6 then (if 0 ≤ x7 then (if x7 < (x0.size : Int) then (sum_Sum_p.l0 k x0 ((x3 + (bt x0 x7)) % 256) x6 (wrap64 (x7 + 1))) else (none)) else (none)) else (some (wrap64 (x3)))
def sum_Sum_p.f (k : Nat) (a0 : ByteArray) : Option (Int) := sum_Sum_p.l0 k a0 0 (a0.size : Int) 0
theorem sum_Sum_p.mono_l : ∀ k, (∀ y0 y1 y2 y3, LeO (sum_Sum_p.l0 k y0 y1 y2 y3) (sum_Sum_p.l0 (k + 1) y0 y1 y2 y3))
  | 0 => fun _ _ _ _ r h => by simp [sum_Sum_p.l0] at h
  | k + 1 => by
    have ih0 := sum_Sum_p.mono_l k
    · intro y0 y1 y2 y3
      unfold sum_Sum_p.l0
      repeat' first
      | (with_reducible exact ih0 _ _ _ _)
      | (with_reducible exact LeO.refl _)
      | (with_reducible exact LeO.none _)
      | (with_reducible refine LeO.ite ?_ ?_)
      | (with_reducible refine LeO.bind ?_ (fun _ => ?_))
      | exact ih0 _ _ _ _
      | exact LeO.none _
      | refine LeO.ite ?_ ?_
      | refine LeO.bind ?_ (fun _ => ?_)
theorem sum_Sum_p.mono : ∀ a0 k, LeO (sum_Sum_p.f k a0) (sum_Sum_p.f (k + 1) a0) := by
  intro a0 k
  have ih0 := sum_Sum_p.mono_l k
  unfold sum_Sum_p.f
  repeat' first
      | (with_reducible exact ih0 _ _ _ _)
      | (with_reducible exact LeO.refl _)
      | (with_reducible exact LeO.none _)
      | (with_reducible refine LeO.ite ?_ ?_)
      | (with_reducible refine LeO.bind ?_ (fun _ => ?_))
      | exact ih0 _ _ _ _
      | exact LeO.none _
      | refine LeO.ite ?_ ?_
      | refine LeO.bind ?_ (fun _ => ?_)
set_option maxHeartbeats 8000000 in
set_option maxRecDepth 100000 in
theorem sum_Sum_p.calls (k : Nat) (a0 : ByteArray) (r : Int) (w : World) (h : sum_Sum_p.f k a0 = some r) :
    Calls Tryd.prog 22 #[.string a0] w fun e w' => e = .returned (.int .i64 r) ∧ Drawn0 w w' := by
  have H : (sum_Sum_p.l0 k a0 0 (a0.size : Int) 0) = some r := h
  clear h
  have H' := Aside0.mk H
  clear H
  go_enter Tryd.func22, Tryd.ntmps22
  go_wp2
  go_loopg [3, 7] k (fun kq v3 v7 w' => ∃ (x3_1 : Int) (x7_1 : Int), v3 = .int .u8 x3_1 ∧ v7 = .int .i64 x7_1 ∧ Aside0 (sum_Sum_p.l0 kq a0 x3_1 (a0.size : Int) x7_1 = some r) ∧ Aside0 (kq ≤ k) ∧ Drawn0 w w')
  case atStart => exact ⟨(0), (0), (by first | rfl | (simp; done) | (simp [*]; done)), (by first | rfl | (simp; done) | (simp [*]; done)), H', ⟨Nat.le_refl _⟩, by repeat (first | exact Drawn0.refl _ | apply Drawn0.step)⟩
  case round =>
    clear H'
    obtain ⟨x3_1, x7_1, rfl, rfl, HA, HK1, ⟨m1, rfl⟩⟩ := hrel
    cases gk with
    | zero => exact absurd HA.out (by simp [sum_Sum_p.l0])
    | succ k1 =>
      have H := HA.out
      clear HA
      simp only [sum_Sum_p.l0] at H
      by_cases c2 : x7_1 < (a0.size : Int)
      · rw [if_pos c2] at H
        have c2b0 : decide (x7_1 < (a0.size : Int)) = true := decide_eq_true c2
        clear c2
        by_cases c3 : 0 ≤ x7_1
        · rw [if_pos c3] at H
          have c3b0 : decide (0 ≤ x7_1) = true := decide_eq_true c3
          clear c3
          by_cases c4 : x7_1 < (a0.size : Int)
          · rw [if_pos c4] at H
            have c4b0 : decide (x7_1 < (a0.size : Int)) = true := decide_eq_true c4
            clear c4
            have H' := Aside0.mk H
            clear H
            have p5 : 0 ≤ (x7_1 : Int) := of_decide_eq_true (by first | (with_reducible assumption) | assumption)
            have q5 : x7_1 < (a0.size : Int) := of_decide_eq_true (by first | (with_reducible assumption) | assumption)
            have hx5 := bt_at a0 x7_1
            replace p5 := eq_true p5
            replace q5 := eq_true q5
            go_wp2
            go_roundg k1
            case measure => have := HK1.out; omega
            case rel => exact ⟨((x3_1 + (bt a0 x7_1)) % 256), (wrap64 (x7_1 + 1)), (by first | rfl | (simp; done) | (simp [*]; done)), (by first | rfl | (simp; done) | (simp [*]; done)), H', ⟨by have := HK1.out; omega⟩, by repeat (first | exact Drawn0.refl _ | apply Drawn0.step)⟩
          · rw [if_neg c4] at H
            exact absurd H (by simp)
        · rw [if_neg c3] at H
          exact absurd H (by simp)
      · rw [if_neg c2] at H
        have c2b0 : decide (x7_1 < (a0.size : Int)) = false := decide_eq_false c2
        clear c2
        obtain rfl := Option.some.inj H
        go_wp2
        go_ret
        exact ⟨by first | rfl | (simp; done) | (simp [*]; done), by repeat (first | exact Drawn0.refl _ | apply Drawn0.step)⟩
/-! ### sum_Sum: function 22 -/
theorem sum_Sum_loop (s : ByteArray) (hs : s.size ≤ big) (d : Nat) : ∀ (k : Nat) (i : Nat) (acc : Nat), i + d = s.size → d < k → acc < 256 →
    sum_Sum_p.l0 k s (acc : Int) (s.size : Int) (i : Int) = some (((acc + bsum (s.data.toList.drop i)) % 256 : Nat) : Int) := by
  unfold big at hs
  induction d with
  | zero =>
    intro k i acc hi hk ha
    obtain ⟨k, rfl⟩ : ∃ m, k = m + 1 := ⟨k - 1, by omega⟩
    simp only [sum_Sum_p.l0]
    rw [if_neg (by omega), w64 (by omega) (by omega), List.drop_eq_nil_of_le (by rw [size_list]; omega), bsum_nil]
    congr 1; omega
  | succ d ih =>
    intro k i acc hi hk ha
    obtain ⟨k, rfl⟩ : ∃ m, k = m + 1 := ⟨k - 1, by omega⟩
    have hl : i < s.data.toList.length := by rw [size_list]; omega
    simp only [sum_Sum_p.l0]
    rw [if_pos (by omega), if_pos (by omega), if_pos (by omega), w64 (by omega) (by omega), bt_get s i hl]
    have hb := u8_lt (s.data.toList[i])
    have e : ((acc : Int) + ((s.data.toList[i]).toNat : Int)) % 256 = (((acc + (s.data.toList[i]).toNat) % 256 : Nat) : Int) := by omega
    rw [e, show ((i : Int) + 1) = ((i + 1 : Nat) : Int) by omega, ih k (i + 1) _ (by omega) (by omega) (by omega)]
    rw [List.drop_eq_getElem_cons hl, bsum_cons]
    congr 2; omega
def sum_Sum.f (a0 : ByteArray) : Option Int := if a0.size ≤ big then some (sumOf a0) else none
theorem sum_Sum.calls (a0 : ByteArray) (r : Int) (w : World) (h : sum_Sum.f a0 = some r) :
    Calls Tryd.prog 22 #[.string a0] w fun e w' => e = .returned (.int .i64 r) ∧ Drawn0 w w' := by
  unfold sum_Sum.f at h
  by_cases c : a0.size ≤ big
  · rw [if_pos c] at h
    obtain rfl := Option.some.inj h
    refine sum_Sum_p.calls (a0.size + 1) a0 _ w ?_
    have := sum_Sum_loop a0 c a0.size (a0.size + 1) 0 0 (by omega) (by omega) (by omega)
    simpa [sum_Sum_p.f, sumOf] using this
  · rw [if_neg c] at h; cases h

end Go.Proofs.YtgknfdjfgemceaaDoor.Q
