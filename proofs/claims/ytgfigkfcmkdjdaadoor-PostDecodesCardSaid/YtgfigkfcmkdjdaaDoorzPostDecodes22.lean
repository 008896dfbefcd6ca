/- The functions that the law reaches, as plain Lean functions, and their contracts: texts merged. -/
import Derived.Test.YtgfigkfcmkdjdaaDoorzPostDecodes3
import Derived.Test.YtgfigkfcmkdjdaaDoorzPostDecodes0
import Derived.Test.YtgfigkfcmkdjdaaDoorzPostDecodes1
import Derived.Test.YtgfigkfcmkdjdaaDoorzPostDecodes2
import Derived.Test.YtgfigkfcmkdjdaaDoorzPostDecodes4
import Derived.Test.YtgfigkfcmkdjdaaDoorzPostDecodes5
import Derived.Test.YtgfigkfcmkdjdaaDoorzPostDecodes6
import Derived.Test.YtgfigkfcmkdjdaaDoorzPostDecodes7
import Derived.Test.YtgfigkfcmkdjdaaDoorzPostDecodes8
import Derived.Test.YtgfigkfcmkdjdaaDoorzPostDecodes9
import Derived.Test.YtgfigkfcmkdjdaaDoorzPostDecodes10
import Derived.Test.YtgfigkfcmkdjdaaDoorzPostDecodes11
import Derived.Test.YtgfigkfcmkdjdaaDoorzPostDecodes12
import Derived.Test.YtgfigkfcmkdjdaaDoorzPostDecodes13
import Derived.Test.YtgfigkfcmkdjdaaDoorzPostDecodes14
import Derived.Test.YtgfigkfcmkdjdaaDoorzPostDecodes15
import Derived.Test.YtgfigkfcmkdjdaaDoorzPostDecodes16
import Derived.Test.YtgfigkfcmkdjdaaDoorzPostDecodes17
import Derived.Test.YtgfigkfcmkdjdaaDoorzPostDecodes18
import Derived.Test.YtgfigkfcmkdjdaaDoorzPostDecodes19
import Derived.Test.YtgfigkfcmkdjdaaDoorzPostDecodes20
section
namespace Go.Proofs.YtgfigkfcmkdjdaaDoor.B
open Go.RowKit Go.Proofs.YtgfigkfcmkdjdaaDoorW.PrintWords Go.Proofs.YtgfigkfcmkdjdaaDoorW.PrintLast Go.Proofs.YtgfigkfcmkdjdaaDoorW.PrintMore
attribute [local go_sem] max2_int min2_int max_two min_two max_three min_three max_four min_four   -- for this text's walks alone
set_option linter.unusedVariables false
set_option linter.unusedSimpArgs false
structure RepV where
  f0 : Int
  f1 : Int
  f2 : ByteArray
  f3 : ByteArray
  f4 : Int
  f5 : Int
  f6 : ByteArray
def rightP (a : RepV) : Bool := decide (1 ≤ a.f0 ∧ a.f0 ≤ 7) && (decide (1 ≤ a.f1 ∧ a.f1 ≤ 1099511627776) && (nameL a.f2.data.toList 0 &&
  ((if a.f0 = 7 then decide (a.f3 = ⟨#[]⟩) else nameL a.f3.data.toList 0) &&
   ((if a.f0 = 5 then decide (1 ≤ a.f4 ∧ a.f4 ≤ 1099511627776) && decide (1 ≤ a.f5 ∧ a.f5 ≤ 1099511627776) else decide (a.f4 = 0) && decide (a.f5 = 0)) &&
    (if a.f0 = 6 then nameL a.f6.data.toList 0 else decide (a.f6 = ⟨#[]⟩))))))
theorem rightP_iff (a : RepV) : rightP a = true ↔ (1 ≤ a.f0 ∧ a.f0 ≤ 7) ∧ (1 ≤ a.f1 ∧ a.f1 ≤ 1099511627776) ∧ nameL a.f2.data.toList 0 = true ∧
    ((if a.f0 = 7 then a.f3 = ⟨#[]⟩ else nameL a.f3.data.toList 0 = true) ∧ (a.f0 = 5 → (1 ≤ a.f4 ∧ a.f4 ≤ 1099511627776) ∧ (1 ≤ a.f5 ∧ a.f5 ≤ 1099511627776)) ∧ (a.f0 ≠ 5 → a.f4 = 0 ∧ a.f5 = 0) ∧ (if a.f0 = 6 then nameL a.f6.data.toList 0 = true else a.f6 = ⟨#[]⟩)) := by
  obtain ⟨f0, f1, f2, f3, f4, f5, f6⟩ := a
  unfold rightP
  simp only [Bool.and_eq_true, decide_eq_true_eq]
  by_cases c5 : f0 = 5
  · subst c5; simp [and_assoc]
  by_cases c6 : f0 = 6
  · subst c6; simp [and_assoc]
  by_cases c7 : f0 = 7
  · subst c7; simp [and_assoc]
  · simp [c5, c6, c7, and_assoc]
end Go.Proofs.YtgfigkfcmkdjdaaDoor.B
end
section
namespace Go.Proofs.YtgfigkfcmkdjdaaDoor.B
open Go.RowKit Go.Proofs.YtgfigkfcmkdjdaaDoorW.PrintWords Go.Proofs.YtgfigkfcmkdjdaaDoorW.PrintLast Go.Proofs.YtgfigkfcmkdjdaaDoorW.PrintMore
attribute [local go_sem] max2_int min2_int max_two min_two max_three min_three max_four min_four   -- for this text's walks alone
set_option linter.unusedVariables false
set_option linter.unusedSimpArgs false
def post_replyWord.f (a0 : Int) : Option (ByteArray) := if a0 = 1 then (some (⟨#[48]⟩ : ByteArray)) else (if a0 = 2 then (some (⟨#[52]⟩ : ByteArray)) else (if a0 = 3 then (some (⟨#[53]⟩ : ByteArray)) else (if a0 = 4 then (some (⟨#[56]⟩ : ByteArray)) else (if a0 = 5 then (some (⟨#[70]⟩ : ByteArray)) else (if a0 = 6 then (some (⟨#[72]⟩ : ByteArray)) else (some (⟨#[]⟩ : ByteArray)))))))
set_option maxHeartbeats 8000000 in
set_option maxRecDepth 100000 in
theorem post_replyWord.calls (a0 : Int) (r : ByteArray) (w : World) (h : post_replyWord.f a0 = some r) :
    Calls Tryd.prog 85 #[.int .i64 a0] w fun e w' => e = .returned (.string r) ∧ Drawn0 w w' := by
  have H : (if a0 = 1 then (some (⟨#[48]⟩ : ByteArray)) else (if a0 = 2 then (some (⟨#[52]⟩ : ByteArray)) else (if a0 = 3 then (some (⟨#[53]⟩ : ByteArray)) else (if a0 = 4 then (some (⟨#[56]⟩ : ByteArray)) else (if a0 = 5 then (some (⟨#[70]⟩ : ByteArray)) else (if a0 = 6 then (some (⟨#[72]⟩ : ByteArray)) else (some (⟨#[]⟩ : ByteArray)))))))) = some r := h
  clear h
  by_cases c2 : a0 = 1
  · rw [if_pos c2] at H
    have c2b0 : (a0 == 1) = true := beq_iff_eq.mpr c2
    have c2b1 : (a0 != 1) = false := bne_eq_false_iff_eq.mpr c2
    clear c2
    obtain rfl := Option.some.inj H
    go_enter Tryd.func85, Tryd.ntmps85
    go_wp2
    go_ret
    exact ⟨by first | rfl | (simp; done) | (simp [*]; done), by repeat (first | exact Drawn0.refl _ | apply Drawn0.step)⟩
  · rw [if_neg c2] at H
    have c2b0 : (a0 == 1) = false := beq_eq_false_iff_ne.mpr c2
    have c2b1 : (a0 != 1) = true := bne_iff_ne.mpr c2
    by_cases c3 : a0 = 2
    · rw [if_pos c3] at H
      have c3b0 : (a0 == 2) = true := beq_iff_eq.mpr c3
      have c3b1 : (a0 != 2) = false := bne_eq_false_iff_eq.mpr c3
      clear c3
      obtain rfl := Option.some.inj H
      go_enter Tryd.func85, Tryd.ntmps85
      go_wp2
      go_ret
      exact ⟨by first | rfl | (simp; done) | (simp [*]; done), by repeat (first | exact Drawn0.refl _ | apply Drawn0.step)⟩
    · rw [if_neg c3] at H
      have c3b0 : (a0 == 2) = false := beq_eq_false_iff_ne.mpr c3
      have c3b1 : (a0 != 2) = true := bne_iff_ne.mpr c3
      by_cases c4 : a0 = 3
      · rw [if_pos c4] at H
        have c4b0 : (a0 == 3) = true := beq_iff_eq.mpr c4
        have c4b1 : (a0 != 3) = false := bne_eq_false_iff_eq.mpr c4
        clear c4
        obtain rfl := Option.some.inj H
        go_enter Tryd.func85, Tryd.ntmps85
        go_wp2
        go_ret
        exact ⟨by first | rfl | (simp; done) | (simp [*]; done), by repeat (first | exact Drawn0.refl _ | apply Drawn0.step)⟩
      · rw [if_neg c4] at H
        have c4b0 : (a0 == 3) = false := beq_eq_false_iff_ne.mpr c4
        have c4b1 : (a0 != 3) = true := bne_iff_ne.mpr c4
        by_cases c5 : a0 = 4
        · rw [if_pos c5] at H
          have c5b0 : (a0 == 4) = true := beq_iff_eq.mpr c5
          have c5b1 : (a0 != 4) = false := bne_eq_false_iff_eq.mpr c5
          clear c5
          obtain rfl := Option.some.inj H
          go_enter Tryd.func85, Tryd.ntmps85
          go_wp2
          go_ret
          exact ⟨by first | rfl | (simp; done) | (simp [*]; done), by repeat (first | exact Drawn0.refl _ | apply Drawn0.step)⟩
        · rw [if_neg c5] at H
          have c5b0 : (a0 == 4) = false := beq_eq_false_iff_ne.mpr c5
          have c5b1 : (a0 != 4) = true := bne_iff_ne.mpr c5
          by_cases c6 : a0 = 5
          · rw [if_pos c6] at H
            have c6b0 : (a0 == 5) = true := beq_iff_eq.mpr c6
            have c6b1 : (a0 != 5) = false := bne_eq_false_iff_eq.mpr c6
            clear c6
            obtain rfl := Option.some.inj H
            go_enter Tryd.func85, Tryd.ntmps85
            go_wp2
            go_ret
            exact ⟨by first | rfl | (simp; done) | (simp [*]; done), by repeat (first | exact Drawn0.refl _ | apply Drawn0.step)⟩
          · rw [if_neg c6] at H
            have c6b0 : (a0 == 5) = false := beq_eq_false_iff_ne.mpr c6
            have c6b1 : (a0 != 5) = true := bne_iff_ne.mpr c6
            by_cases c7 : a0 = 6
            · rw [if_pos c7] at H
              have c7b0 : (a0 == 6) = true := beq_iff_eq.mpr c7
              have c7b1 : (a0 != 6) = false := bne_eq_false_iff_eq.mpr c7
              clear c7
              obtain rfl := Option.some.inj H
              go_enter Tryd.func85, Tryd.ntmps85
              go_wp2
              go_ret
              exact ⟨by first | rfl | (simp; done) | (simp [*]; done), by repeat (first | exact Drawn0.refl _ | apply Drawn0.step)⟩
            · rw [if_neg c7] at H
              have c7b0 : (a0 == 6) = false := beq_eq_false_iff_ne.mpr c7
              have c7b1 : (a0 != 6) = true := bne_iff_ne.mpr c7
              obtain rfl := Option.some.inj H
              go_enter Tryd.func85, Tryd.ntmps85
              go_wp2
              go_ret
              exact ⟨by first | rfl | (simp; done) | (simp [*]; done), by repeat (first | exact Drawn0.refl _ | apply Drawn0.step)⟩
end Go.Proofs.YtgfigkfcmkdjdaaDoor.B
end
