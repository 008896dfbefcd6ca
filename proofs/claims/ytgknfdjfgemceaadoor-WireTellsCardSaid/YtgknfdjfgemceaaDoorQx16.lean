/- Each Go function that the laws of this seat reach, as a plain Lean function, and its contract: the machine's call does what that function says. -/
import Derived.Test.YtgknfdjfgemceaaDoorQx0
import Derived.Test.YtgknfdjfgemceaaDoorQx1
import Derived.Test.YtgknfdjfgemceaaDoorQx5
namespace Go.Proofs.YtgknfdjfgemceaaDoor.Q
open Go.RowKit Go.Proofs.YtgknfdjfgemceaaDoorW.PrintWords Go.Proofs.YtgknfdjfgemceaaDoorW.PrintLast Go.Proofs.YtgknfdjfgemceaaDoorW.PrintMore
attribute [local go_sem] max2_int min2_int max_two min_two max_three min_three max_four min_four   -- for this text's walks alone
set_option linter.unusedVariables false
set_option linter.unusedSimpArgs false

--PART
/-! ### tag_value: function 41 -/
--needs 49
def tag_value.f (a0 : ByteArray) : Option Bool := if a0.size ≤ 9223372036854775807 then some (valueL a0.data.toList) else none
theorem drop_nil_of (s : ByteArray) (pos : Nat) (h : ¬ pos < s.size) : s.data.toList.drop pos = [] := List.drop_eq_nil_of_le (by rw [size_list]; omega)
theorem drop_ne_nil (s : ByteArray) (pos : Nat) (h : pos < s.size) : s.data.toList.drop pos ≠ [] := by
  intro e; have := congrArg List.length e; rw [List.length_drop, size_list] at this; simp at this; omega
def BoolIs (b : Bool) (w : World) (e : Ending) (w' : World) : Prop := e = .returned (.bool b) ∧ Below w.heap.size w w'
theorem BoolIs.mk_ {a b : Bool} {w w' : World} (h : a = b) (hw : Below w.heap.size w w') : BoolIs b w (.returned (.bool a)) w' := by subst h; exact ⟨rfl, hw⟩
set_option maxHeartbeats 1000000 in
theorem tag_value_walk (s : ByteArray) (w : World) (hs : s.size ≤ 9223372036854775807) :
    Calls Tryd.prog 41 #[.string s] w (BoolIs (valueL s.data.toList) w) := by
  have hV : valueL s.data.toList = (decide (1 ≤ s.size) && (decide (s.size ≤ 512) && allMay s.data.toList)) := rfl
  by_cases c1 : s.size < 1
  · have HF := Aside0.mk (show false = valueL s.data.toList by rw [hV, decide_eq_false (by omega)]; rfl)
    have t1 : decide ((s.size : Int) < 1) = true := by rw [decide_eq_true_eq]; omega
    clear hV
    go_enter Tryd.func41, Tryd.ntmps41
    go_wp2
    go_ret
    exact BoolIs.mk_ HF.out (Below.refl _ _)
  have t1 : decide ((s.size : Int) < 1) = false := by rw [decide_eq_false_iff_not]; omega
  by_cases c2 : 512 < s.size
  · have HF := Aside0.mk (show false = valueL s.data.toList by rw [hV, decide_eq_false (p := s.size ≤ 512) (by omega)]; simp)
    have t2 : decide ((512 : Int) < (s.size : Int)) = true := by rw [decide_eq_true_eq]; omega
    clear hV
    go_enter Tryd.func41, Tryd.ntmps41
    go_wp2
    go_ret
    exact BoolIs.mk_ HF.out (Below.refl _ _)
  have t2 : decide ((512 : Int) < (s.size : Int)) = false := by rw [decide_eq_false_iff_not]; omega
  have HF := Aside0.mk (show valueL s.data.toList = allMay s.data.toList by rw [hV, decide_eq_true (by omega), decide_eq_true (by omega)]; simp)
  have HB : Aside0 (∀ p, Below w.heap.size w (w.iter s p)) := ⟨fun p => (Below.refl _ _).alloc (Nat.le_refl _) _⟩
  clear hV
  go_enter Tryd.func41, Tryd.ntmps41
  go_wp2
  go_loopw [4] (fun _ w' => ∃ pos : Nat, w' = w.iter s pos ∧ Aside0 (allMay (s.data.toList.drop pos) = allMay s.data.toList)) (fun _ w' => s.size - w'.iterPos w.heap.size)
  case atStart => exact ⟨0, rfl, ⟨rfl⟩⟩
  case round =>
    obtain ⟨pos, rfl, hA⟩ := hrel
    by_cases hp : pos < s.size
    · have hnx : ∀ ty, (Instr.next (.pointer (some ⟨w.heap.size, 0, none⟩)) true ty).run Tryd.prog (w.iter s pos) = _ := fun ty => run_next_any w s pos ty hp
      have hle := decode_le s pos
      have hst := hA.out
      rw [allMay_cons _ (drop_ne_nil s pos hp), dec_drop, List.drop_drop] at hst
      have hwd := dec_width (s.data.toList.drop pos)
      rw [dec_drop] at hwd
      clear hA
      generalize (Utf8.decode s pos).1 = r at *
      generalize (Utf8.decode s pos).2 = wd at *
      have HM : Aside0 (∀ w, Calls Tryd.prog 49 #[.int .i32 (r : Int)] w fun e w' => e = .returned (.bool (mayB r)) ∧ w = w') := ⟨fun w => tag_may_same r hle w⟩
      cases hm : mayB r with
      | false =>
        rw [hm] at hst HM
        have HS := Aside0.mk hst
        clear hst hm
        go_wp2_with (go_at_call 49; refine (HM.out _).mono ?_; rintro e w1 ⟨rfl, rfl⟩)
        go_ret
        exact BoolIs.mk_ (by rw [HF.out, ← HS.out]; rfl) (HB.out _)
      | true =>
        rw [hm] at hst HM
        have HS := Aside0.mk hst
        clear hst hm
        go_wp2_with (go_at_call 49; refine (HM.out _).mono ?_; rintro e w1 ⟨rfl, rfl⟩)
        go_roundw
        case rel => exact ⟨pos + wd, rfl, ⟨by have := HS.out; simpa using this⟩⟩
        case measure => simp; omega
    · have hnx : ∀ ty, (Instr.next (.pointer (some ⟨w.heap.size, 0, none⟩)) true ty).run Tryd.prog (w.iter s pos) = _ := fun ty => run_next_end w s pos ty hp
      have HS := Aside0.mk (show true = allMay s.data.toList by rw [← hA.out, drop_nil_of s pos hp, allMay_nil])
      clear hA
      go_wp2
      go_ret
      exact BoolIs.mk_ (by rw [HF.out]; exact HS.out) (HB.out _)
theorem tag_value.calls (a0 : ByteArray) (r : Bool) (w : World) (h : tag_value.f a0 = some r) :
    Calls Tryd.prog 41 #[.string a0] w fun e w' => e = .returned (.bool r) ∧ Below w.heap.size w w' := by
  unfold tag_value.f at h
  by_cases c : a0.size ≤ 9223372036854775807
  · rw [if_pos c] at h
    obtain rfl := Option.some.inj h
    exact tag_value_walk a0 w c
  · rw [if_neg c] at h; cases h

end Go.Proofs.YtgknfdjfgemceaaDoor.Q
