/- Each Go function that the laws of this seat reach, as a plain Lean function, and its contract: the machine's call does what that function says. -/
import Derived.Test.YtgknfdjfgemceaaDoorQx0
import Derived.Test.YtgknfdjfgemceaaDoorQx9
namespace Go.Proofs.YtgknfdjfgemceaaDoor.Q
open Go.RowKit Go.Proofs.YtgknfdjfgemceaaDoorW.PrintWords Go.Proofs.YtgknfdjfgemceaaDoorW.PrintLast Go.Proofs.YtgknfdjfgemceaaDoorW.PrintMore
attribute [local go_sem] max2_int min2_int max_two min_two max_three min_three max_four min_four   -- for this text's walks alone
set_option linter.unusedVariables false
set_option linter.unusedSimpArgs false

--PART
/-! ### sum_Three: function 21 -/
/-- Three digits of a number below 1000. -/
def threeOf (n : Int) : ByteArray := strOfNums [48 + n / 100, 48 + n / 10 % 10, 48 + n % 10]
theorem sum_Three_conv (w1 : World) (x y z : Int) :
    (convert 46 9 (.slice (some ⟨w1.heap.size, 0, none⟩) 3 3)).run Tryd.prog (w1.alloc (.cells #[.int .u8 x, .int .u8 y, .int .u8 z] 73)) = .ok (.string (strOfNums [x, y, z])) (w1.alloc (.cells #[.int .u8 x, .int .u8 y, .int .u8 z] 73)) := by
  refine run_convert_bytes_arg (P := Tryd.prog) _ 46 5 Tryd.underlying46 Tryd.underlying5 w1.heap.size 0 3 3 [x, y, z] rfl (fun i hi => ?_) 9 Tryd.underlying9
  match i, hi with
  | 0, _ => simp
  | 1, _ => simp
  | 2, _ => simp
def sum_Three.f (a0 : Int) : Option (ByteArray × Int) := if 0 ≤ a0 ∧ a0 ≤ 255 then some (threeOf a0, 0) else some (⟨#[]⟩, 2)
set_option maxHeartbeats 400000 in
theorem sum_Three.calls (a0 : Int) (r1 : ByteArray) (r2 : Int) (w : World) (h : sum_Three.f a0 = some (r1, r2)) :
    Calls Tryd.prog 21 #[.int .i64 a0] w fun e w' => e = .returned (.tuple #[.string r1, .int .i64 r2]) ∧ Below w.heap.size w w' := by
  unfold sum_Three.f at h
  by_cases c : 0 ≤ a0 ∧ a0 ≤ 255
  · rw [if_pos c] at h
    simp only [Option.some.injEq, Prod.mk.injEq] at h
    obtain ⟨rfl, rfl⟩ := h
    obtain ⟨h0, h1⟩ := c
    have hb : sum_right.f a0 = some true := by
      unfold sum_right.f; rw [if_pos h0]; simp [h1]
    have H := Aside0.mk hb
    clear hb
    have hcv := sum_Three_conv
    go_enter Tryd.func21, Tryd.ntmps21
    go_wp2_with (go_at_call 32; refine (sum_right.calls _ _ _ H.out).mono ?_; rintro e w1 ⟨rfl, hd⟩; have HB := Aside0.mk hd.below; clear hd)
    go_ret2
    exact ⟨rfl, HB.out.alloc HB.out.size _⟩
  · rw [if_neg c] at h
    simp only [Option.some.injEq, Prod.mk.injEq] at h
    obtain ⟨rfl, rfl⟩ := h
    have hb : sum_right.f a0 = some false := by
      unfold sum_right.f; by_cases h0 : a0 ≥ 0
      · rw [if_pos h0]; simp; omega
      · rw [if_neg h0]
    have H := Aside0.mk hb
    clear hb c
    go_enter Tryd.func21, Tryd.ntmps21
    go_wp2_with (go_at_call 32; refine (sum_right.calls _ _ _ H.out).mono ?_; rintro e w1 ⟨rfl, hd⟩; have HB := Aside0.mk hd.below; clear hd)
    go_ret2
    exact ⟨rfl, HB.out⟩

end Go.Proofs.YtgknfdjfgemceaaDoor.Q
