/- Each Go function that the laws of this seat reach, as a plain Lean function, and its contract: the machine's call does what that function says. -/
import Derived.Test.YtgknfdjfgemceaaDoorQx0
import Derived.Test.YtgknfdjfgemceaaDoorQx1
import Derived.Test.YtgknfdjfgemceaaDoorQx2
import Derived.Test.YtgknfdjfgemceaaDoorQx3
import Derived.Test.YtgknfdjfgemceaaDoorQx8
import Derived.Test.YtgknfdjfgemceaaDoorQx10
import Derived.Test.YtgknfdjfgemceaaDoorQx11
namespace Go.Proofs.YtgknfdjfgemceaaDoor.Q
open Go.RowKit Go.Proofs.YtgknfdjfgemceaaDoorW.PrintWords Go.Proofs.YtgknfdjfgemceaaDoorW.PrintLast Go.Proofs.YtgknfdjfgemceaaDoorW.PrintMore
attribute [local go_sem] max2_int min2_int max_two min_two max_three min_three max_four min_four   -- for this text's walks alone
set_option linter.unusedVariables false
set_option linter.unusedSimpArgs false

--PART
/-! ### wire_Seal_p: function 10 -/
def wire_Seal_p.f (a0 : ByteArray) : Option (ByteArray × Int) := (sum_Length.f (a0.size : Int)).bind fun bt116 => (if bt116.2 = 0 then ((tag_Fields.f a0).bind fun bt118 => (if bt118.2.2 = 0 then (if 12 + bt116.1.size ≤ 9223372036854775807 then (if ((⟨#[56, 61, 70, 73, 88, 46, 52, 46, 52, 1, 57, 61]⟩ : ByteArray) ++ bt116.1).size + 1 ≤ 9223372036854775807 then (if (((⟨#[56, 61, 70, 73, 88, 46, 52, 46, 52, 1, 57, 61]⟩ : ByteArray) ++ bt116.1) ++ (⟨#[1]⟩ : ByteArray)).size + a0.size ≤ 9223372036854775807 then ((sum_Sum.f ((((⟨#[56, 61, 70, 73, 88, 46, 52, 46, 52, 1, 57, 61]⟩ : ByteArray) ++ bt116.1) ++ (⟨#[1]⟩ : ByteArray)) ++ a0)).bind fun t123 => ((sum_Three.f t123).bind fun bt124 => (if bt124.2 = 0 then (if ((((⟨#[56, 61, 70, 73, 88, 46, 52, 46, 52, 1, 57, 61]⟩ : ByteArray) ++ bt116.1) ++ (⟨#[1]⟩ : ByteArray)) ++ a0).size + 3 ≤ 9223372036854775807 then (if (((((⟨#[56, 61, 70, 73, 88, 46, 52, 46, 52, 1, 57, 61]⟩ : ByteArray) ++ bt116.1) ++ (⟨#[1]⟩ : ByteArray)) ++ a0) ++ (⟨#[49, 48, 61]⟩ : ByteArray)).size + bt124.1.size ≤ 9223372036854775807 then (if ((((((⟨#[56, 61, 70, 73, 88, 46, 52, 46, 52, 1, 57, 61]⟩ : ByteArray) ++ bt116.1) ++ (⟨#[1]⟩ : ByteArray)) ++ a0) ++ (⟨#[49, 48, 61]⟩ : ByteArray)) ++ bt124.1).size + 1 ≤ 9223372036854775807 then (some (((((((⟨#[56, 61, 70, 73, 88, 46, 52, 46, 52, 1, 57, 61]⟩ : ByteArray) ++ bt116.1) ++ (⟨#[1]⟩ : ByteArray)) ++ a0) ++ (⟨#[49, 48, 61]⟩ : ByteArray)) ++ bt124.1) ++ (⟨#[1]⟩ : ByteArray), 0)) else (none)) else (none)) else (none)) else (some ((⟨#[]⟩ : ByteArray), bt124.2))))) else (none)) else (none)) else (none)) else (some ((⟨#[]⟩ : ByteArray), bt118.2.2)))) else (some ((⟨#[]⟩ : ByteArray), 102)))
set_option maxHeartbeats 8000000 in
set_option maxRecDepth 100000 in
theorem wire_Seal_p.calls (a0 : ByteArray) (r1 : ByteArray) (r2 : Int) (w : World) (hT_ : Aside0 (Tabs_ w)) (h : wire_Seal_p.f a0 = some (r1, r2)) :
    Calls Tryd.prog 10 #[.string a0] w fun e w' => e = .returned (.tuple #[.string r1, .int .i64 r2]) ∧ Below w.heap.size w w' := by
  have HB := Aside0.mk (Below.refl w.heap.size w)
  have H : ((sum_Length.f (a0.size : Int)).bind fun bt116 => (if bt116.2 = 0 then ((tag_Fields.f a0).bind fun bt118 => (if bt118.2.2 = 0 then (if 12 + bt116.1.size ≤ 9223372036854775807 then (if ((⟨#[56, 61, 70, 73, 88, 46, 52, 46, 52, 1, 57, 61]⟩ : ByteArray) ++ bt116.1).size + 1 ≤ 9223372036854775807 then (if (((⟨#[56, 61, 70, 73, 88, 46, 52, 46, 52, 1, 57, 61]⟩ : ByteArray) ++ bt116.1) ++ (⟨#[1]⟩ : ByteArray)).size + a0.size ≤ 9223372036854775807 then ((sum_Sum.f ((((⟨#[56, 61, 70, 73, 88, 46, 52, 46, 52, 1, 57, 61]⟩ : ByteArray) ++ bt116.1) ++ (⟨#[1]⟩ : ByteArray)) ++ a0)).bind fun t123 => ((sum_Three.f t123).bind fun bt124 => (if bt124.2 = 0 then (if ((((⟨#[56, 61, 70, 73, 88, 46, 52, 46, 52, 1, 57, 61]⟩ : ByteArray) ++ bt116.1) ++ (⟨#[1]⟩ : ByteArray)) ++ a0).size + 3 ≤ 9223372036854775807 then (if (((((⟨#[56, 61, 70, 73, 88, 46, 52, 46, 52, 1, 57, 61]⟩ : ByteArray) ++ bt116.1) ++ (⟨#[1]⟩ : ByteArray)) ++ a0) ++ (⟨#[49, 48, 61]⟩ : ByteArray)).size + bt124.1.size ≤ 9223372036854775807 then (if ((((((⟨#[56, 61, 70, 73, 88, 46, 52, 46, 52, 1, 57, 61]⟩ : ByteArray) ++ bt116.1) ++ (⟨#[1]⟩ : ByteArray)) ++ a0) ++ (⟨#[49, 48, 61]⟩ : ByteArray)) ++ bt124.1).size + 1 ≤ 9223372036854775807 then (some (((((((⟨#[56, 61, 70, 73, 88, 46, 52, 46, 52, 1, 57, 61]⟩ : ByteArray) ++ bt116.1) ++ (⟨#[1]⟩ : ByteArray)) ++ a0) ++ (⟨#[49, 48, 61]⟩ : ByteArray)) ++ bt124.1) ++ (⟨#[1]⟩ : ByteArray), 0)) else (none)) else (none)) else (none)) else (some ((⟨#[]⟩ : ByteArray), bt124.2))))) else (none)) else (none)) else (none)) else (some ((⟨#[]⟩ : ByteArray), bt118.2.2)))) else (some ((⟨#[]⟩ : ByteArray), 102)))) = some (r1, r2) := h
  clear h
  replace H := Option.bind_eq_some_iff.mp H
  obtain ⟨⟨t116, t117⟩, A20, H⟩ := H
  replace H : (if t117 = 0 then ((tag_Fields.f a0).bind fun bt118 => (if bt118.2.2 = 0 then (if 12 + t116.size ≤ 9223372036854775807 then (if ((⟨#[56, 61, 70, 73, 88, 46, 52, 46, 52, 1, 57, 61]⟩ : ByteArray) ++ t116).size + 1 ≤ 9223372036854775807 then (if (((⟨#[56, 61, 70, 73, 88, 46, 52, 46, 52, 1, 57, 61]⟩ : ByteArray) ++ t116) ++ (⟨#[1]⟩ : ByteArray)).size + a0.size ≤ 9223372036854775807 then ((sum_Sum.f ((((⟨#[56, 61, 70, 73, 88, 46, 52, 46, 52, 1, 57, 61]⟩ : ByteArray) ++ t116) ++ (⟨#[1]⟩ : ByteArray)) ++ a0)).bind fun t123 => ((sum_Three.f t123).bind fun bt124 => (if bt124.2 = 0 then (if ((((⟨#[56, 61, 70, 73, 88, 46, 52, 46, 52, 1, 57, 61]⟩ : ByteArray) ++ t116) ++ (⟨#[1]⟩ : ByteArray)) ++ a0).size + 3 ≤ 9223372036854775807 then (if (((((⟨#[56, 61, 70, 73, 88, 46, 52, 46, 52, 1, 57, 61]⟩ : ByteArray) ++ t116) ++ (⟨#[1]⟩ : ByteArray)) ++ a0) ++ (⟨#[49, 48, 61]⟩ : ByteArray)).size + bt124.1.size ≤ 9223372036854775807 then (if ((((((⟨#[56, 61, 70, 73, 88, 46, 52, 46, 52, 1, 57, 61]⟩ : ByteArray) ++ t116) ++ (⟨#[1]⟩ : ByteArray)) ++ a0) ++ (⟨#[49, 48, 61]⟩ : ByteArray)) ++ bt124.1).size + 1 ≤ 9223372036854775807 then (some (((((((⟨#[56, 61, 70, 73, 88, 46, 52, 46, 52, 1, 57, 61]⟩ : ByteArray) ++ t116) ++ (⟨#[1]⟩ : ByteArray)) ++ a0) ++ (⟨#[49, 48, 61]⟩ : ByteArray)) ++ bt124.1) ++ (⟨#[1]⟩ : ByteArray), 0)) else (none)) else (none)) else (none)) else (some ((⟨#[]⟩ : ByteArray), bt124.2))))) else (none)) else (none)) else (none)) else (some ((⟨#[]⟩ : ByteArray), bt118.2.2)))) else (some ((⟨#[]⟩ : ByteArray), 102))) = some (r1, r2) := H
  have A2 := Aside0.mk A20
  clear A20
  by_cases c3 : t117 = 0
  · rw [if_pos c3] at H
    have c3b0 : (t117 == 0) = true := beq_iff_eq.mpr c3
    have c3b1 : (t117 != 0) = false := bne_eq_false_iff_eq.mpr c3
    clear c3
    replace H := Option.bind_eq_some_iff.mp H
    obtain ⟨⟨t118, t119, t120⟩, A40, H⟩ := H
    replace H : (if t120 = 0 then (if 12 + t116.size ≤ 9223372036854775807 then (if ((⟨#[56, 61, 70, 73, 88, 46, 52, 46, 52, 1, 57, 61]⟩ : ByteArray) ++ t116).size + 1 ≤ 9223372036854775807 then (if (((⟨#[56, 61, 70, 73, 88, 46, 52, 46, 52, 1, 57, 61]⟩ : ByteArray) ++ t116) ++ (⟨#[1]⟩ : ByteArray)).size + a0.size ≤ 9223372036854775807 then ((sum_Sum.f ((((⟨#[56, 61, 70, 73, 88, 46, 52, 46, 52, 1, 57, 61]⟩ : ByteArray) ++ t116) ++ (⟨#[1]⟩ : ByteArray)) ++ a0)).bind fun t123 => ((sum_Three.f t123).bind fun bt124 => (if bt124.2 = 0 then (if ((((⟨#[56, 61, 70, 73, 88, 46, 52, 46, 52, 1, 57, 61]⟩ : ByteArray) ++ t116) ++ (⟨#[1]⟩ : ByteArray)) ++ a0).size + 3 ≤ 9223372036854775807 then (if (((((⟨#[56, 61, 70, 73, 88, 46, 52, 46, 52, 1, 57, 61]⟩ : ByteArray) ++ t116) ++ (⟨#[1]⟩ : ByteArray)) ++ a0) ++ (⟨#[49, 48, 61]⟩ : ByteArray)).size + bt124.1.size ≤ 9223372036854775807 then (if ((((((⟨#[56, 61, 70, 73, 88, 46, 52, 46, 52, 1, 57, 61]⟩ : ByteArray) ++ t116) ++ (⟨#[1]⟩ : ByteArray)) ++ a0) ++ (⟨#[49, 48, 61]⟩ : ByteArray)) ++ bt124.1).size + 1 ≤ 9223372036854775807 then (some (((((((⟨#[56, 61, 70, 73, 88, 46, 52, 46, 52, 1, 57, 61]⟩ : ByteArray) ++ t116) ++ (⟨#[1]⟩ : ByteArray)) ++ a0) ++ (⟨#[49, 48, 61]⟩ : ByteArray)) ++ bt124.1) ++ (⟨#[1]⟩ : ByteArray), 0)) else (none)) else (none)) else (none)) else (some ((⟨#[]⟩ : ByteArray), bt124.2))))) else (none)) else (none)) else (none)) else (some ((⟨#[]⟩ : ByteArray), t120))) = some (r1, r2) := H
    have A4 := Aside0.mk A40
    clear A40
    by_cases c5 : t120 = 0
    · rw [if_pos c5] at H
      have c5b0 : (t120 == 0) = true := beq_iff_eq.mpr c5
      have c5b1 : (t120 != 0) = false := bne_eq_false_iff_eq.mpr c5
      clear c5
      by_cases c6 : 12 + t116.size ≤ 9223372036854775807
      · rw [if_pos c6] at H
        have c6b0 := eq_true c6
        have c6b1 : decide (12 + t116.size ≤ 9223372036854775807) = true := decide_eq_true c6
        try have c6b2 : (9223372036854775807 < 12 + t116.size) = False := eq_false (Nat.not_lt.2 c6)
        try (have c6b3 := c6; simp only [ByteArray.size_append, sz_lit, List.length_cons, List.length_nil, Nat.zero_add] at c6b3; have c6b4 := eq_false (Nat.not_lt.2 c6b3))
        by_cases c7 : ((⟨#[56, 61, 70, 73, 88, 46, 52, 46, 52, 1, 57, 61]⟩ : ByteArray) ++ t116).size + 1 ≤ 9223372036854775807
        · rw [if_pos c7] at H
          have c7b0 := eq_true c7
          have c7b1 : decide (((⟨#[56, 61, 70, 73, 88, 46, 52, 46, 52, 1, 57, 61]⟩ : ByteArray) ++ t116).size + 1 ≤ 9223372036854775807) = true := decide_eq_true c7
          try have c7b2 : (9223372036854775807 < ((⟨#[56, 61, 70, 73, 88, 46, 52, 46, 52, 1, 57, 61]⟩ : ByteArray) ++ t116).size + 1) = False := eq_false (Nat.not_lt.2 c7)
          try (have c7b3 := c7; simp only [ByteArray.size_append, sz_lit, List.length_cons, List.length_nil, Nat.zero_add] at c7b3; have c7b4 := eq_false (Nat.not_lt.2 c7b3))
          by_cases c8 : (((⟨#[56, 61, 70, 73, 88, 46, 52, 46, 52, 1, 57, 61]⟩ : ByteArray) ++ t116) ++ (⟨#[1]⟩ : ByteArray)).size + a0.size ≤ 9223372036854775807
          · rw [if_pos c8] at H
            have c8b0 := eq_true c8
            have c8b1 : decide ((((⟨#[56, 61, 70, 73, 88, 46, 52, 46, 52, 1, 57, 61]⟩ : ByteArray) ++ t116) ++ (⟨#[1]⟩ : ByteArray)).size + a0.size ≤ 9223372036854775807) = true := decide_eq_true c8
            try have c8b2 : (9223372036854775807 < (((⟨#[56, 61, 70, 73, 88, 46, 52, 46, 52, 1, 57, 61]⟩ : ByteArray) ++ t116) ++ (⟨#[1]⟩ : ByteArray)).size + a0.size) = False := eq_false (Nat.not_lt.2 c8)
            try (have c8b3 := c8; simp only [ByteArray.size_append, sz_lit, List.length_cons, List.length_nil, Nat.zero_add] at c8b3; have c8b4 := eq_false (Nat.not_lt.2 c8b3))
            replace H := Option.bind_eq_some_iff.mp H
            obtain ⟨t123, A90, H⟩ := H
            replace H : ((sum_Three.f t123).bind fun bt124 => (if bt124.2 = 0 then (if ((((⟨#[56, 61, 70, 73, 88, 46, 52, 46, 52, 1, 57, 61]⟩ : ByteArray) ++ t116) ++ (⟨#[1]⟩ : ByteArray)) ++ a0).size + 3 ≤ 9223372036854775807 then (if (((((⟨#[56, 61, 70, 73, 88, 46, 52, 46, 52, 1, 57, 61]⟩ : ByteArray) ++ t116) ++ (⟨#[1]⟩ : ByteArray)) ++ a0) ++ (⟨#[49, 48, 61]⟩ : ByteArray)).size + bt124.1.size ≤ 9223372036854775807 then (if ((((((⟨#[56, 61, 70, 73, 88, 46, 52, 46, 52, 1, 57, 61]⟩ : ByteArray) ++ t116) ++ (⟨#[1]⟩ : ByteArray)) ++ a0) ++ (⟨#[49, 48, 61]⟩ : ByteArray)) ++ bt124.1).size + 1 ≤ 9223372036854775807 then (some (((((((⟨#[56, 61, 70, 73, 88, 46, 52, 46, 52, 1, 57, 61]⟩ : ByteArray) ++ t116) ++ (⟨#[1]⟩ : ByteArray)) ++ a0) ++ (⟨#[49, 48, 61]⟩ : ByteArray)) ++ bt124.1) ++ (⟨#[1]⟩ : ByteArray), 0)) else (none)) else (none)) else (none)) else (some ((⟨#[]⟩ : ByteArray), bt124.2)))) = some (r1, r2) := H
            have A9 := Aside0.mk A90
            clear A90
            replace H := Option.bind_eq_some_iff.mp H
            obtain ⟨⟨t124, t125⟩, A100, H⟩ := H
            replace H : (if t125 = 0 then (if ((((⟨#[56, 61, 70, 73, 88, 46, 52, 46, 52, 1, 57, 61]⟩ : ByteArray) ++ t116) ++ (⟨#[1]⟩ : ByteArray)) ++ a0).size + 3 ≤ 9223372036854775807 then (if (((((⟨#[56, 61, 70, 73, 88, 46, 52, 46, 52, 1, 57, 61]⟩ : ByteArray) ++ t116) ++ (⟨#[1]⟩ : ByteArray)) ++ a0) ++ (⟨#[49, 48, 61]⟩ : ByteArray)).size + t124.size ≤ 9223372036854775807 then (if ((((((⟨#[56, 61, 70, 73, 88, 46, 52, 46, 52, 1, 57, 61]⟩ : ByteArray) ++ t116) ++ (⟨#[1]⟩ : ByteArray)) ++ a0) ++ (⟨#[49, 48, 61]⟩ : ByteArray)) ++ t124).size + 1 ≤ 9223372036854775807 then (some (((((((⟨#[56, 61, 70, 73, 88, 46, 52, 46, 52, 1, 57, 61]⟩ : ByteArray) ++ t116) ++ (⟨#[1]⟩ : ByteArray)) ++ a0) ++ (⟨#[49, 48, 61]⟩ : ByteArray)) ++ t124) ++ (⟨#[1]⟩ : ByteArray), 0)) else (none)) else (none)) else (none)) else (some ((⟨#[]⟩ : ByteArray), t125))) = some (r1, r2) := H
            have A10 := Aside0.mk A100
            clear A100
            by_cases c11 : t125 = 0
            · rw [if_pos c11] at H
              have c11b0 : (t125 == 0) = true := beq_iff_eq.mpr c11
              have c11b1 : (t125 != 0) = false := bne_eq_false_iff_eq.mpr c11
              clear c11
              by_cases c12 : ((((⟨#[56, 61, 70, 73, 88, 46, 52, 46, 52, 1, 57, 61]⟩ : ByteArray) ++ t116) ++ (⟨#[1]⟩ : ByteArray)) ++ a0).size + 3 ≤ 9223372036854775807
              · rw [if_pos c12] at H
                have c12b0 := eq_true c12
                have c12b1 : decide (((((⟨#[56, 61, 70, 73, 88, 46, 52, 46, 52, 1, 57, 61]⟩ : ByteArray) ++ t116) ++ (⟨#[1]⟩ : ByteArray)) ++ a0).size + 3 ≤ 9223372036854775807) = true := decide_eq_true c12
                try have c12b2 : (9223372036854775807 < ((((⟨#[56, 61, 70, 73, 88, 46, 52, 46, 52, 1, 57, 61]⟩ : ByteArray) ++ t116) ++ (⟨#[1]⟩ : ByteArray)) ++ a0).size + 3) = False := eq_false (Nat.not_lt.2 c12)
                try (have c12b3 := c12; simp only [ByteArray.size_append, sz_lit, List.length_cons, List.length_nil, Nat.zero_add] at c12b3; have c12b4 := eq_false (Nat.not_lt.2 c12b3))
                by_cases c13 : (((((⟨#[56, 61, 70, 73, 88, 46, 52, 46, 52, 1, 57, 61]⟩ : ByteArray) ++ t116) ++ (⟨#[1]⟩ : ByteArray)) ++ a0) ++ (⟨#[49, 48, 61]⟩ : ByteArray)).size + t124.size ≤ 9223372036854775807
                · rw [if_pos c13] at H
                  have c13b0 := eq_true c13
                  have c13b1 : decide ((((((⟨#[56, 61, 70, 73, 88, 46, 52, 46, 52, 1, 57, 61]⟩ : ByteArray) ++ t116) ++ (⟨#[1]⟩ : ByteArray)) ++ a0) ++ (⟨#[49, 48, 61]⟩ : ByteArray)).size + t124.size ≤ 9223372036854775807) = true := decide_eq_true c13
                  try have c13b2 : (9223372036854775807 < (((((⟨#[56, 61, 70, 73, 88, 46, 52, 46, 52, 1, 57, 61]⟩ : ByteArray) ++ t116) ++ (⟨#[1]⟩ : ByteArray)) ++ a0) ++ (⟨#[49, 48, 61]⟩ : ByteArray)).size + t124.size) = False := eq_false (Nat.not_lt.2 c13)
                  try (have c13b3 := c13; simp only [ByteArray.size_append, sz_lit, List.length_cons, List.length_nil, Nat.zero_add] at c13b3; have c13b4 := eq_false (Nat.not_lt.2 c13b3))
                  by_cases c14 : ((((((⟨#[56, 61, 70, 73, 88, 46, 52, 46, 52, 1, 57, 61]⟩ : ByteArray) ++ t116) ++ (⟨#[1]⟩ : ByteArray)) ++ a0) ++ (⟨#[49, 48, 61]⟩ : ByteArray)) ++ t124).size + 1 ≤ 9223372036854775807
                  · rw [if_pos c14] at H
                    have c14b0 := eq_true c14
                    have c14b1 : decide (((((((⟨#[56, 61, 70, 73, 88, 46, 52, 46, 52, 1, 57, 61]⟩ : ByteArray) ++ t116) ++ (⟨#[1]⟩ : ByteArray)) ++ a0) ++ (⟨#[49, 48, 61]⟩ : ByteArray)) ++ t124).size + 1 ≤ 9223372036854775807) = true := decide_eq_true c14
                    try have c14b2 : (9223372036854775807 < ((((((⟨#[56, 61, 70, 73, 88, 46, 52, 46, 52, 1, 57, 61]⟩ : ByteArray) ++ t116) ++ (⟨#[1]⟩ : ByteArray)) ++ a0) ++ (⟨#[49, 48, 61]⟩ : ByteArray)) ++ t124).size + 1) = False := eq_false (Nat.not_lt.2 c14)
                    try (have c14b3 := c14; simp only [ByteArray.size_append, sz_lit, List.length_cons, List.length_nil, Nat.zero_add] at c14b3; have c14b4 := eq_false (Nat.not_lt.2 c14b3))
                    simp only [Option.some.injEq, Prod.mk.injEq] at H
                    obtain ⟨rfl, rfl⟩ := H
                    go_enter Tryd.func10, Tryd.ntmps10
                    go_wp2_with (first | ((with_reducible refine gate_callee (f := 19) rfl ?_); refine goesL_ (some 14) rfl rfl Tryd.func19 (by kernel_rfl) rfl #[.int .i64 (a0.size : Int)] rfl (by (try simp only [List.map_toArray, List.map_cons, List.map_nil]); first | done | rfl | (simp only [List.length_drop, List.length_take]; rfl)) ?_; (with_reducible refine (sum_Length.calls (a0.size : Int) t116 t117 _ ?side1 A2.out).mono ?_); (case side1 => exact Aside0.mk (Tabs_.below hT_.out (by repeat (first | (with_reducible first | exact HB.out | apply below_alloc | apply pw_below_drewN | apply below_drew1) | exact HB.out)))); rintro e w15 ⟨rfl, hb⟩; refine ⟨_, rfl, ?_⟩; have n0_ := Aside0.mk (below_step (by repeat (first | (with_reducible first | exact HB.out | apply below_alloc | apply pw_below_drewN | apply below_drew1) | exact HB.out)) hb); clear HB; have HB := n0_; clear n0_; (try clear hb); (try clear hb2); (try clear hk); (try clear hi)) | ((with_reducible refine gate_callee (f := 20) rfl ?_); refine goesL_ (some 21) rfl rfl Tryd.func20 (by kernel_rfl) rfl #[.string a0] rfl (by (try simp only [List.map_toArray, List.map_cons, List.map_nil]); first | done | rfl | (simp only [List.length_drop, List.length_take]; rfl)) ?_; (with_reducible refine (tag_Fields.calls a0 t118 t119 t120 _ A4.out).mono ?_); rintro e w16 ⟨v121, rfl, ho0, hb⟩; refine ⟨_, rfl, ?_⟩; have n0_ := Aside0.mk (Kd.R_lower ho0 (below_size (by repeat (first | (with_reducible first | exact HB.out | apply below_alloc | apply pw_below_drewN | apply below_drew1) | exact HB.out)))); have n1_ := Aside0.mk (below_step (by repeat (first | (with_reducible first | exact HB.out | apply below_alloc | apply pw_below_drewN | apply below_drew1) | exact HB.out)) hb); clear HB; have HO122 := n0_; have HB := n1_; clear n0_ n1_; (try clear hb); (try clear hb2); (try clear hk); (try clear hi); (try clear ho0)) | ((with_reducible refine gate_callee (f := 22) rfl ?_); refine goesL_ (some 35) rfl rfl Tryd.func22 (by kernel_rfl) rfl #[.string ((((⟨#[56, 61, 70, 73, 88, 46, 52, 46, 52, 1, 57, 61]⟩ : ByteArray) ++ t116) ++ (⟨#[1]⟩ : ByteArray)) ++ a0)] rfl (by (try simp only [List.map_toArray, List.map_cons, List.map_nil]); first | done | rfl | (simp only [List.length_drop, List.length_take]; rfl)) ?_; (with_reducible refine (sum_Sum.calls ((((⟨#[56, 61, 70, 73, 88, 46, 52, 46, 52, 1, 57, 61]⟩ : ByteArray) ++ t116) ++ (⟨#[1]⟩ : ByteArray)) ++ a0) t123 _ A9.out).mono ?_); rintro e w' ⟨rfl, ⟨nd, rfl⟩⟩; refine ⟨_, rfl, ?_⟩) | ((with_reducible refine gate_callee (f := 21) rfl ?_); refine goesL_ (some 36) rfl rfl Tryd.func21 (by kernel_rfl) rfl #[.int .i64 t123] rfl (by (try simp only [List.map_toArray, List.map_cons, List.map_nil]); first | done | rfl | (simp only [List.length_drop, List.length_take]; rfl)) ?_; (with_reducible refine (sum_Three.calls t123 t124 t125 _ A10.out).mono ?_); rintro e w17 ⟨rfl, hb⟩; refine ⟨_, rfl, ?_⟩; have n0_ := Aside0.mk (Kd.R_below (by (with_reducible repeat (first | apply Kd.R_alloc | apply Kd.R_drewN | apply Kd.R_drew)); exact HO122.out) hb); have n1_ := Aside0.mk (below_step (by repeat (first | (with_reducible first | exact HB.out | apply below_alloc | apply pw_below_drewN | apply below_drew1) | exact HB.out)) hb); clear HO122; clear HB; have HO122 := n0_; have HB := n1_; clear n0_ n1_; (try clear hb); (try clear hb2); (try clear hk); (try clear hi)))
                    go_ret2
                    exact ⟨by first | rfl | (simp [errW_none, errW_some] <;> rfl) | (simp [*, errW_none, errW_some] <;> rfl), by repeat (first | (with_reducible first | exact HB.out | apply below_alloc | apply pw_below_drewN | apply below_drew1) | exact HB.out)⟩
                  · rw [if_neg c14] at H
                    exact absurd H (by simp)
                · rw [if_neg c13] at H
                  exact absurd H (by simp)
              · rw [if_neg c12] at H
                exact absurd H (by simp)
            · rw [if_neg c11] at H
              have c11b0 : (t125 == 0) = false := beq_eq_false_iff_ne.mpr c11
              have c11b1 : (t125 != 0) = true := bne_iff_ne.mpr c11
              simp only [Option.some.injEq, Prod.mk.injEq] at H
              obtain ⟨rfl, rfl⟩ := H
              go_enter Tryd.func10, Tryd.ntmps10
              go_wp2_with (first | ((with_reducible refine gate_callee (f := 19) rfl ?_); refine goesL_ (some 14) rfl rfl Tryd.func19 (by kernel_rfl) rfl #[.int .i64 (a0.size : Int)] rfl (by (try simp only [List.map_toArray, List.map_cons, List.map_nil]); first | done | rfl | (simp only [List.length_drop, List.length_take]; rfl)) ?_; (with_reducible refine (sum_Length.calls (a0.size : Int) t116 t117 _ ?side1 A2.out).mono ?_); (case side1 => exact Aside0.mk (Tabs_.below hT_.out (by repeat (first | (with_reducible first | exact HB.out | apply below_alloc | apply pw_below_drewN | apply below_drew1) | exact HB.out)))); rintro e w18 ⟨rfl, hb⟩; refine ⟨_, rfl, ?_⟩; have n0_ := Aside0.mk (below_step (by repeat (first | (with_reducible first | exact HB.out | apply below_alloc | apply pw_below_drewN | apply below_drew1) | exact HB.out)) hb); clear HB; have HB := n0_; clear n0_; (try clear hb); (try clear hb2); (try clear hk); (try clear hi)) | ((with_reducible refine gate_callee (f := 20) rfl ?_); refine goesL_ (some 21) rfl rfl Tryd.func20 (by kernel_rfl) rfl #[.string a0] rfl (by (try simp only [List.map_toArray, List.map_cons, List.map_nil]); first | done | rfl | (simp only [List.length_drop, List.length_take]; rfl)) ?_; (with_reducible refine (tag_Fields.calls a0 t118 t119 t120 _ A4.out).mono ?_); rintro e w19 ⟨v121, rfl, ho0, hb⟩; refine ⟨_, rfl, ?_⟩; have n0_ := Aside0.mk (Kd.R_lower ho0 (below_size (by repeat (first | (with_reducible first | exact HB.out | apply below_alloc | apply pw_below_drewN | apply below_drew1) | exact HB.out)))); have n1_ := Aside0.mk (below_step (by repeat (first | (with_reducible first | exact HB.out | apply below_alloc | apply pw_below_drewN | apply below_drew1) | exact HB.out)) hb); clear HB; have HO122 := n0_; have HB := n1_; clear n0_ n1_; (try clear hb); (try clear hb2); (try clear hk); (try clear hi); (try clear ho0)) | ((with_reducible refine gate_callee (f := 22) rfl ?_); refine goesL_ (some 35) rfl rfl Tryd.func22 (by kernel_rfl) rfl #[.string ((((⟨#[56, 61, 70, 73, 88, 46, 52, 46, 52, 1, 57, 61]⟩ : ByteArray) ++ t116) ++ (⟨#[1]⟩ : ByteArray)) ++ a0)] rfl (by (try simp only [List.map_toArray, List.map_cons, List.map_nil]); first | done | rfl | (simp only [List.length_drop, List.length_take]; rfl)) ?_; (with_reducible refine (sum_Sum.calls ((((⟨#[56, 61, 70, 73, 88, 46, 52, 46, 52, 1, 57, 61]⟩ : ByteArray) ++ t116) ++ (⟨#[1]⟩ : ByteArray)) ++ a0) t123 _ A9.out).mono ?_); rintro e w' ⟨rfl, ⟨nd, rfl⟩⟩; refine ⟨_, rfl, ?_⟩) | ((with_reducible refine gate_callee (f := 21) rfl ?_); refine goesL_ (some 36) rfl rfl Tryd.func21 (by kernel_rfl) rfl #[.int .i64 t123] rfl (by (try simp only [List.map_toArray, List.map_cons, List.map_nil]); first | done | rfl | (simp only [List.length_drop, List.length_take]; rfl)) ?_; (with_reducible refine (sum_Three.calls t123 t124 t125 _ A10.out).mono ?_); rintro e w20 ⟨rfl, hb⟩; refine ⟨_, rfl, ?_⟩; have n0_ := Aside0.mk (Kd.R_below (by (with_reducible repeat (first | apply Kd.R_alloc | apply Kd.R_drewN | apply Kd.R_drew)); exact HO122.out) hb); have n1_ := Aside0.mk (below_step (by repeat (first | (with_reducible first | exact HB.out | apply below_alloc | apply pw_below_drewN | apply below_drew1) | exact HB.out)) hb); clear HO122; clear HB; have HO122 := n0_; have HB := n1_; clear n0_ n1_; (try clear hb); (try clear hb2); (try clear hk); (try clear hi)))
              go_ret2
              exact ⟨by first | rfl | (simp [errW_none, errW_some] <;> rfl) | (simp [*, errW_none, errW_some] <;> rfl), by repeat (first | (with_reducible first | exact HB.out | apply below_alloc | apply pw_below_drewN | apply below_drew1) | exact HB.out)⟩
          · rw [if_neg c8] at H
            exact absurd H (by simp)
        · rw [if_neg c7] at H
          exact absurd H (by simp)
      · rw [if_neg c6] at H
        exact absurd H (by simp)
    · rw [if_neg c5] at H
      have c5b0 : (t120 == 0) = false := beq_eq_false_iff_ne.mpr c5
      have c5b1 : (t120 != 0) = true := bne_iff_ne.mpr c5
      simp only [Option.some.injEq, Prod.mk.injEq] at H
      obtain ⟨rfl, rfl⟩ := H
      go_enter Tryd.func10, Tryd.ntmps10
      go_wp2_with (first | ((with_reducible refine gate_callee (f := 19) rfl ?_); refine goesL_ (some 14) rfl rfl Tryd.func19 (by kernel_rfl) rfl #[.int .i64 (a0.size : Int)] rfl (by (try simp only [List.map_toArray, List.map_cons, List.map_nil]); first | done | rfl | (simp only [List.length_drop, List.length_take]; rfl)) ?_; (with_reducible refine (sum_Length.calls (a0.size : Int) t116 t117 _ ?side1 A2.out).mono ?_); (case side1 => exact Aside0.mk (Tabs_.below hT_.out (by repeat (first | (with_reducible first | exact HB.out | apply below_alloc | apply pw_below_drewN | apply below_drew1) | exact HB.out)))); rintro e w21 ⟨rfl, hb⟩; refine ⟨_, rfl, ?_⟩; have n0_ := Aside0.mk (below_step (by repeat (first | (with_reducible first | exact HB.out | apply below_alloc | apply pw_below_drewN | apply below_drew1) | exact HB.out)) hb); clear HB; have HB := n0_; clear n0_; (try clear hb); (try clear hb2); (try clear hk); (try clear hi)) | ((with_reducible refine gate_callee (f := 20) rfl ?_); refine goesL_ (some 21) rfl rfl Tryd.func20 (by kernel_rfl) rfl #[.string a0] rfl (by (try simp only [List.map_toArray, List.map_cons, List.map_nil]); first | done | rfl | (simp only [List.length_drop, List.length_take]; rfl)) ?_; (with_reducible refine (tag_Fields.calls a0 t118 t119 t120 _ A4.out).mono ?_); rintro e w22 ⟨v121, rfl, ho0, hb⟩; refine ⟨_, rfl, ?_⟩; have n0_ := Aside0.mk (Kd.R_lower ho0 (below_size (by repeat (first | (with_reducible first | exact HB.out | apply below_alloc | apply pw_below_drewN | apply below_drew1) | exact HB.out)))); have n1_ := Aside0.mk (below_step (by repeat (first | (with_reducible first | exact HB.out | apply below_alloc | apply pw_below_drewN | apply below_drew1) | exact HB.out)) hb); clear HB; have HO122 := n0_; have HB := n1_; clear n0_ n1_; (try clear hb); (try clear hb2); (try clear hk); (try clear hi); (try clear ho0)))
      go_ret2
      exact ⟨by first | rfl | (simp [errW_none, errW_some] <;> rfl) | (simp [*, errW_none, errW_some] <;> rfl), by repeat (first | (with_reducible first | exact HB.out | apply below_alloc | apply pw_below_drewN | apply below_drew1) | exact HB.out)⟩
  · rw [if_neg c3] at H
    have c3b0 : (t117 == 0) = false := beq_eq_false_iff_ne.mpr c3
    have c3b1 : (t117 != 0) = true := bne_iff_ne.mpr c3
    simp only [Option.some.injEq, Prod.mk.injEq] at H
    obtain ⟨rfl, rfl⟩ := H
    go_enter Tryd.func10, Tryd.ntmps10
    go_wp2_with (first | ((with_reducible refine gate_callee (f := 19) rfl ?_); refine goesL_ (some 14) rfl rfl Tryd.func19 (by kernel_rfl) rfl #[.int .i64 (a0.size : Int)] rfl (by (try simp only [List.map_toArray, List.map_cons, List.map_nil]); first | done | rfl | (simp only [List.length_drop, List.length_take]; rfl)) ?_; (with_reducible refine (sum_Length.calls (a0.size : Int) t116 t117 _ ?side1 A2.out).mono ?_); (case side1 => exact Aside0.mk (Tabs_.below hT_.out (by repeat (first | (with_reducible first | exact HB.out | apply below_alloc | apply pw_below_drewN | apply below_drew1) | exact HB.out)))); rintro e w23 ⟨rfl, hb⟩; refine ⟨_, rfl, ?_⟩; have n0_ := Aside0.mk (below_step (by repeat (first | (with_reducible first | exact HB.out | apply below_alloc | apply pw_below_drewN | apply below_drew1) | exact HB.out)) hb); clear HB; have HB := n0_; clear n0_; (try clear hb); (try clear hb2); (try clear hk); (try clear hi)))
    go_ret2
    exact ⟨by first | rfl | (simp [errW_none, errW_some] <;> rfl) | (simp [*, errW_none, errW_some] <;> rfl), by repeat (first | (with_reducible first | exact HB.out | apply below_alloc | apply pw_below_drewN | apply below_drew1) | exact HB.out)⟩
/-! ### wire_Seal: function 10 -/
theorem wire_Seal_eq (a0 : ByteArray) : wire_Seal_p.f a0 = some (sealB a0) := by
  unfold wire_Seal_p.f sum_Length.f sealB
  by_cases c : 1 ≤ a0.size ∧ a0.size ≤ 4096
  · rw [if_pos c, if_neg (by omega), if_neg (by omega)]
    unfold strconv_Itoa.f
    rw [if_pos (by omega)]
    simp only [Option.bind_some, if_true]
    unfold tag_Fields.f; rw [if_pos (by unfold big; omega)]; simp only [Option.bind_some]
    by_cases e : (fieldsL a0.data.toList 0 0).2.2 = 0
    · have hz := digitsB_20 (a0.size : Int) (by omega)
      have hd : (digitsB (a0.size : Int)).data.toList = digitsN a0.size := by rw [digitsB_list, Int.toNat_natCast]
      rw [e]
      simp only [ByteArray.size_append, show (⟨#[56, 61, 70, 73, 88, 46, 52, 46, 52, 1, 57, 61]⟩ : ByteArray).size = 12 from rfl, show (⟨#[1]⟩ : ByteArray).size = 1 from rfl, show (⟨#[49, 48, 61]⟩ : ByteArray).size = 3 from rfl]
      rw [if_pos (by rfl), if_pos (by omega), if_pos (by omega), if_pos (by omega)]
      unfold sum_Sum.f
      rw [if_pos (by simp only [ByteArray.size_append, show (⟨#[56, 61, 70, 73, 88, 46, 52, 46, 52, 1, 57, 61]⟩ : ByteArray).size = 12 from rfl, show (⟨#[1]⟩ : ByteArray).size = 1 from rfl]; unfold big; omega)]
      simp only [Option.bind_some]
      have hm : bsum (begL ++ (digitsN a0.data.toList.length ++ 1 :: a0.data.toList)) % 256 < 256 := Nat.mod_lt _ (by decide)
      have hsum : sumOf ((((⟨#[56, 61, 70, 73, 88, 46, 52, 46, 52, 1, 57, 61]⟩ : ByteArray) ++ digitsB (a0.size : Int)) ++ (⟨#[1]⟩ : ByteArray)) ++ a0) = ((bsum (begL ++ (digitsN a0.data.toList.length ++ 1 :: a0.data.toList)) % 256 : Nat) : Int) := by
        unfold sumOf; rw [head_list a0 _ hd]
      rw [hsum]
      have hu := three_list _ hm
      have hmsg := msg_list a0 (digitsB (a0.size : Int)) _ hd hu
      unfold sum_Three.f threeOf
      rw [if_pos (by omega)]
      simp only [Option.bind_some, if_true]
      have h3 : (strOfNums [48 + ((bsum (begL ++ (digitsN a0.data.toList.length ++ 1 :: a0.data.toList)) % 256 : Nat) : Int) / 100, 48 + ((bsum (begL ++ (digitsN a0.data.toList.length ++ 1 :: a0.data.toList)) % 256 : Nat) : Int) / 10 % 10, 48 + ((bsum (begL ++ (digitsN a0.data.toList.length ++ 1 :: a0.data.toList)) % 256 : Nat) : Int) % 10]).size = 3 := rfl
      rw [h3, if_pos (by omega), if_pos (by omega), if_pos (by omega), hmsg]
    · rw [if_neg (by omega), if_neg e]
  · rw [if_neg c]
    by_cases c1 : (a0.size : Int) < 1
    · rw [if_pos c1]; simp
    · rw [if_neg c1, if_pos (by omega)]; simp
def wire_Seal.f (a0 : ByteArray) : Option (ByteArray × Int) := some (sealB a0)
theorem wire_Seal.calls (a0 : ByteArray) (r1 : ByteArray) (r2 : Int) (w : World) (hT_ : Aside0 (Tabs_ w)) (h : wire_Seal.f a0 = some (r1, r2)) :
    Calls Tryd.prog 10 #[.string a0] w fun e w' => e = .returned (.tuple #[.string r1, .int .i64 r2]) ∧ Below w.heap.size w w' :=
  wire_Seal_p.calls a0 r1 r2 w hT_ ((wire_Seal_eq a0).trans h)

end Go.Proofs.YtgknfdjfgemceaaDoor.Q
