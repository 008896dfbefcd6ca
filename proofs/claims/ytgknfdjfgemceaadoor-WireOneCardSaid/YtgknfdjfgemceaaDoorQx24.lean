/- Each Go function that the laws of this seat reach, as a plain Lean function, and its contract: the machine's call does what that function says. -/
import Derived.Test.YtgknfdjfgemceaaDoorQx0
import Derived.Test.YtgknfdjfgemceaaDoorQx1
import Derived.Test.YtgknfdjfgemceaaDoorQx10
import Derived.Test.YtgknfdjfgemceaaDoorQx21
import Derived.Test.YtgknfdjfgemceaaDoorQx22
import Derived.Test.YtgknfdjfgemceaaDoorQx23
namespace Go.Proofs.YtgknfdjfgemceaaDoor.Q
open Go.RowKit Go.Proofs.YtgknfdjfgemceaaDoorW.PrintWords Go.Proofs.YtgknfdjfgemceaaDoorW.PrintLast Go.Proofs.YtgknfdjfgemceaaDoorW.PrintMore
attribute [local go_sem] max2_int min2_int max_two min_two max_three min_three max_four min_four   -- for this text's walks alone
set_option linter.unusedVariables false
set_option linter.unusedSimpArgs false

--PART
/-! ### spigotref10_Form_p: function 24 -/
def spigotref10_Form_p.f (a0 : ByteArray) : Option (ByteArray) := (spigotref08_Digits.f (a0.size : Int)).bind fun t149 => (if 12 + t149.size ≤ 9223372036854775807 then (if ((⟨#[56, 61, 70, 73, 88, 46, 52, 46, 52, 1, 57, 61]⟩ : ByteArray) ++ t149).size + 1 ≤ 9223372036854775807 then (if (((⟨#[56, 61, 70, 73, 88, 46, 52, 46, 52, 1, 57, 61]⟩ : ByteArray) ++ t149) ++ (⟨#[1]⟩ : ByteArray)).size + a0.size ≤ 9223372036854775807 then (if ((((⟨#[56, 61, 70, 73, 88, 46, 52, 46, 52, 1, 57, 61]⟩ : ByteArray) ++ t149) ++ (⟨#[1]⟩ : ByteArray)) ++ a0).size + 3 ≤ 9223372036854775807 then ((spigotref09_Sum.f ((((⟨#[56, 61, 70, 73, 88, 46, 52, 46, 52, 1, 57, 61]⟩ : ByteArray) ++ t149) ++ (⟨#[1]⟩ : ByteArray)) ++ a0)).bind fun t150 => ((spigotref09_Three.f t150).bind fun t151 => (if (((((⟨#[56, 61, 70, 73, 88, 46, 52, 46, 52, 1, 57, 61]⟩ : ByteArray) ++ t149) ++ (⟨#[1]⟩ : ByteArray)) ++ a0) ++ (⟨#[49, 48, 61]⟩ : ByteArray)).size + t151.size ≤ 9223372036854775807 then (if ((((((⟨#[56, 61, 70, 73, 88, 46, 52, 46, 52, 1, 57, 61]⟩ : ByteArray) ++ t149) ++ (⟨#[1]⟩ : ByteArray)) ++ a0) ++ (⟨#[49, 48, 61]⟩ : ByteArray)) ++ t151).size + 1 ≤ 9223372036854775807 then (some (((((((⟨#[56, 61, 70, 73, 88, 46, 52, 46, 52, 1, 57, 61]⟩ : ByteArray) ++ t149) ++ (⟨#[1]⟩ : ByteArray)) ++ a0) ++ (⟨#[49, 48, 61]⟩ : ByteArray)) ++ t151) ++ (⟨#[1]⟩ : ByteArray))) else (none)) else (none)))) else (none)) else (none)) else (none)) else (none))
set_option maxHeartbeats 8000000 in
set_option maxRecDepth 100000 in
theorem spigotref10_Form_p.calls (a0 : ByteArray) (r : ByteArray) (w : World) (h : spigotref10_Form_p.f a0 = some r) :
    Calls Tryd.prog 24 #[.string a0] w fun e w' => e = .returned (.string r) ∧ Below w.heap.size w w' := by
  have HB := Aside0.mk (Below.refl w.heap.size w)
  have H : ((spigotref08_Digits.f (a0.size : Int)).bind fun t149 => (if 12 + t149.size ≤ 9223372036854775807 then (if ((⟨#[56, 61, 70, 73, 88, 46, 52, 46, 52, 1, 57, 61]⟩ : ByteArray) ++ t149).size + 1 ≤ 9223372036854775807 then (if (((⟨#[56, 61, 70, 73, 88, 46, 52, 46, 52, 1, 57, 61]⟩ : ByteArray) ++ t149) ++ (⟨#[1]⟩ : ByteArray)).size + a0.size ≤ 9223372036854775807 then (if ((((⟨#[56, 61, 70, 73, 88, 46, 52, 46, 52, 1, 57, 61]⟩ : ByteArray) ++ t149) ++ (⟨#[1]⟩ : ByteArray)) ++ a0).size + 3 ≤ 9223372036854775807 then ((spigotref09_Sum.f ((((⟨#[56, 61, 70, 73, 88, 46, 52, 46, 52, 1, 57, 61]⟩ : ByteArray) ++ t149) ++ (⟨#[1]⟩ : ByteArray)) ++ a0)).bind fun t150 => ((spigotref09_Three.f t150).bind fun t151 => (if (((((⟨#[56, 61, 70, 73, 88, 46, 52, 46, 52, 1, 57, 61]⟩ : ByteArray) ++ t149) ++ (⟨#[1]⟩ : ByteArray)) ++ a0) ++ (⟨#[49, 48, 61]⟩ : ByteArray)).size + t151.size ≤ 9223372036854775807 then (if ((((((⟨#[56, 61, 70, 73, 88, 46, 52, 46, 52, 1, 57, 61]⟩ : ByteArray) ++ t149) ++ (⟨#[1]⟩ : ByteArray)) ++ a0) ++ (⟨#[49, 48, 61]⟩ : ByteArray)) ++ t151).size + 1 ≤ 9223372036854775807 then (some (((((((⟨#[56, 61, 70, 73, 88, 46, 52, 46, 52, 1, 57, 61]⟩ : ByteArray) ++ t149) ++ (⟨#[1]⟩ : ByteArray)) ++ a0) ++ (⟨#[49, 48, 61]⟩ : ByteArray)) ++ t151) ++ (⟨#[1]⟩ : ByteArray))) else (none)) else (none)))) else (none)) else (none)) else (none)) else (none))) = some r := h
  clear h
  replace H := Option.bind_eq_some_iff.mp H
  obtain ⟨t149, A20, H⟩ := H
  replace H : (if 12 + t149.size ≤ 9223372036854775807 then (if ((⟨#[56, 61, 70, 73, 88, 46, 52, 46, 52, 1, 57, 61]⟩ : ByteArray) ++ t149).size + 1 ≤ 9223372036854775807 then (if (((⟨#[56, 61, 70, 73, 88, 46, 52, 46, 52, 1, 57, 61]⟩ : ByteArray) ++ t149) ++ (⟨#[1]⟩ : ByteArray)).size + a0.size ≤ 9223372036854775807 then (if ((((⟨#[56, 61, 70, 73, 88, 46, 52, 46, 52, 1, 57, 61]⟩ : ByteArray) ++ t149) ++ (⟨#[1]⟩ : ByteArray)) ++ a0).size + 3 ≤ 9223372036854775807 then ((spigotref09_Sum.f ((((⟨#[56, 61, 70, 73, 88, 46, 52, 46, 52, 1, 57, 61]⟩ : ByteArray) ++ t149) ++ (⟨#[1]⟩ : ByteArray)) ++ a0)).bind fun t150 => ((spigotref09_Three.f t150).bind fun t151 => (if (((((⟨#[56, 61, 70, 73, 88, 46, 52, 46, 52, 1, 57, 61]⟩ : ByteArray) ++ t149) ++ (⟨#[1]⟩ : ByteArray)) ++ a0) ++ (⟨#[49, 48, 61]⟩ : ByteArray)).size + t151.size ≤ 9223372036854775807 then (if ((((((⟨#[56, 61, 70, 73, 88, 46, 52, 46, 52, 1, 57, 61]⟩ : ByteArray) ++ t149) ++ (⟨#[1]⟩ : ByteArray)) ++ a0) ++ (⟨#[49, 48, 61]⟩ : ByteArray)) ++ t151).size + 1 ≤ 9223372036854775807 then (some (((((((⟨#[56, 61, 70, 73, 88, 46, 52, 46, 52, 1, 57, 61]⟩ : ByteArray) ++ t149) ++ (⟨#[1]⟩ : ByteArray)) ++ a0) ++ (⟨#[49, 48, 61]⟩ : ByteArray)) ++ t151) ++ (⟨#[1]⟩ : ByteArray))) else (none)) else (none)))) else (none)) else (none)) else (none)) else (none)) = some r := H
  have A2 := Aside0.mk A20
  clear A20
  by_cases c3 : 12 + t149.size ≤ 9223372036854775807
  · rw [if_pos c3] at H
    have c3b0 := eq_true c3
    have c3b1 : decide (12 + t149.size ≤ 9223372036854775807) = true := decide_eq_true c3
    try have c3b2 : (9223372036854775807 < 12 + t149.size) = False := eq_false (Nat.not_lt.2 c3)
    try (have c3b3 := c3; simp only [ByteArray.size_append, sz_lit, List.length_cons, List.length_nil, Nat.zero_add] at c3b3; have c3b4 := eq_false (Nat.not_lt.2 c3b3))
    by_cases c4 : ((⟨#[56, 61, 70, 73, 88, 46, 52, 46, 52, 1, 57, 61]⟩ : ByteArray) ++ t149).size + 1 ≤ 9223372036854775807
    · rw [if_pos c4] at H
      have c4b0 := eq_true c4
      have c4b1 : decide (((⟨#[56, 61, 70, 73, 88, 46, 52, 46, 52, 1, 57, 61]⟩ : ByteArray) ++ t149).size + 1 ≤ 9223372036854775807) = true := decide_eq_true c4
      try have c4b2 : (9223372036854775807 < ((⟨#[56, 61, 70, 73, 88, 46, 52, 46, 52, 1, 57, 61]⟩ : ByteArray) ++ t149).size + 1) = False := eq_false (Nat.not_lt.2 c4)
      try (have c4b3 := c4; simp only [ByteArray.size_append, sz_lit, List.length_cons, List.length_nil, Nat.zero_add] at c4b3; have c4b4 := eq_false (Nat.not_lt.2 c4b3))
      by_cases c5 : (((⟨#[56, 61, 70, 73, 88, 46, 52, 46, 52, 1, 57, 61]⟩ : ByteArray) ++ t149) ++ (⟨#[1]⟩ : ByteArray)).size + a0.size ≤ 9223372036854775807
      · rw [if_pos c5] at H
        have c5b0 := eq_true c5
        have c5b1 : decide ((((⟨#[56, 61, 70, 73, 88, 46, 52, 46, 52, 1, 57, 61]⟩ : ByteArray) ++ t149) ++ (⟨#[1]⟩ : ByteArray)).size + a0.size ≤ 9223372036854775807) = true := decide_eq_true c5
        try have c5b2 : (9223372036854775807 < (((⟨#[56, 61, 70, 73, 88, 46, 52, 46, 52, 1, 57, 61]⟩ : ByteArray) ++ t149) ++ (⟨#[1]⟩ : ByteArray)).size + a0.size) = False := eq_false (Nat.not_lt.2 c5)
        try (have c5b3 := c5; simp only [ByteArray.size_append, sz_lit, List.length_cons, List.length_nil, Nat.zero_add] at c5b3; have c5b4 := eq_false (Nat.not_lt.2 c5b3))
        by_cases c6 : ((((⟨#[56, 61, 70, 73, 88, 46, 52, 46, 52, 1, 57, 61]⟩ : ByteArray) ++ t149) ++ (⟨#[1]⟩ : ByteArray)) ++ a0).size + 3 ≤ 9223372036854775807
        · rw [if_pos c6] at H
          have c6b0 := eq_true c6
          have c6b1 : decide (((((⟨#[56, 61, 70, 73, 88, 46, 52, 46, 52, 1, 57, 61]⟩ : ByteArray) ++ t149) ++ (⟨#[1]⟩ : ByteArray)) ++ a0).size + 3 ≤ 9223372036854775807) = true := decide_eq_true c6
          try have c6b2 : (9223372036854775807 < ((((⟨#[56, 61, 70, 73, 88, 46, 52, 46, 52, 1, 57, 61]⟩ : ByteArray) ++ t149) ++ (⟨#[1]⟩ : ByteArray)) ++ a0).size + 3) = False := eq_false (Nat.not_lt.2 c6)
          try (have c6b3 := c6; simp only [ByteArray.size_append, sz_lit, List.length_cons, List.length_nil, Nat.zero_add] at c6b3; have c6b4 := eq_false (Nat.not_lt.2 c6b3))
          replace H := Option.bind_eq_some_iff.mp H
          obtain ⟨t150, A70, H⟩ := H
          replace H : ((spigotref09_Three.f t150).bind fun t151 => (if (((((⟨#[56, 61, 70, 73, 88, 46, 52, 46, 52, 1, 57, 61]⟩ : ByteArray) ++ t149) ++ (⟨#[1]⟩ : ByteArray)) ++ a0) ++ (⟨#[49, 48, 61]⟩ : ByteArray)).size + t151.size ≤ 9223372036854775807 then (if ((((((⟨#[56, 61, 70, 73, 88, 46, 52, 46, 52, 1, 57, 61]⟩ : ByteArray) ++ t149) ++ (⟨#[1]⟩ : ByteArray)) ++ a0) ++ (⟨#[49, 48, 61]⟩ : ByteArray)) ++ t151).size + 1 ≤ 9223372036854775807 then (some (((((((⟨#[56, 61, 70, 73, 88, 46, 52, 46, 52, 1, 57, 61]⟩ : ByteArray) ++ t149) ++ (⟨#[1]⟩ : ByteArray)) ++ a0) ++ (⟨#[49, 48, 61]⟩ : ByteArray)) ++ t151) ++ (⟨#[1]⟩ : ByteArray))) else (none)) else (none))) = some r := H
          have A7 := Aside0.mk A70
          clear A70
          replace H := Option.bind_eq_some_iff.mp H
          obtain ⟨t151, A80, H⟩ := H
          replace H : (if (((((⟨#[56, 61, 70, 73, 88, 46, 52, 46, 52, 1, 57, 61]⟩ : ByteArray) ++ t149) ++ (⟨#[1]⟩ : ByteArray)) ++ a0) ++ (⟨#[49, 48, 61]⟩ : ByteArray)).size + t151.size ≤ 9223372036854775807 then (if ((((((⟨#[56, 61, 70, 73, 88, 46, 52, 46, 52, 1, 57, 61]⟩ : ByteArray) ++ t149) ++ (⟨#[1]⟩ : ByteArray)) ++ a0) ++ (⟨#[49, 48, 61]⟩ : ByteArray)) ++ t151).size + 1 ≤ 9223372036854775807 then (some (((((((⟨#[56, 61, 70, 73, 88, 46, 52, 46, 52, 1, 57, 61]⟩ : ByteArray) ++ t149) ++ (⟨#[1]⟩ : ByteArray)) ++ a0) ++ (⟨#[49, 48, 61]⟩ : ByteArray)) ++ t151) ++ (⟨#[1]⟩ : ByteArray))) else (none)) else (none)) = some r := H
          have A8 := Aside0.mk A80
          clear A80
          by_cases c9 : (((((⟨#[56, 61, 70, 73, 88, 46, 52, 46, 52, 1, 57, 61]⟩ : ByteArray) ++ t149) ++ (⟨#[1]⟩ : ByteArray)) ++ a0) ++ (⟨#[49, 48, 61]⟩ : ByteArray)).size + t151.size ≤ 9223372036854775807
          · rw [if_pos c9] at H
            have c9b0 := eq_true c9
            have c9b1 : decide ((((((⟨#[56, 61, 70, 73, 88, 46, 52, 46, 52, 1, 57, 61]⟩ : ByteArray) ++ t149) ++ (⟨#[1]⟩ : ByteArray)) ++ a0) ++ (⟨#[49, 48, 61]⟩ : ByteArray)).size + t151.size ≤ 9223372036854775807) = true := decide_eq_true c9
            try have c9b2 : (9223372036854775807 < (((((⟨#[56, 61, 70, 73, 88, 46, 52, 46, 52, 1, 57, 61]⟩ : ByteArray) ++ t149) ++ (⟨#[1]⟩ : ByteArray)) ++ a0) ++ (⟨#[49, 48, 61]⟩ : ByteArray)).size + t151.size) = False := eq_false (Nat.not_lt.2 c9)
            try (have c9b3 := c9; simp only [ByteArray.size_append, sz_lit, List.length_cons, List.length_nil, Nat.zero_add] at c9b3; have c9b4 := eq_false (Nat.not_lt.2 c9b3))
            by_cases c10 : ((((((⟨#[56, 61, 70, 73, 88, 46, 52, 46, 52, 1, 57, 61]⟩ : ByteArray) ++ t149) ++ (⟨#[1]⟩ : ByteArray)) ++ a0) ++ (⟨#[49, 48, 61]⟩ : ByteArray)) ++ t151).size + 1 ≤ 9223372036854775807
            · rw [if_pos c10] at H
              have c10b0 := eq_true c10
              have c10b1 : decide (((((((⟨#[56, 61, 70, 73, 88, 46, 52, 46, 52, 1, 57, 61]⟩ : ByteArray) ++ t149) ++ (⟨#[1]⟩ : ByteArray)) ++ a0) ++ (⟨#[49, 48, 61]⟩ : ByteArray)) ++ t151).size + 1 ≤ 9223372036854775807) = true := decide_eq_true c10
              try have c10b2 : (9223372036854775807 < ((((((⟨#[56, 61, 70, 73, 88, 46, 52, 46, 52, 1, 57, 61]⟩ : ByteArray) ++ t149) ++ (⟨#[1]⟩ : ByteArray)) ++ a0) ++ (⟨#[49, 48, 61]⟩ : ByteArray)) ++ t151).size + 1) = False := eq_false (Nat.not_lt.2 c10)
              try (have c10b3 := c10; simp only [ByteArray.size_append, sz_lit, List.length_cons, List.length_nil, Nat.zero_add] at c10b3; have c10b4 := eq_false (Nat.not_lt.2 c10b3))
              obtain rfl := Option.some.inj H
              go_enter Tryd.func24, Tryd.ntmps24
              go_wp2_with (first | ((with_reducible refine gate_callee (f := 34) rfl ?_); refine goesL_ (some 6) rfl rfl Tryd.func34 (by kernel_rfl) rfl #[.int .i64 (a0.size : Int)] rfl (by (try simp only [List.map_toArray, List.map_cons, List.map_nil]); first | done | rfl | (simp only [List.length_drop, List.length_take]; rfl)) ?_; (with_reducible refine (spigotref08_Digits.calls (a0.size : Int) t149 _ A2.out).mono ?_); rintro e w11 ⟨rfl, hb⟩; refine ⟨_, rfl, ?_⟩; have n0_ := Aside0.mk (below_step (by repeat (first | (with_reducible first | exact HB.out | apply below_alloc | apply pw_below_drewN | apply below_drew1) | exact HB.out)) hb); clear HB; have HB := n0_; clear n0_; (try clear hb); (try clear hb2); (try clear hk); (try clear hi)) | ((with_reducible refine gate_callee (f := 36) rfl ?_); refine goesL_ (some 14) rfl rfl Tryd.func36 (by kernel_rfl) rfl #[.string ((((⟨#[56, 61, 70, 73, 88, 46, 52, 46, 52, 1, 57, 61]⟩ : ByteArray) ++ t149) ++ (⟨#[1]⟩ : ByteArray)) ++ a0)] rfl (by (try simp only [List.map_toArray, List.map_cons, List.map_nil]); first | done | rfl | (simp only [List.length_drop, List.length_take]; rfl)) ?_; (with_reducible refine (spigotref09_Sum.calls ((((⟨#[56, 61, 70, 73, 88, 46, 52, 46, 52, 1, 57, 61]⟩ : ByteArray) ++ t149) ++ (⟨#[1]⟩ : ByteArray)) ++ a0) t150 _ A7.out).mono ?_); rintro e w' ⟨rfl, ⟨nd, rfl⟩⟩; refine ⟨_, rfl, ?_⟩) | ((with_reducible refine gate_callee (f := 35) rfl ?_); refine goesL_ (some 15) rfl rfl Tryd.func35 (by kernel_rfl) rfl #[.int .i64 t150] rfl (by (try simp only [List.map_toArray, List.map_cons, List.map_nil]); first | done | rfl | (simp only [List.length_drop, List.length_take]; rfl)) ?_; (with_reducible refine (spigotref09_Three.calls t150 t151 _ A8.out).mono ?_); rintro e w12 ⟨rfl, hb⟩; refine ⟨_, rfl, ?_⟩; have n0_ := Aside0.mk (below_step (by repeat (first | (with_reducible first | exact HB.out | apply below_alloc | apply pw_below_drewN | apply below_drew1) | exact HB.out)) hb); clear HB; have HB := n0_; clear n0_; (try clear hb); (try clear hb2); (try clear hk); (try clear hi)))
              go_ret
              exact ⟨by first | rfl | (simp [errW_none, errW_some] <;> rfl) | (simp [*, errW_none, errW_some] <;> rfl), by repeat (first | (with_reducible first | exact HB.out | apply below_alloc | apply pw_below_drewN | apply below_drew1) | exact HB.out)⟩
            · rw [if_neg c10] at H
              exact absurd H (by simp)
          · rw [if_neg c9] at H
            exact absurd H (by simp)
        · rw [if_neg c6] at H
          exact absurd H (by simp)
      · rw [if_neg c5] at H
        exact absurd H (by simp)
    · rw [if_neg c4] at H
      exact absurd H (by simp)
  · rw [if_neg c3] at H
    exact absurd H (by simp)
/-! ### spigotref10_Form: function 24 -/
theorem ref10_Form_eq (a0 : ByteArray) (c : a0.size ≤ 140737488351232) : spigotref10_Form_p.f a0 = some ⟨(msgL a0.data.toList).toArray⟩ := by
  unfold spigotref10_Form_p.f spigotref08_Digits.f
  rw [if_pos (by omega)]
  simp only [Option.bind_some]
  have hz := digitsB_20 (a0.size : Int) (by omega)
  have hd : (digitsB (a0.size : Int)).data.toList = digitsN a0.size := by rw [digitsB_list, Int.toNat_natCast]
  simp only [ByteArray.size_append, show (⟨#[56, 61, 70, 73, 88, 46, 52, 46, 52, 1, 57, 61]⟩ : ByteArray).size = 12 from rfl, show (⟨#[1]⟩ : ByteArray).size = 1 from rfl, show (⟨#[49, 48, 61]⟩ : ByteArray).size = 3 from rfl]
  rw [if_pos (by omega), if_pos (by omega), if_pos (by omega), if_pos (by omega)]
  unfold spigotref09_Sum.f
  rw [if_pos (by simp only [ByteArray.size_append, show (⟨#[56, 61, 70, 73, 88, 46, 52, 46, 52, 1, 57, 61]⟩ : ByteArray).size = 12 from rfl, show (⟨#[1]⟩ : ByteArray).size = 1 from rfl]; unfold big; omega)]
  simp only [Option.bind_some]
  have hm : bsum (begL ++ (digitsN a0.data.toList.length ++ 1 :: a0.data.toList)) % 256 < 256 := Nat.mod_lt _ (by decide)
  have hsum : sumOf ((((⟨#[56, 61, 70, 73, 88, 46, 52, 46, 52, 1, 57, 61]⟩ : ByteArray) ++ digitsB (a0.size : Int)) ++ (⟨#[1]⟩ : ByteArray)) ++ a0) = ((bsum (begL ++ (digitsN a0.data.toList.length ++ 1 :: a0.data.toList)) % 256 : Nat) : Int) := by
    unfold sumOf; rw [head_list a0 _ hd]
  rw [hsum]
  have hu := three_list _ hm
  have hmsg := msg_list a0 (digitsB (a0.size : Int)) _ hd hu
  unfold spigotref09_Three.f threeOf
  rw [if_pos (by omega)]
  simp only [Option.bind_some]
  have h3 : (strOfNums [48 + ((bsum (begL ++ (digitsN a0.data.toList.length ++ 1 :: a0.data.toList)) % 256 : Nat) : Int) / 100, 48 + ((bsum (begL ++ (digitsN a0.data.toList.length ++ 1 :: a0.data.toList)) % 256 : Nat) : Int) / 10 % 10, 48 + ((bsum (begL ++ (digitsN a0.data.toList.length ++ 1 :: a0.data.toList)) % 256 : Nat) : Int) % 10]).size = 3 := rfl
  rw [h3, if_pos (by omega), if_pos (by omega), hmsg]
def spigotref10_Form.f (a0 : ByteArray) : Option ByteArray := if a0.size ≤ 140737488351232 then some ⟨(msgL a0.data.toList).toArray⟩ else none
theorem spigotref10_Form.calls (a0 : ByteArray) (r : ByteArray) (w : World) (h : spigotref10_Form.f a0 = some r) :
    Calls Tryd.prog 24 #[.string a0] w fun e w' => e = .returned (.string r) ∧ Below w.heap.size w w' := by
  unfold spigotref10_Form.f at h
  by_cases c : a0.size ≤ 140737488351232
  · rw [if_pos c] at h
    exact spigotref10_Form_p.calls a0 r w ((ref10_Form_eq a0 c).trans h)
  · rw [if_neg c] at h; cases h

end Go.Proofs.YtgknfdjfgemceaaDoor.Q
