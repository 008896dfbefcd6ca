/- Each Go function that the laws of this seat reach, as a plain Lean function, and its contract: the machine's call does what that function says. -/
import Derived.Test.YtgknfdjfgemceaaDoorQx0
import Derived.Test.YtgknfdjfgemceaaDoorQx1
import Derived.Test.YtgknfdjfgemceaaDoorQx12
import Derived.Test.YtgknfdjfgemceaaDoorQx14
import Derived.Test.YtgknfdjfgemceaaDoorQx15
import Derived.Test.YtgknfdjfgemceaaDoorQx37
namespace Go.Proofs.YtgknfdjfgemceaaDoor.Q
open Go.RowKit Go.Proofs.YtgknfdjfgemceaaDoorW.PrintWords Go.Proofs.YtgknfdjfgemceaaDoorW.PrintLast Go.Proofs.YtgknfdjfgemceaaDoorW.PrintMore
attribute [local go_sem] max2_int min2_int max_two min_two max_three min_three max_four min_four   -- for this text's walks alone
set_option linter.unusedVariables false
set_option linter.unusedSimpArgs false

/-! ### spigotlaw10_WireLimits: function 4 -/
mutual
def spigotlaw10_WireLimits.j0 : Nat → Int → Bool → Option (Bool)
  | 0, _, _ => none
  | k + 1, x0, x19 => if x19 = true then (some true) else (spigotlaw10_WireLimits.l0 k x0 (⟨#[]⟩ : ByteArray))
def spigotlaw10_WireLimits.l0 : Nat → Int → ByteArray → Option (Bool)
  | 0, _, _ => none
  | k + 1, x0, x3 => if (wrap64 (x0 - (x3.size : Int))) > 512 then ((spigotlaw10_text.f 253).bind fun t238 => (if 2 + t238.size ≤ 9223372036854775807 then (if ((⟨#[49, 61]⟩ : ByteArray) ++ t238).size + 1 ≤ 9223372036854775807 then (if x3.size + (((⟨#[49, 61]⟩ : ByteArray) ++ t238) ++ (⟨#[1]⟩ : ByteArray)).size ≤ 9223372036854775807 then (spigotlaw10_WireLimits.l0 k x0 (x3 ++ (((⟨#[49, 61]⟩ : ByteArray) ++ t238) ++ (⟨#[1]⟩ : ByteArray)))) else (none)) else (none)) else (none))) else ((spigotlaw10_text.f (wrap64 ((wrap64 (x0 - (x3.size : Int))) - 3))).bind fun t239 => (if 2 + t239.size ≤ 9223372036854775807 then (if ((⟨#[49, 61]⟩ : ByteArray) ++ t239).size + 1 ≤ 9223372036854775807 then (if x3.size + (((⟨#[49, 61]⟩ : ByteArray) ++ t239) ++ (⟨#[1]⟩ : ByteArray)).size ≤ 9223372036854775807 then ((wire_Seal.f (x3 ++ (((⟨#[49, 61]⟩ : ByteArray) ++ t239) ++ (⟨#[1]⟩ : ByteArray)))).bind fun bt240 => (if x0 > 4096 then ((wire_Open.f (⟨#[56, 61, 70, 73, 88, 46, 52, 46, 52, 1, 57, 61, 52, 48, 57, 55]⟩ : ByteArray)).bind fun bt242 => (if bt240.2 = 102 then (if bt240.1.toList = ([] : List UInt8) then (some (bt242.2.2 == 102)) else (some false)) else (some false))) else ((wire_Open.f bt240.1).bind fun bt245 => (if bt240.2 = 0 then (if bt245.2.2 = 0 then (if bt245.1.toList = (x3 ++ (((⟨#[49, 61]⟩ : ByteArray) ++ t239) ++ (⟨#[1]⟩ : ByteArray))).toList then (if bt245.2.1 = (bt240.1.size : Int) then (some ((bt245.1.size : Int) == x0)) else (some false)) else (some false)) else (some false)) else (some false))))) else (none)) else (none)) else (none)))
end
def spigotlaw10_WireLimits.f (k : Nat) (a0 : Int) : Option (Bool) := (spigotlaw10_awake.f).bind fun t237 => (if t237 = true then (if a0 < 4093 then (spigotlaw10_WireLimits.j0 k a0 true) else (spigotlaw10_WireLimits.j0 k a0 (decide (a0 > 4099)))) else (some false))
theorem spigotlaw10_WireLimits.mono_l : ∀ k, (∀ y0 y1, LeO (spigotlaw10_WireLimits.j0 k y0 y1) (spigotlaw10_WireLimits.j0 (k + 1) y0 y1)) ∧ (∀ y0 y1, LeO (spigotlaw10_WireLimits.l0 k y0 y1) (spigotlaw10_WireLimits.l0 (k + 1) y0 y1))
  | 0 => ⟨fun _ _ r h => by simp [spigotlaw10_WireLimits.j0] at h, fun _ _ r h => by simp [spigotlaw10_WireLimits.l0] at h⟩
  | k + 1 => by
    obtain ⟨ih0, ih1⟩ := spigotlaw10_WireLimits.mono_l k
    refine ⟨?_, ?_⟩
    · intro y0 y1
      unfold spigotlaw10_WireLimits.j0
      repeat' first
      | (with_reducible exact ih0 _ _)
      | (with_reducible exact ih1 _ _)
      | (with_reducible exact LeO.refl _)
      | (with_reducible exact LeO.none _)
      | (with_reducible refine LeO.ite ?_ ?_)
      | (with_reducible refine LeO.bind ?_ (fun _ => ?_))
      | exact ih0 _ _
      | exact ih1 _ _
      | exact LeO.none _
      | refine LeO.ite ?_ ?_
      | refine LeO.bind ?_ (fun _ => ?_)
    · intro y0 y1
      unfold spigotlaw10_WireLimits.l0
      repeat' first
      | (with_reducible exact ih0 _ _)
      | (with_reducible exact ih1 _ _)
      | (with_reducible exact LeO.refl _)
      | (with_reducible exact LeO.none _)
      | (with_reducible refine LeO.ite ?_ ?_)
      | (with_reducible refine LeO.bind ?_ (fun _ => ?_))
      | exact ih0 _ _
      | exact ih1 _ _
      | exact LeO.none _
      | refine LeO.ite ?_ ?_
      | refine LeO.bind ?_ (fun _ => ?_)
theorem spigotlaw10_WireLimits.mono : ∀ a0 k, LeO (spigotlaw10_WireLimits.f k a0) (spigotlaw10_WireLimits.f (k + 1) a0) := by
  intro a0 k
  obtain ⟨ih0, ih1⟩ := spigotlaw10_WireLimits.mono_l k
  unfold spigotlaw10_WireLimits.f
  repeat' first
      | (with_reducible exact ih0 _ _)
      | (with_reducible exact ih1 _ _)
      | (with_reducible exact LeO.refl _)
      | (with_reducible exact LeO.none _)
      | (with_reducible refine LeO.ite ?_ ?_)
      | (with_reducible refine LeO.bind ?_ (fun _ => ?_))
      | exact ih0 _ _
      | exact ih1 _ _
      | exact LeO.none _
      | refine LeO.ite ?_ ?_
      | refine LeO.bind ?_ (fun _ => ?_)
set_option maxHeartbeats 8000000 in
set_option maxRecDepth 100000 in
theorem spigotlaw10_WireLimits.calls (k : Nat) (a0 : Int) (r : Bool) (w : World) (hT_ : Aside0 (Tabs_ w)) (h : spigotlaw10_WireLimits.f k a0 = some r) :
    Calls Tryd.prog 4 #[.int .i64 a0] w fun e w' => e = .returned (.bool r) ∧ Below w.heap.size w w' := by
  have HB := Aside0.mk (Below.refl w.heap.size w)
  have H : ((spigotlaw10_awake.f).bind fun t237 => (if t237 = true then (if a0 < 4093 then (spigotlaw10_WireLimits.j0 k a0 true) else (spigotlaw10_WireLimits.j0 k a0 (decide (a0 > 4099)))) else (some false))) = some r := h
  clear h
  replace H := Option.bind_eq_some_iff.mp H
  obtain ⟨t237, A20, H⟩ := H
  replace H : (if t237 = true then (if a0 < 4093 then (spigotlaw10_WireLimits.j0 k a0 true) else (spigotlaw10_WireLimits.j0 k a0 (decide (a0 > 4099)))) else (some false)) = some r := H
  have A2 := Aside0.mk A20
  clear A20
  by_cases c3 : t237 = true
  · subst c3
    have H1 : (if a0 < 4093 then (spigotlaw10_WireLimits.j0 k a0 true) else (spigotlaw10_WireLimits.j0 k a0 (decide (a0 > 4099)))) = some r := by rw [if_pos rfl] at H; exact H
    clear H
    have H := H1
    clear H1
    have HC4 := Aside0.mk H
    clear H
    go_enter Tryd.func4, Tryd.ntmps4
    go_upto_region 3 with (first | ((with_reducible refine gate_callee (f := 9) rfl ?_); refine goesL_ (some 12) rfl rfl Tryd.func9 (by kernel_rfl) rfl #[] rfl (by (try simp only [List.map_toArray, List.map_cons, List.map_nil]); first | done | rfl | (simp only [List.length_drop, List.length_take]; rfl)) ?_; (with_reducible refine (spigotlaw10_awake.calls  true _ ?side1 A2.out).mono ?_); (case side1 => exact Aside0.mk (Tabs_.below hT_.out (by repeat (first | (with_reducible first | exact HB.out | apply below_alloc | apply pw_below_drewN | apply below_drew1) | exact HB.out)))); rintro e w5 ⟨rfl, hb⟩; refine ⟨_, rfl, ?_⟩; have n0_ := Aside0.mk (below_step (by repeat (first | (with_reducible first | exact HB.out | apply below_alloc | apply pw_below_drewN | apply below_drew1) | exact HB.out)) hb); clear HB; have HB := n0_; clear n0_; (try clear hb); (try clear hb2); (try clear hk); (try clear hi)))
    (try simp only [Act.put, List.setIfInBounds_toArray, List.set_cons_zero, List.set_cons_succ])
    go_cut [19] (fun v19 wc => ∃ (kq : Nat) (x19_3 : Bool), v19 = .bool x19_3 ∧ Aside0 (spigotlaw10_WireLimits.j0 kq a0 x19_3 = some r) ∧ Aside0 (kq ≤ k) ∧ Aside0 (Below w.heap.size w wc))
    case first =>
      have H := HC4.out
      clear HC4
      by_cases c6 : a0 < 4093
      · rw [if_pos c6] at H
        have c6b0 : decide (a0 < 4093) = true := decide_eq_true c6
        clear c6
        (first | rw [c6b0] | (simp only [i64_w, i32_w]; rw [c6b0]) | skip)
        have H' := Aside0.mk H
        clear H
        go_wp2
        go_meet
        case rel => exact ⟨_, (true), (by first | rfl | (simp; done) | (simp [*]; done)), H', ⟨by first | omega | exact Nat.le_refl _⟩, ⟨by repeat (first | (with_reducible first | exact HB.out | apply below_alloc | apply pw_below_drewN | apply below_drew1) | exact HB.out)⟩⟩
      · rw [if_neg c6] at H
        have c6b0 : decide (a0 < 4093) = false := decide_eq_false c6
        clear c6
        (first | rw [c6b0] | (simp only [i64_w, i32_w]; rw [c6b0]) | skip)
        have H' := Aside0.mk H
        clear H
        go_wp2
        go_meet
        case rel => exact ⟨_, (decide (a0 > 4099)), (by first | rfl | (simp; done) | (simp [*]; done)), H', ⟨by first | omega | exact Nat.le_refl _⟩, ⟨by repeat (first | (with_reducible first | exact HB.out | apply below_alloc | apply pw_below_drewN | apply below_drew1) | exact HB.out)⟩⟩
    case rest =>
      clear HC4
      try clear p2
      try clear c3
      try clear c4
      try clear c6
      try clear c6b0
      obtain ⟨kq, x19_3, rfl, HA, HJ3, HB⟩ := hcut
      cases kq with
      | zero => exact absurd HA.out (by simp [spigotlaw10_WireLimits.j0])
      | succ kj3 =>
        have H := HA.out
        clear HA
        simp only [spigotlaw10_WireLimits.j0] at H
        by_cases c7 : x19_3 = true
        · subst c7
          have H1 : (some true) = some r := by rw [if_pos rfl] at H; exact H
          clear H
          have H := H1
          clear H1
          obtain rfl := Option.some.inj H
          go_wp2
          go_ret
          exact ⟨by first | rfl | (simp [errW_none, errW_some] <;> rfl) | (simp [*, errW_none, errW_some] <;> rfl), by repeat (first | (with_reducible first | exact HB.out | apply below_alloc | apply pw_below_drewN | apply below_drew1) | exact HB.out)⟩
        · replace c7 := Bool.eq_false_iff.mpr c7
          subst c7
          have H1 : (spigotlaw10_WireLimits.l0 kj3 a0 (⟨#[]⟩ : ByteArray)) = some r := by rw [if_neg (show ¬ (false = true) by decide)] at H; exact H
          clear H
          have H := H1
          clear H1
          have H' := Aside0.mk H
          clear H
          go_wp2
          go_loopg [3] kj3 (fun kq v3 w' => ∃ (x3_2 : ByteArray), v3 = .string x3_2 ∧ Aside0 (spigotlaw10_WireLimits.l0 kq a0 x3_2 = some r) ∧ Aside0 (kq ≤ kj3) ∧ Aside0 (Below w.heap.size w w'))
          case atStart => exact ⟨((⟨#[]⟩ : ByteArray)), (by first | rfl | (simp; done) | (simp [*]; done)), H', ⟨Nat.le_refl _⟩, ⟨by repeat (first | (with_reducible first | exact HB.out | apply below_alloc | apply pw_below_drewN | apply below_drew1) | exact HB.out)⟩⟩
          case round =>
            clear H'
            try clear p2
            try clear c3
            try clear c4
            try clear c6
            try clear c6b0
            try clear c7
            try clear p2
            obtain ⟨x3_2, rfl, HA, HK2, HB⟩ := hrel
            cases gk with
            | zero => exact absurd HA.out (by simp [spigotlaw10_WireLimits.l0])
            | succ k2 =>
              have H := HA.out
              clear HA
              simp only [spigotlaw10_WireLimits.l0] at H
              by_cases c8 : (wrap64 (a0 - (x3_2.size : Int))) > 512
              · rw [if_pos c8] at H
                have c8b0 : decide (512 < (wrap64 (a0 - (x3_2.size : Int)))) = true := decide_eq_true c8
                clear c8
                replace H := Option.bind_eq_some_iff.mp H
                obtain ⟨t238, A90, H⟩ := H
                replace H : (if 2 + t238.size ≤ 9223372036854775807 then (if ((⟨#[49, 61]⟩ : ByteArray) ++ t238).size + 1 ≤ 9223372036854775807 then (if x3_2.size + (((⟨#[49, 61]⟩ : ByteArray) ++ t238) ++ (⟨#[1]⟩ : ByteArray)).size ≤ 9223372036854775807 then (spigotlaw10_WireLimits.l0 k2 a0 (x3_2 ++ (((⟨#[49, 61]⟩ : ByteArray) ++ t238) ++ (⟨#[1]⟩ : ByteArray)))) else (none)) else (none)) else (none)) = some r := H
                have A9 := Aside0.mk A90
                clear A90
                by_cases c10 : 2 + t238.size ≤ 9223372036854775807
                · rw [if_pos c10] at H
                  have c10b0 := eq_true c10
                  have c10b1 : decide (2 + t238.size ≤ 9223372036854775807) = true := decide_eq_true c10
                  try have c10b2 : (9223372036854775807 < 2 + t238.size) = False := eq_false (Nat.not_lt.2 c10)
                  try (have c10b3 := c10; simp only [ByteArray.size_append, sz_lit, List.length_cons, List.length_nil, Nat.zero_add] at c10b3; have c10b4 := eq_false (Nat.not_lt.2 c10b3))
                  by_cases c11 : ((⟨#[49, 61]⟩ : ByteArray) ++ t238).size + 1 ≤ 9223372036854775807
                  · rw [if_pos c11] at H
                    have c11b0 := eq_true c11
                    have c11b1 : decide (((⟨#[49, 61]⟩ : ByteArray) ++ t238).size + 1 ≤ 9223372036854775807) = true := decide_eq_true c11
                    try have c11b2 : (9223372036854775807 < ((⟨#[49, 61]⟩ : ByteArray) ++ t238).size + 1) = False := eq_false (Nat.not_lt.2 c11)
                    try (have c11b3 := c11; simp only [ByteArray.size_append, sz_lit, List.length_cons, List.length_nil, Nat.zero_add] at c11b3; have c11b4 := eq_false (Nat.not_lt.2 c11b3))
                    by_cases c12 : x3_2.size + (((⟨#[49, 61]⟩ : ByteArray) ++ t238) ++ (⟨#[1]⟩ : ByteArray)).size ≤ 9223372036854775807
                    · rw [if_pos c12] at H
                      have c12b0 := eq_true c12
                      have c12b1 : decide (x3_2.size + (((⟨#[49, 61]⟩ : ByteArray) ++ t238) ++ (⟨#[1]⟩ : ByteArray)).size ≤ 9223372036854775807) = true := decide_eq_true c12
                      try have c12b2 : (9223372036854775807 < x3_2.size + (((⟨#[49, 61]⟩ : ByteArray) ++ t238) ++ (⟨#[1]⟩ : ByteArray)).size) = False := eq_false (Nat.not_lt.2 c12)
                      try (have c12b3 := c12; simp only [ByteArray.size_append, sz_lit, List.length_cons, List.length_nil, Nat.zero_add] at c12b3; have c12b4 := eq_false (Nat.not_lt.2 c12b3))
                      have H' := Aside0.mk H
                      clear H
                      go_wp2_with (first | ((with_reducible refine gate_callee (f := 12) rfl ?_); refine goesL_ (some 26) rfl rfl Tryd.func12 (by kernel_rfl) rfl #[.int .i64 253] rfl (by (try simp only [List.map_toArray, List.map_cons, List.map_nil]); first | done | rfl | (simp only [List.length_drop, List.length_take]; rfl)) ?_; (with_reducible refine (spigotlaw10_text.calls 253 t238 _ A9.out).mono ?_); rintro e w13 ⟨rfl, hb⟩; refine ⟨_, rfl, ?_⟩; have n0_ := Aside0.mk (below_step (by repeat (first | (with_reducible first | exact HB.out | apply below_alloc | apply pw_below_drewN | apply below_drew1) | exact HB.out)) hb); clear HB; have HB := n0_; clear n0_; (try clear hb); (try clear hb2); (try clear hk); (try clear hi)))
                      go_roundg k2
                      case measure => have := HJ3.out; have := HK2.out; omega
                      case rel => exact ⟨(x3_2 ++ (((⟨#[49, 61]⟩ : ByteArray) ++ t238) ++ (⟨#[1]⟩ : ByteArray))), (by first | rfl | (simp; done) | (simp [*]; done)), H', ⟨by have := HJ3.out; have := HK2.out; omega⟩, ⟨by repeat (first | (with_reducible first | exact HB.out | apply below_alloc | apply pw_below_drewN | apply below_drew1) | exact HB.out)⟩⟩
                    · rw [if_neg c12] at H
                      exact absurd H (by simp)
                  · rw [if_neg c11] at H
                    exact absurd H (by simp)
                · rw [if_neg c10] at H
                  exact absurd H (by simp)
              · rw [if_neg c8] at H
                have c8b0 : decide (512 < (wrap64 (a0 - (x3_2.size : Int)))) = false := decide_eq_false c8
                clear c8
                replace H := Option.bind_eq_some_iff.mp H
                obtain ⟨t239, A140, H⟩ := H
                replace H : (if 2 + t239.size ≤ 9223372036854775807 then (if ((⟨#[49, 61]⟩ : ByteArray) ++ t239).size + 1 ≤ 9223372036854775807 then (if x3_2.size + (((⟨#[49, 61]⟩ : ByteArray) ++ t239) ++ (⟨#[1]⟩ : ByteArray)).size ≤ 9223372036854775807 then ((wire_Seal.f (x3_2 ++ (((⟨#[49, 61]⟩ : ByteArray) ++ t239) ++ (⟨#[1]⟩ : ByteArray)))).bind fun bt240 => (if a0 > 4096 then ((wire_Open.f (⟨#[56, 61, 70, 73, 88, 46, 52, 46, 52, 1, 57, 61, 52, 48, 57, 55]⟩ : ByteArray)).bind fun bt242 => (if bt240.2 = 102 then (if bt240.1.toList = ([] : List UInt8) then (some (bt242.2.2 == 102)) else (some false)) else (some false))) else ((wire_Open.f bt240.1).bind fun bt245 => (if bt240.2 = 0 then (if bt245.2.2 = 0 then (if bt245.1.toList = (x3_2 ++ (((⟨#[49, 61]⟩ : ByteArray) ++ t239) ++ (⟨#[1]⟩ : ByteArray))).toList then (if bt245.2.1 = (bt240.1.size : Int) then (some ((bt245.1.size : Int) == a0)) else (some false)) else (some false)) else (some false)) else (some false))))) else (none)) else (none)) else (none)) = some r := H
                have A14 := Aside0.mk A140
                clear A140
                by_cases c15 : 2 + t239.size ≤ 9223372036854775807
                · rw [if_pos c15] at H
                  have c15b0 := eq_true c15
                  have c15b1 : decide (2 + t239.size ≤ 9223372036854775807) = true := decide_eq_true c15
                  try have c15b2 : (9223372036854775807 < 2 + t239.size) = False := eq_false (Nat.not_lt.2 c15)
                  try (have c15b3 := c15; simp only [ByteArray.size_append, sz_lit, List.length_cons, List.length_nil, Nat.zero_add] at c15b3; have c15b4 := eq_false (Nat.not_lt.2 c15b3))
                  by_cases c16 : ((⟨#[49, 61]⟩ : ByteArray) ++ t239).size + 1 ≤ 9223372036854775807
                  · rw [if_pos c16] at H
                    have c16b0 := eq_true c16
                    have c16b1 : decide (((⟨#[49, 61]⟩ : ByteArray) ++ t239).size + 1 ≤ 9223372036854775807) = true := decide_eq_true c16
                    try have c16b2 : (9223372036854775807 < ((⟨#[49, 61]⟩ : ByteArray) ++ t239).size + 1) = False := eq_false (Nat.not_lt.2 c16)
                    try (have c16b3 := c16; simp only [ByteArray.size_append, sz_lit, List.length_cons, List.length_nil, Nat.zero_add] at c16b3; have c16b4 := eq_false (Nat.not_lt.2 c16b3))
                    by_cases c17 : x3_2.size + (((⟨#[49, 61]⟩ : ByteArray) ++ t239) ++ (⟨#[1]⟩ : ByteArray)).size ≤ 9223372036854775807
                    · rw [if_pos c17] at H
                      have c17b0 := eq_true c17
                      have c17b1 : decide (x3_2.size + (((⟨#[49, 61]⟩ : ByteArray) ++ t239) ++ (⟨#[1]⟩ : ByteArray)).size ≤ 9223372036854775807) = true := decide_eq_true c17
                      try have c17b2 : (9223372036854775807 < x3_2.size + (((⟨#[49, 61]⟩ : ByteArray) ++ t239) ++ (⟨#[1]⟩ : ByteArray)).size) = False := eq_false (Nat.not_lt.2 c17)
                      try (have c17b3 := c17; simp only [ByteArray.size_append, sz_lit, List.length_cons, List.length_nil, Nat.zero_add] at c17b3; have c17b4 := eq_false (Nat.not_lt.2 c17b3))
                      replace H := Option.bind_eq_some_iff.mp H
                      obtain ⟨⟨t240, t241⟩, A180, H⟩ := H
                      replace H : (if a0 > 4096 then ((wire_Open.f (⟨#[56, 61, 70, 73, 88, 46, 52, 46, 52, 1, 57, 61, 52, 48, 57, 55]⟩ : ByteArray)).bind fun bt242 => (if t241 = 102 then (if t240.toList = ([] : List UInt8) then (some (bt242.2.2 == 102)) else (some false)) else (some false))) else ((wire_Open.f t240).bind fun bt245 => (if t241 = 0 then (if bt245.2.2 = 0 then (if bt245.1.toList = (x3_2 ++ (((⟨#[49, 61]⟩ : ByteArray) ++ t239) ++ (⟨#[1]⟩ : ByteArray))).toList then (if bt245.2.1 = (t240.size : Int) then (some ((bt245.1.size : Int) == a0)) else (some false)) else (some false)) else (some false)) else (some false)))) = some r := H
                      have A18 := Aside0.mk A180
                      clear A180
                      by_cases c19 : a0 > 4096
                      · rw [if_pos c19] at H
                        have c19b0 : decide (4096 < a0) = true := decide_eq_true c19
                        clear c19
                        replace H := Option.bind_eq_some_iff.mp H
                        obtain ⟨⟨t242, t243, t244⟩, A200, H⟩ := H
                        replace H : (if t241 = 102 then (if t240.toList = ([] : List UInt8) then (some (t244 == 102)) else (some false)) else (some false)) = some r := H
                        have A20 := Aside0.mk A200
                        clear A200
                        by_cases c21 : t241 = 102
                        · rw [if_pos c21] at H
                          have c21b0 : (t241 == 102) = true := beq_iff_eq.mpr c21
                          have c21b1 : (t241 != 102) = false := bne_eq_false_iff_eq.mpr c21
                          clear c21
                          by_cases c22 : t240.toList = ([] : List UInt8)
                          · rw [if_pos c22] at H
                            have c22b0 : (t240.toList == ([] : List UInt8)) = true := beq_iff_eq.mpr c22
                            have c22b1 : (t240.toList != ([] : List UInt8)) = false := bne_eq_false_iff_eq.mpr c22
                            clear c22
                            obtain rfl := Option.some.inj H
                            go_wp2_with (first | ((with_reducible refine gate_callee (f := 12) rfl ?_); refine goesL_ (some 36) rfl rfl Tryd.func12 (by kernel_rfl) rfl #[.int .i64 (wrap64 ((wrap64 (a0 - (x3_2.size : Int))) - 3))] rfl (by (try simp only [List.map_toArray, List.map_cons, List.map_nil]); first | done | rfl | (simp only [List.length_drop, List.length_take]; rfl)) ?_; (with_reducible refine (spigotlaw10_text.calls (wrap64 ((wrap64 (a0 - (x3_2.size : Int))) - 3)) t239 _ A14.out).mono ?_); rintro e w23 ⟨rfl, hb⟩; refine ⟨_, rfl, ?_⟩; have n0_ := Aside0.mk (below_step (by repeat (first | (with_reducible first | exact HB.out | apply below_alloc | apply pw_below_drewN | apply below_drew1) | exact HB.out)) hb); clear HB; have HB := n0_; clear n0_; (try clear hb); (try clear hb2); (try clear hk); (try clear hi)) | ((with_reducible refine gate_callee (f := 10) rfl ?_); refine goesL_ (some 42) rfl rfl Tryd.func10 (by kernel_rfl) rfl #[.string (x3_2 ++ (((⟨#[49, 61]⟩ : ByteArray) ++ t239) ++ (⟨#[1]⟩ : ByteArray)))] rfl (by (try simp only [List.map_toArray, List.map_cons, List.map_nil]); first | done | rfl | (simp only [List.length_drop, List.length_take]; rfl)) ?_; (with_reducible refine (wire_Seal.calls (x3_2 ++ (((⟨#[49, 61]⟩ : ByteArray) ++ t239) ++ (⟨#[1]⟩ : ByteArray))) t240 t241 _ ?side1 A18.out).mono ?_); (case side1 => exact Aside0.mk (Tabs_.below hT_.out (by repeat (first | (with_reducible first | exact HB.out | apply below_alloc | apply pw_below_drewN | apply below_drew1) | exact HB.out)))); rintro e w24 ⟨rfl, hb⟩; refine ⟨_, rfl, ?_⟩; have n0_ := Aside0.mk (below_step (by repeat (first | (with_reducible first | exact HB.out | apply below_alloc | apply pw_below_drewN | apply below_drew1) | exact HB.out)) hb); clear HB; have HB := n0_; clear n0_; (try clear hb); (try clear hb2); (try clear hk); (try clear hi)) | ((with_reducible refine gate_callee (f := 13) rfl ?_); refine goesL_ (some 48) rfl rfl Tryd.func13 (by kernel_rfl) rfl #[.string (⟨#[56, 61, 70, 73, 88, 46, 52, 46, 52, 1, 57, 61, 52, 48, 57, 55]⟩ : ByteArray)] rfl (by (try simp only [List.map_toArray, List.map_cons, List.map_nil]); first | done | rfl | (simp only [List.length_drop, List.length_take]; rfl)) ?_; (with_reducible refine (wire_Open.calls (⟨#[56, 61, 70, 73, 88, 46, 52, 46, 52, 1, 57, 61, 52, 48, 57, 55]⟩ : ByteArray) t242 t243 t244 _ A20.out).mono ?_); rintro e w25 ⟨rfl, hb⟩; refine ⟨_, rfl, ?_⟩; have n0_ := Aside0.mk (below_step (by repeat (first | (with_reducible first | exact HB.out | apply below_alloc | apply pw_below_drewN | apply below_drew1) | exact HB.out)) hb); clear HB; have HB := n0_; clear n0_; (try clear hb); (try clear hb2); (try clear hk); (try clear hi)))
                            go_ret
                            exact ⟨by first | rfl | (simp [errW_none, errW_some] <;> rfl) | (simp [*, errW_none, errW_some] <;> rfl), by repeat (first | (with_reducible first | exact HB.out | apply below_alloc | apply pw_below_drewN | apply below_drew1) | exact HB.out)⟩
                          · rw [if_neg c22] at H
                            have c22b0 : (t240.toList == ([] : List UInt8)) = false := beq_eq_false_iff_ne.mpr c22
                            have c22b1 : (t240.toList != ([] : List UInt8)) = true := bne_iff_ne.mpr c22
                            obtain rfl := Option.some.inj H
                            go_wp2_with (first | ((with_reducible refine gate_callee (f := 12) rfl ?_); refine goesL_ (some 36) rfl rfl Tryd.func12 (by kernel_rfl) rfl #[.int .i64 (wrap64 ((wrap64 (a0 - (x3_2.size : Int))) - 3))] rfl (by (try simp only [List.map_toArray, List.map_cons, List.map_nil]); first | done | rfl | (simp only [List.length_drop, List.length_take]; rfl)) ?_; (with_reducible refine (spigotlaw10_text.calls (wrap64 ((wrap64 (a0 - (x3_2.size : Int))) - 3)) t239 _ A14.out).mono ?_); rintro e w26 ⟨rfl, hb⟩; refine ⟨_, rfl, ?_⟩; have n0_ := Aside0.mk (below_step (by repeat (first | (with_reducible first | exact HB.out | apply below_alloc | apply pw_below_drewN | apply below_drew1) | exact HB.out)) hb); clear HB; have HB := n0_; clear n0_; (try clear hb); (try clear hb2); (try clear hk); (try clear hi)) | ((with_reducible refine gate_callee (f := 10) rfl ?_); refine goesL_ (some 42) rfl rfl Tryd.func10 (by kernel_rfl) rfl #[.string (x3_2 ++ (((⟨#[49, 61]⟩ : ByteArray) ++ t239) ++ (⟨#[1]⟩ : ByteArray)))] rfl (by (try simp only [List.map_toArray, List.map_cons, List.map_nil]); first | done | rfl | (simp only [List.length_drop, List.length_take]; rfl)) ?_; (with_reducible refine (wire_Seal.calls (x3_2 ++ (((⟨#[49, 61]⟩ : ByteArray) ++ t239) ++ (⟨#[1]⟩ : ByteArray))) t240 t241 _ ?side1 A18.out).mono ?_); (case side1 => exact Aside0.mk (Tabs_.below hT_.out (by repeat (first | (with_reducible first | exact HB.out | apply below_alloc | apply pw_below_drewN | apply below_drew1) | exact HB.out)))); rintro e w27 ⟨rfl, hb⟩; refine ⟨_, rfl, ?_⟩; have n0_ := Aside0.mk (below_step (by repeat (first | (with_reducible first | exact HB.out | apply below_alloc | apply pw_below_drewN | apply below_drew1) | exact HB.out)) hb); clear HB; have HB := n0_; clear n0_; (try clear hb); (try clear hb2); (try clear hk); (try clear hi)) | ((with_reducible refine gate_callee (f := 13) rfl ?_); refine goesL_ (some 48) rfl rfl Tryd.func13 (by kernel_rfl) rfl #[.string (⟨#[56, 61, 70, 73, 88, 46, 52, 46, 52, 1, 57, 61, 52, 48, 57, 55]⟩ : ByteArray)] rfl (by (try simp only [List.map_toArray, List.map_cons, List.map_nil]); first | done | rfl | (simp only [List.length_drop, List.length_take]; rfl)) ?_; (with_reducible refine (wire_Open.calls (⟨#[56, 61, 70, 73, 88, 46, 52, 46, 52, 1, 57, 61, 52, 48, 57, 55]⟩ : ByteArray) t242 t243 t244 _ A20.out).mono ?_); rintro e w28 ⟨rfl, hb⟩; refine ⟨_, rfl, ?_⟩; have n0_ := Aside0.mk (below_step (by repeat (first | (with_reducible first | exact HB.out | apply below_alloc | apply pw_below_drewN | apply below_drew1) | exact HB.out)) hb); clear HB; have HB := n0_; clear n0_; (try clear hb); (try clear hb2); (try clear hk); (try clear hi)))
                            go_ret
                            exact ⟨by first | rfl | (simp [errW_none, errW_some] <;> rfl) | (simp [*, errW_none, errW_some] <;> rfl), by repeat (first | (with_reducible first | exact HB.out | apply below_alloc | apply pw_below_drewN | apply below_drew1) | exact HB.out)⟩
                        · rw [if_neg c21] at H
                          have c21b0 : (t241 == 102) = false := beq_eq_false_iff_ne.mpr c21
                          have c21b1 : (t241 != 102) = true := bne_iff_ne.mpr c21
                          obtain rfl := Option.some.inj H
                          go_wp2_with (first | ((with_reducible refine gate_callee (f := 12) rfl ?_); refine goesL_ (some 36) rfl rfl Tryd.func12 (by kernel_rfl) rfl #[.int .i64 (wrap64 ((wrap64 (a0 - (x3_2.size : Int))) - 3))] rfl (by (try simp only [List.map_toArray, List.map_cons, List.map_nil]); first | done | rfl | (simp only [List.length_drop, List.length_take]; rfl)) ?_; (with_reducible refine (spigotlaw10_text.calls (wrap64 ((wrap64 (a0 - (x3_2.size : Int))) - 3)) t239 _ A14.out).mono ?_); rintro e w29 ⟨rfl, hb⟩; refine ⟨_, rfl, ?_⟩; have n0_ := Aside0.mk (below_step (by repeat (first | (with_reducible first | exact HB.out | apply below_alloc | apply pw_below_drewN | apply below_drew1) | exact HB.out)) hb); clear HB; have HB := n0_; clear n0_; (try clear hb); (try clear hb2); (try clear hk); (try clear hi)) | ((with_reducible refine gate_callee (f := 10) rfl ?_); refine goesL_ (some 42) rfl rfl Tryd.func10 (by kernel_rfl) rfl #[.string (x3_2 ++ (((⟨#[49, 61]⟩ : ByteArray) ++ t239) ++ (⟨#[1]⟩ : ByteArray)))] rfl (by (try simp only [List.map_toArray, List.map_cons, List.map_nil]); first | done | rfl | (simp only [List.length_drop, List.length_take]; rfl)) ?_; (with_reducible refine (wire_Seal.calls (x3_2 ++ (((⟨#[49, 61]⟩ : ByteArray) ++ t239) ++ (⟨#[1]⟩ : ByteArray))) t240 t241 _ ?side1 A18.out).mono ?_); (case side1 => exact Aside0.mk (Tabs_.below hT_.out (by repeat (first | (with_reducible first | exact HB.out | apply below_alloc | apply pw_below_drewN | apply below_drew1) | exact HB.out)))); rintro e w30 ⟨rfl, hb⟩; refine ⟨_, rfl, ?_⟩; have n0_ := Aside0.mk (below_step (by repeat (first | (with_reducible first | exact HB.out | apply below_alloc | apply pw_below_drewN | apply below_drew1) | exact HB.out)) hb); clear HB; have HB := n0_; clear n0_; (try clear hb); (try clear hb2); (try clear hk); (try clear hi)) | ((with_reducible refine gate_callee (f := 13) rfl ?_); refine goesL_ (some 48) rfl rfl Tryd.func13 (by kernel_rfl) rfl #[.string (⟨#[56, 61, 70, 73, 88, 46, 52, 46, 52, 1, 57, 61, 52, 48, 57, 55]⟩ : ByteArray)] rfl (by (try simp only [List.map_toArray, List.map_cons, List.map_nil]); first | done | rfl | (simp only [List.length_drop, List.length_take]; rfl)) ?_; (with_reducible refine (wire_Open.calls (⟨#[56, 61, 70, 73, 88, 46, 52, 46, 52, 1, 57, 61, 52, 48, 57, 55]⟩ : ByteArray) t242 t243 t244 _ A20.out).mono ?_); rintro e w31 ⟨rfl, hb⟩; refine ⟨_, rfl, ?_⟩; have n0_ := Aside0.mk (below_step (by repeat (first | (with_reducible first | exact HB.out | apply below_alloc | apply pw_below_drewN | apply below_drew1) | exact HB.out)) hb); clear HB; have HB := n0_; clear n0_; (try clear hb); (try clear hb2); (try clear hk); (try clear hi)))
                          go_ret
                          exact ⟨by first | rfl | (simp [errW_none, errW_some] <;> rfl) | (simp [*, errW_none, errW_some] <;> rfl), by repeat (first | (with_reducible first | exact HB.out | apply below_alloc | apply pw_below_drewN | apply below_drew1) | exact HB.out)⟩
                      · rw [if_neg c19] at H
                        have c19b0 : decide (4096 < a0) = false := decide_eq_false c19
                        clear c19
                        replace H := Option.bind_eq_some_iff.mp H
                        obtain ⟨⟨t245, t246, t247⟩, A320, H⟩ := H
                        replace H : (if t241 = 0 then (if t247 = 0 then (if t245.toList = (x3_2 ++ (((⟨#[49, 61]⟩ : ByteArray) ++ t239) ++ (⟨#[1]⟩ : ByteArray))).toList then (if t246 = (t240.size : Int) then (some ((t245.size : Int) == a0)) else (some false)) else (some false)) else (some false)) else (some false)) = some r := H
                        have A32 := Aside0.mk A320
                        clear A320
                        by_cases c33 : t241 = 0
                        · rw [if_pos c33] at H
                          have c33b0 : (t241 == 0) = true := beq_iff_eq.mpr c33
                          have c33b1 : (t241 != 0) = false := bne_eq_false_iff_eq.mpr c33
                          clear c33
                          by_cases c34 : t247 = 0
                          · rw [if_pos c34] at H
                            have c34b0 : (t247 == 0) = true := beq_iff_eq.mpr c34
                            have c34b1 : (t247 != 0) = false := bne_eq_false_iff_eq.mpr c34
                            clear c34
                            by_cases c35 : t245.toList = (x3_2 ++ (((⟨#[49, 61]⟩ : ByteArray) ++ t239) ++ (⟨#[1]⟩ : ByteArray))).toList
                            · rw [if_pos c35] at H
                              have c35b0 : (t245.toList == (x3_2 ++ (((⟨#[49, 61]⟩ : ByteArray) ++ t239) ++ (⟨#[1]⟩ : ByteArray))).toList) = true := beq_iff_eq.mpr c35
                              have c35b1 : (t245.toList != (x3_2 ++ (((⟨#[49, 61]⟩ : ByteArray) ++ t239) ++ (⟨#[1]⟩ : ByteArray))).toList) = false := bne_eq_false_iff_eq.mpr c35
                              clear c35
                              by_cases c36 : t246 = (t240.size : Int)
                              · rw [if_pos c36] at H
                                have c36b0 : (t246 == (t240.size : Int)) = true := beq_iff_eq.mpr c36
                                have c36b1 : (t246 != (t240.size : Int)) = false := bne_eq_false_iff_eq.mpr c36
                                clear c36
                                obtain rfl := Option.some.inj H
                                go_wp2_with (first | ((with_reducible refine gate_callee (f := 12) rfl ?_); refine goesL_ (some 36) rfl rfl Tryd.func12 (by kernel_rfl) rfl #[.int .i64 (wrap64 ((wrap64 (a0 - (x3_2.size : Int))) - 3))] rfl (by (try simp only [List.map_toArray, List.map_cons, List.map_nil]); first | done | rfl | (simp only [List.length_drop, List.length_take]; rfl)) ?_; (with_reducible refine (spigotlaw10_text.calls (wrap64 ((wrap64 (a0 - (x3_2.size : Int))) - 3)) t239 _ A14.out).mono ?_); rintro e w37 ⟨rfl, hb⟩; refine ⟨_, rfl, ?_⟩; have n0_ := Aside0.mk (below_step (by repeat (first | (with_reducible first | exact HB.out | apply below_alloc | apply pw_below_drewN | apply below_drew1) | exact HB.out)) hb); clear HB; have HB := n0_; clear n0_; (try clear hb); (try clear hb2); (try clear hk); (try clear hi)) | ((with_reducible refine gate_callee (f := 10) rfl ?_); refine goesL_ (some 42) rfl rfl Tryd.func10 (by kernel_rfl) rfl #[.string (x3_2 ++ (((⟨#[49, 61]⟩ : ByteArray) ++ t239) ++ (⟨#[1]⟩ : ByteArray)))] rfl (by (try simp only [List.map_toArray, List.map_cons, List.map_nil]); first | done | rfl | (simp only [List.length_drop, List.length_take]; rfl)) ?_; (with_reducible refine (wire_Seal.calls (x3_2 ++ (((⟨#[49, 61]⟩ : ByteArray) ++ t239) ++ (⟨#[1]⟩ : ByteArray))) t240 t241 _ ?side1 A18.out).mono ?_); (case side1 => exact Aside0.mk (Tabs_.below hT_.out (by repeat (first | (with_reducible first | exact HB.out | apply below_alloc | apply pw_below_drewN | apply below_drew1) | exact HB.out)))); rintro e w38 ⟨rfl, hb⟩; refine ⟨_, rfl, ?_⟩; have n0_ := Aside0.mk (below_step (by repeat (first | (with_reducible first | exact HB.out | apply below_alloc | apply pw_below_drewN | apply below_drew1) | exact HB.out)) hb); clear HB; have HB := n0_; clear n0_; (try clear hb); (try clear hb2); (try clear hk); (try clear hi)) | ((with_reducible refine gate_callee (f := 13) rfl ?_); refine goesL_ (some 64) rfl rfl Tryd.func13 (by kernel_rfl) rfl #[.string t240] rfl (by (try simp only [List.map_toArray, List.map_cons, List.map_nil]); first | done | rfl | (simp only [List.length_drop, List.length_take]; rfl)) ?_; (with_reducible refine (wire_Open.calls t240 t245 t246 t247 _ A32.out).mono ?_); rintro e w39 ⟨rfl, hb⟩; refine ⟨_, rfl, ?_⟩; have n0_ := Aside0.mk (below_step (by repeat (first | (with_reducible first | exact HB.out | apply below_alloc | apply pw_below_drewN | apply below_drew1) | exact HB.out)) hb); clear HB; have HB := n0_; clear n0_; (try clear hb); (try clear hb2); (try clear hk); (try clear hi)))
                                go_ret
                                exact ⟨by first | rfl | (simp [errW_none, errW_some] <;> rfl) | (simp [*, errW_none, errW_some] <;> rfl), by repeat (first | (with_reducible first | exact HB.out | apply below_alloc | apply pw_below_drewN | apply below_drew1) | exact HB.out)⟩
                              · rw [if_neg c36] at H
                                have c36b0 : (t246 == (t240.size : Int)) = false := beq_eq_false_iff_ne.mpr c36
                                have c36b1 : (t246 != (t240.size : Int)) = true := bne_iff_ne.mpr c36
                                obtain rfl := Option.some.inj H
                                go_wp2_with (first | ((with_reducible refine gate_callee (f := 12) rfl ?_); refine goesL_ (some 36) rfl rfl Tryd.func12 (by kernel_rfl) rfl #[.int .i64 (wrap64 ((wrap64 (a0 - (x3_2.size : Int))) - 3))] rfl (by (try simp only [List.map_toArray, List.map_cons, List.map_nil]); first | done | rfl | (simp only [List.length_drop, List.length_take]; rfl)) ?_; (with_reducible refine (spigotlaw10_text.calls (wrap64 ((wrap64 (a0 - (x3_2.size : Int))) - 3)) t239 _ A14.out).mono ?_); rintro e w40 ⟨rfl, hb⟩; refine ⟨_, rfl, ?_⟩; have n0_ := Aside0.mk (below_step (by repeat (first | (with_reducible first | exact HB.out | apply below_alloc | apply pw_below_drewN | apply below_drew1) | exact HB.out)) hb); clear HB; have HB := n0_; clear n0_; (try clear hb); (try clear hb2); (try clear hk); (try clear hi)) | ((with_reducible refine gate_callee (f := 10) rfl ?_); refine goesL_ (some 42) rfl rfl Tryd.func10 (by kernel_rfl) rfl #[.string (x3_2 ++ (((⟨#[49, 61]⟩ : ByteArray) ++ t239) ++ (⟨#[1]⟩ : ByteArray)))] rfl (by (try simp only [List.map_toArray, List.map_cons, List.map_nil]); first | done | rfl | (simp only [List.length_drop, List.length_take]; rfl)) ?_; (with_reducible refine (wire_Seal.calls (x3_2 ++ (((⟨#[49, 61]⟩ : ByteArray) ++ t239) ++ (⟨#[1]⟩ : ByteArray))) t240 t241 _ ?side1 A18.out).mono ?_); (case side1 => exact Aside0.mk (Tabs_.below hT_.out (by repeat (first | (with_reducible first | exact HB.out | apply below_alloc | apply pw_below_drewN | apply below_drew1) | exact HB.out)))); rintro e w41 ⟨rfl, hb⟩; refine ⟨_, rfl, ?_⟩; have n0_ := Aside0.mk (below_step (by repeat (first | (with_reducible first | exact HB.out | apply below_alloc | apply pw_below_drewN | apply below_drew1) | exact HB.out)) hb); clear HB; have HB := n0_; clear n0_; (try clear hb); (try clear hb2); (try clear hk); (try clear hi)) | ((with_reducible refine gate_callee (f := 13) rfl ?_); refine goesL_ (some 64) rfl rfl Tryd.func13 (by kernel_rfl) rfl #[.string t240] rfl (by (try simp only [List.map_toArray, List.map_cons, List.map_nil]); first | done | rfl | (simp only [List.length_drop, List.length_take]; rfl)) ?_; (with_reducible refine (wire_Open.calls t240 t245 t246 t247 _ A32.out).mono ?_); rintro e w42 ⟨rfl, hb⟩; refine ⟨_, rfl, ?_⟩; have n0_ := Aside0.mk (below_step (by repeat (first | (with_reducible first | exact HB.out | apply below_alloc | apply pw_below_drewN | apply below_drew1) | exact HB.out)) hb); clear HB; have HB := n0_; clear n0_; (try clear hb); (try clear hb2); (try clear hk); (try clear hi)))
                                go_ret
                                exact ⟨by first | rfl | (simp [errW_none, errW_some] <;> rfl) | (simp [*, errW_none, errW_some] <;> rfl), by repeat (first | (with_reducible first | exact HB.out | apply below_alloc | apply pw_below_drewN | apply below_drew1) | exact HB.out)⟩
                            · rw [if_neg c35] at H
                              have c35b0 : (t245.toList == (x3_2 ++ (((⟨#[49, 61]⟩ : ByteArray) ++ t239) ++ (⟨#[1]⟩ : ByteArray))).toList) = false := beq_eq_false_iff_ne.mpr c35
                              have c35b1 : (t245.toList != (x3_2 ++ (((⟨#[49, 61]⟩ : ByteArray) ++ t239) ++ (⟨#[1]⟩ : ByteArray))).toList) = true := bne_iff_ne.mpr c35
                              obtain rfl := Option.some.inj H
                              go_wp2_with (first | ((with_reducible refine gate_callee (f := 12) rfl ?_); refine goesL_ (some 36) rfl rfl Tryd.func12 (by kernel_rfl) rfl #[.int .i64 (wrap64 ((wrap64 (a0 - (x3_2.size : Int))) - 3))] rfl (by (try simp only [List.map_toArray, List.map_cons, List.map_nil]); first | done | rfl | (simp only [List.length_drop, List.length_take]; rfl)) ?_; (with_reducible refine (spigotlaw10_text.calls (wrap64 ((wrap64 (a0 - (x3_2.size : Int))) - 3)) t239 _ A14.out).mono ?_); rintro e w43 ⟨rfl, hb⟩; refine ⟨_, rfl, ?_⟩; have n0_ := Aside0.mk (below_step (by repeat (first | (with_reducible first | exact HB.out | apply below_alloc | apply pw_below_drewN | apply below_drew1) | exact HB.out)) hb); clear HB; have HB := n0_; clear n0_; (try clear hb); (try clear hb2); (try clear hk); (try clear hi)) | ((with_reducible refine gate_callee (f := 10) rfl ?_); refine goesL_ (some 42) rfl rfl Tryd.func10 (by kernel_rfl) rfl #[.string (x3_2 ++ (((⟨#[49, 61]⟩ : ByteArray) ++ t239) ++ (⟨#[1]⟩ : ByteArray)))] rfl (by (try simp only [List.map_toArray, List.map_cons, List.map_nil]); first | done | rfl | (simp only [List.length_drop, List.length_take]; rfl)) ?_; (with_reducible refine (wire_Seal.calls (x3_2 ++ (((⟨#[49, 61]⟩ : ByteArray) ++ t239) ++ (⟨#[1]⟩ : ByteArray))) t240 t241 _ ?side1 A18.out).mono ?_); (case side1 => exact Aside0.mk (Tabs_.below hT_.out (by repeat (first | (with_reducible first | exact HB.out | apply below_alloc | apply pw_below_drewN | apply below_drew1) | exact HB.out)))); rintro e w44 ⟨rfl, hb⟩; refine ⟨_, rfl, ?_⟩; have n0_ := Aside0.mk (below_step (by repeat (first | (with_reducible first | exact HB.out | apply below_alloc | apply pw_below_drewN | apply below_drew1) | exact HB.out)) hb); clear HB; have HB := n0_; clear n0_; (try clear hb); (try clear hb2); (try clear hk); (try clear hi)) | ((with_reducible refine gate_callee (f := 13) rfl ?_); refine goesL_ (some 64) rfl rfl Tryd.func13 (by kernel_rfl) rfl #[.string t240] rfl (by (try simp only [List.map_toArray, List.map_cons, List.map_nil]); first | done | rfl | (simp only [List.length_drop, List.length_take]; rfl)) ?_; (with_reducible refine (wire_Open.calls t240 t245 t246 t247 _ A32.out).mono ?_); rintro e w45 ⟨rfl, hb⟩; refine ⟨_, rfl, ?_⟩; have n0_ := Aside0.mk (below_step (by repeat (first | (with_reducible first | exact HB.out | apply below_alloc | apply pw_below_drewN | apply below_drew1) | exact HB.out)) hb); clear HB; have HB := n0_; clear n0_; (try clear hb); (try clear hb2); (try clear hk); (try clear hi)))
                              go_ret
                              exact ⟨by first | rfl | (simp [errW_none, errW_some] <;> rfl) | (simp [*, errW_none, errW_some] <;> rfl), by repeat (first | (with_reducible first | exact HB.out | apply below_alloc | apply pw_below_drewN | apply below_drew1) | exact HB.out)⟩
                          · rw [if_neg c34] at H
                            have c34b0 : (t247 == 0) = false := beq_eq_false_iff_ne.mpr c34
                            have c34b1 : (t247 != 0) = true := bne_iff_ne.mpr c34
                            obtain rfl := Option.some.inj H
                            go_wp2_with (first | ((with_reducible refine gate_callee (f := 12) rfl ?_); refine goesL_ (some 36) rfl rfl Tryd.func12 (by kernel_rfl) rfl #[.int .i64 (wrap64 ((wrap64 (a0 - (x3_2.size : Int))) - 3))] rfl (by (try simp only [List.map_toArray, List.map_cons, List.map_nil]); first | done | rfl | (simp only [List.length_drop, List.length_take]; rfl)) ?_; (with_reducible refine (spigotlaw10_text.calls (wrap64 ((wrap64 (a0 - (x3_2.size : Int))) - 3)) t239 _ A14.out).mono ?_); rintro e w46 ⟨rfl, hb⟩; refine ⟨_, rfl, ?_⟩; have n0_ := Aside0.mk (below_step (by repeat (first | (with_reducible first | exact HB.out | apply below_alloc | apply pw_below_drewN | apply below_drew1) | exact HB.out)) hb); clear HB; have HB := n0_; clear n0_; (try clear hb); (try clear hb2); (try clear hk); (try clear hi)) | ((with_reducible refine gate_callee (f := 10) rfl ?_); refine goesL_ (some 42) rfl rfl Tryd.func10 (by kernel_rfl) rfl #[.string (x3_2 ++ (((⟨#[49, 61]⟩ : ByteArray) ++ t239) ++ (⟨#[1]⟩ : ByteArray)))] rfl (by (try simp only [List.map_toArray, List.map_cons, List.map_nil]); first | done | rfl | (simp only [List.length_drop, List.length_take]; rfl)) ?_; (with_reducible refine (wire_Seal.calls (x3_2 ++ (((⟨#[49, 61]⟩ : ByteArray) ++ t239) ++ (⟨#[1]⟩ : ByteArray))) t240 t241 _ ?side1 A18.out).mono ?_); (case side1 => exact Aside0.mk (Tabs_.below hT_.out (by repeat (first | (with_reducible first | exact HB.out | apply below_alloc | apply pw_below_drewN | apply below_drew1) | exact HB.out)))); rintro e w47 ⟨rfl, hb⟩; refine ⟨_, rfl, ?_⟩; have n0_ := Aside0.mk (below_step (by repeat (first | (with_reducible first | exact HB.out | apply below_alloc | apply pw_below_drewN | apply below_drew1) | exact HB.out)) hb); clear HB; have HB := n0_; clear n0_; (try clear hb); (try clear hb2); (try clear hk); (try clear hi)) | ((with_reducible refine gate_callee (f := 13) rfl ?_); refine goesL_ (some 64) rfl rfl Tryd.func13 (by kernel_rfl) rfl #[.string t240] rfl (by (try simp only [List.map_toArray, List.map_cons, List.map_nil]); first | done | rfl | (simp only [List.length_drop, List.length_take]; rfl)) ?_; (with_reducible refine (wire_Open.calls t240 t245 t246 t247 _ A32.out).mono ?_); rintro e w48 ⟨rfl, hb⟩; refine ⟨_, rfl, ?_⟩; have n0_ := Aside0.mk (below_step (by repeat (first | (with_reducible first | exact HB.out | apply below_alloc | apply pw_below_drewN | apply below_drew1) | exact HB.out)) hb); clear HB; have HB := n0_; clear n0_; (try clear hb); (try clear hb2); (try clear hk); (try clear hi)))
                            go_ret
                            exact ⟨by first | rfl | (simp [errW_none, errW_some] <;> rfl) | (simp [*, errW_none, errW_some] <;> rfl), by repeat (first | (with_reducible first | exact HB.out | apply below_alloc | apply pw_below_drewN | apply below_drew1) | exact HB.out)⟩
                        · rw [if_neg c33] at H
                          have c33b0 : (t241 == 0) = false := beq_eq_false_iff_ne.mpr c33
                          have c33b1 : (t241 != 0) = true := bne_iff_ne.mpr c33
                          obtain rfl := Option.some.inj H
                          go_wp2_with (first | ((with_reducible refine gate_callee (f := 12) rfl ?_); refine goesL_ (some 36) rfl rfl Tryd.func12 (by kernel_rfl) rfl #[.int .i64 (wrap64 ((wrap64 (a0 - (x3_2.size : Int))) - 3))] rfl (by (try simp only [List.map_toArray, List.map_cons, List.map_nil]); first | done | rfl | (simp only [List.length_drop, List.length_take]; rfl)) ?_; (with_reducible refine (spigotlaw10_text.calls (wrap64 ((wrap64 (a0 - (x3_2.size : Int))) - 3)) t239 _ A14.out).mono ?_); rintro e w49 ⟨rfl, hb⟩; refine ⟨_, rfl, ?_⟩; have n0_ := Aside0.mk (below_step (by repeat (first | (with_reducible first | exact HB.out | apply below_alloc | apply pw_below_drewN | apply below_drew1) | exact HB.out)) hb); clear HB; have HB := n0_; clear n0_; (try clear hb); (try clear hb2); (try clear hk); (try clear hi)) | ((with_reducible refine gate_callee (f := 10) rfl ?_); refine goesL_ (some 42) rfl rfl Tryd.func10 (by kernel_rfl) rfl #[.string (x3_2 ++ (((⟨#[49, 61]⟩ : ByteArray) ++ t239) ++ (⟨#[1]⟩ : ByteArray)))] rfl (by (try simp only [List.map_toArray, List.map_cons, List.map_nil]); first | done | rfl | (simp only [List.length_drop, List.length_take]; rfl)) ?_; (with_reducible refine (wire_Seal.calls (x3_2 ++ (((⟨#[49, 61]⟩ : ByteArray) ++ t239) ++ (⟨#[1]⟩ : ByteArray))) t240 t241 _ ?side1 A18.out).mono ?_); (case side1 => exact Aside0.mk (Tabs_.below hT_.out (by repeat (first | (with_reducible first | exact HB.out | apply below_alloc | apply pw_below_drewN | apply below_drew1) | exact HB.out)))); rintro e w50 ⟨rfl, hb⟩; refine ⟨_, rfl, ?_⟩; have n0_ := Aside0.mk (below_step (by repeat (first | (with_reducible first | exact HB.out | apply below_alloc | apply pw_below_drewN | apply below_drew1) | exact HB.out)) hb); clear HB; have HB := n0_; clear n0_; (try clear hb); (try clear hb2); (try clear hk); (try clear hi)) | ((with_reducible refine gate_callee (f := 13) rfl ?_); refine goesL_ (some 64) rfl rfl Tryd.func13 (by kernel_rfl) rfl #[.string t240] rfl (by (try simp only [List.map_toArray, List.map_cons, List.map_nil]); first | done | rfl | (simp only [List.length_drop, List.length_take]; rfl)) ?_; (with_reducible refine (wire_Open.calls t240 t245 t246 t247 _ A32.out).mono ?_); rintro e w51 ⟨rfl, hb⟩; refine ⟨_, rfl, ?_⟩; have n0_ := Aside0.mk (below_step (by repeat (first | (with_reducible first | exact HB.out | apply below_alloc | apply pw_below_drewN | apply below_drew1) | exact HB.out)) hb); clear HB; have HB := n0_; clear n0_; (try clear hb); (try clear hb2); (try clear hk); (try clear hi)))
                          go_ret
                          exact ⟨by first | rfl | (simp [errW_none, errW_some] <;> rfl) | (simp [*, errW_none, errW_some] <;> rfl), by repeat (first | (with_reducible first | exact HB.out | apply below_alloc | apply pw_below_drewN | apply below_drew1) | exact HB.out)⟩
                    · rw [if_neg c17] at H
                      exact absurd H (by simp)
                  · rw [if_neg c16] at H
                    exact absurd H (by simp)
                · rw [if_neg c15] at H
                  exact absurd H (by simp)
  · replace c3 := Bool.eq_false_iff.mpr c3
    subst c3
    have H1 : (some false) = some r := by rw [if_neg (show ¬ (false = true) by decide)] at H; exact H
    clear H
    have H := H1
    clear H1
    obtain rfl := Option.some.inj H
    go_enter Tryd.func4, Tryd.ntmps4
    go_wp2_with (first | ((with_reducible refine gate_callee (f := 9) rfl ?_); refine goesL_ (some 12) rfl rfl Tryd.func9 (by kernel_rfl) rfl #[] rfl (by (try simp only [List.map_toArray, List.map_cons, List.map_nil]); first | done | rfl | (simp only [List.length_drop, List.length_take]; rfl)) ?_; (with_reducible refine (spigotlaw10_awake.calls  false _ ?side1 A2.out).mono ?_); (case side1 => exact Aside0.mk (Tabs_.below hT_.out (by repeat (first | (with_reducible first | exact HB.out | apply below_alloc | apply pw_below_drewN | apply below_drew1) | exact HB.out)))); rintro e w52 ⟨rfl, hb⟩; refine ⟨_, rfl, ?_⟩; have n0_ := Aside0.mk (below_step (by repeat (first | (with_reducible first | exact HB.out | apply below_alloc | apply pw_below_drewN | apply below_drew1) | exact HB.out)) hb); clear HB; have HB := n0_; clear n0_; (try clear hb); (try clear hb2); (try clear hk); (try clear hi)))
    go_ret
    exact ⟨by first | rfl | (simp [errW_none, errW_some] <;> rfl) | (simp [*, errW_none, errW_some] <;> rfl), by repeat (first | (with_reducible first | exact HB.out | apply below_alloc | apply pw_below_drewN | apply below_drew1) | exact HB.out)⟩

/-- THE ONE PURE STATEMENT of spigotlaw10_WireLimits: yours. -/
def spigotlaw10_WireLimits.Pure : Prop := ∀ (a0 : Int), (Lit.int .i64 a0).wf = true → ∃ k, spigotlaw10_WireLimits.f k a0 = some true
theorem spigotlaw10_WireLimits.walk (P : spigotlaw10_WireLimits.Pure) (a0 : Int) (w : World) (hT_ : Aside0 (Tabs_ w)) (w0 : (Lit.int .i64 a0).wf = true) :
    Calls Tryd.prog 4 #[.int .i64 a0] w fun e w' => e = .returned (.bool true) ∧ Below w.heap.size w w' := by
  obtain ⟨k, h⟩ := P a0 w0
  refine (spigotlaw10_WireLimits.calls k a0 true w hT_ h).mono ?_
  rintro e w' ⟨rfl, hd⟩
  exact ⟨rfl, hd⟩

end Go.Proofs.YtgknfdjfgemceaaDoor.Q
