/- Each Go function that the laws of this seat reach, as a plain Lean function, and its contract: the machine's call does what that function says. -/
import Derived.Test.YtgknfdjfgemceaaDoorQx0
import Derived.Test.YtgknfdjfgemceaaDoorQx1
import Derived.Test.YtgknfdjfgemceaaDoorQx12
import Derived.Test.YtgknfdjfgemceaaDoorQx14
namespace Go.Proofs.YtgknfdjfgemceaaDoor.Q
open Go.RowKit Go.Proofs.YtgknfdjfgemceaaDoorW.PrintWords Go.Proofs.YtgknfdjfgemceaaDoorW.PrintLast Go.Proofs.YtgknfdjfgemceaaDoorW.PrintMore
attribute [local go_sem] max2_int min2_int max_two min_two max_three min_three max_four min_four   -- for this text's walks alone
set_option linter.unusedVariables false
set_option linter.unusedSimpArgs false

--PART
/-! ### spigotlaw10_awake_p: function 9 -/
def spigotlaw10_awake_p.f  : Option (Bool) := (wire_Seal.f (⟨#[51, 53, 61, 48, 1]⟩ : ByteArray)).bind fun bt127 => (if bt127.1.size + 1 ≤ 9223372036854775807 then ((wire_Open.f (bt127.1 ++ (⟨#[120]⟩ : ByteArray))).bind fun bt129 => (if bt127.2 = 0 then (if bt127.1.toList = ([56, 61, 70, 73, 88, 46, 52, 46, 52, 1, 57, 61, 53, 1, 51, 53, 61, 48, 1, 49, 48, 61, 49, 54, 51, 1] : List UInt8) then (if bt129.2.2 = 0 then (if bt129.1.toList = ([51, 53, 61, 48, 1] : List UInt8) then (some (bt129.2.1 == (bt127.1.size : Int))) else (some false)) else (some false)) else (some false)) else (some false))) else (none))
set_option maxHeartbeats 8000000 in
set_option maxRecDepth 100000 in
theorem spigotlaw10_awake_p.calls  (r : Bool) (w : World) (hT_ : Aside0 (Tabs_ w)) (h : spigotlaw10_awake_p.f  = some r) :
    Calls Tryd.prog 9 #[] w fun e w' => e = .returned (.bool r) ∧ Below w.heap.size w w' := by
  have HB := Aside0.mk (Below.refl w.heap.size w)
  have H : ((wire_Seal.f (⟨#[51, 53, 61, 48, 1]⟩ : ByteArray)).bind fun bt127 => (if bt127.1.size + 1 ≤ 9223372036854775807 then ((wire_Open.f (bt127.1 ++ (⟨#[120]⟩ : ByteArray))).bind fun bt129 => (if bt127.2 = 0 then (if bt127.1.toList = ([56, 61, 70, 73, 88, 46, 52, 46, 52, 1, 57, 61, 53, 1, 51, 53, 61, 48, 1, 49, 48, 61, 49, 54, 51, 1] : List UInt8) then (if bt129.2.2 = 0 then (if bt129.1.toList = ([51, 53, 61, 48, 1] : List UInt8) then (some (bt129.2.1 == (bt127.1.size : Int))) else (some false)) else (some false)) else (some false)) else (some false))) else (none))) = some r := h
  clear h
  replace H := Option.bind_eq_some_iff.mp H
  obtain ⟨⟨t127, t128⟩, A10, H⟩ := H
  replace H : (if t127.size + 1 ≤ 9223372036854775807 then ((wire_Open.f (t127 ++ (⟨#[120]⟩ : ByteArray))).bind fun bt129 => (if t128 = 0 then (if t127.toList = ([56, 61, 70, 73, 88, 46, 52, 46, 52, 1, 57, 61, 53, 1, 51, 53, 61, 48, 1, 49, 48, 61, 49, 54, 51, 1] : List UInt8) then (if bt129.2.2 = 0 then (if bt129.1.toList = ([51, 53, 61, 48, 1] : List UInt8) then (some (bt129.2.1 == (t127.size : Int))) else (some false)) else (some false)) else (some false)) else (some false))) else (none)) = some r := H
  have A1 := Aside0.mk A10
  clear A10
  by_cases c2 : t127.size + 1 ≤ 9223372036854775807
  · rw [if_pos c2] at H
    have c2b0 := eq_true c2
    have c2b1 : decide (t127.size + 1 ≤ 9223372036854775807) = true := decide_eq_true c2
    try have c2b2 : (9223372036854775807 < t127.size + 1) = False := eq_false (Nat.not_lt.2 c2)
    try (have c2b3 := c2; simp only [ByteArray.size_append, sz_lit, List.length_cons, List.length_nil, Nat.zero_add] at c2b3; have c2b4 := eq_false (Nat.not_lt.2 c2b3))
    replace H := Option.bind_eq_some_iff.mp H
    obtain ⟨⟨t129, t130, t131⟩, A30, H⟩ := H
    replace H : (if t128 = 0 then (if t127.toList = ([56, 61, 70, 73, 88, 46, 52, 46, 52, 1, 57, 61, 53, 1, 51, 53, 61, 48, 1, 49, 48, 61, 49, 54, 51, 1] : List UInt8) then (if t131 = 0 then (if t129.toList = ([51, 53, 61, 48, 1] : List UInt8) then (some (t130 == (t127.size : Int))) else (some false)) else (some false)) else (some false)) else (some false)) = some r := H
    have A3 := Aside0.mk A30
    clear A30
    by_cases c4 : t128 = 0
    · rw [if_pos c4] at H
      have c4b0 : (t128 == 0) = true := beq_iff_eq.mpr c4
      have c4b1 : (t128 != 0) = false := bne_eq_false_iff_eq.mpr c4
      clear c4
      by_cases c5 : t127.toList = ([56, 61, 70, 73, 88, 46, 52, 46, 52, 1, 57, 61, 53, 1, 51, 53, 61, 48, 1, 49, 48, 61, 49, 54, 51, 1] : List UInt8)
      · rw [if_pos c5] at H
        have c5b0 : (t127.toList == ([56, 61, 70, 73, 88, 46, 52, 46, 52, 1, 57, 61, 53, 1, 51, 53, 61, 48, 1, 49, 48, 61, 49, 54, 51, 1] : List UInt8)) = true := beq_iff_eq.mpr c5
        have c5b1 : (t127.toList != ([56, 61, 70, 73, 88, 46, 52, 46, 52, 1, 57, 61, 53, 1, 51, 53, 61, 48, 1, 49, 48, 61, 49, 54, 51, 1] : List UInt8)) = false := bne_eq_false_iff_eq.mpr c5
        clear c5
        by_cases c6 : t131 = 0
        · rw [if_pos c6] at H
          have c6b0 : (t131 == 0) = true := beq_iff_eq.mpr c6
          have c6b1 : (t131 != 0) = false := bne_eq_false_iff_eq.mpr c6
          clear c6
          by_cases c7 : t129.toList = ([51, 53, 61, 48, 1] : List UInt8)
          · rw [if_pos c7] at H
            have c7b0 : (t129.toList == ([51, 53, 61, 48, 1] : List UInt8)) = true := beq_iff_eq.mpr c7
            have c7b1 : (t129.toList != ([51, 53, 61, 48, 1] : List UInt8)) = false := bne_eq_false_iff_eq.mpr c7
            clear c7
            obtain rfl := Option.some.inj H
            go_enter Tryd.func9, Tryd.ntmps9
            go_wp2_with (first | ((with_reducible refine gate_callee (f := 10) rfl ?_); refine goesL_ (some 7) rfl rfl Tryd.func10 (by kernel_rfl) rfl #[.string (⟨#[51, 53, 61, 48, 1]⟩ : ByteArray)] rfl (by (try simp only [List.map_toArray, List.map_cons, List.map_nil]); first | done | rfl | (simp only [List.length_drop, List.length_take]; rfl)) ?_; (with_reducible refine (wire_Seal.calls (⟨#[51, 53, 61, 48, 1]⟩ : ByteArray) t127 t128 _ ?side1 A1.out).mono ?_); (case side1 => exact Aside0.mk (Tabs_.below hT_.out (by repeat (first | (with_reducible first | exact HB.out | apply below_alloc | apply pw_below_drewN | apply below_drew1) | exact HB.out)))); rintro e w8 ⟨rfl, hb⟩; refine ⟨_, rfl, ?_⟩; have n0_ := Aside0.mk (below_step (by repeat (first | (with_reducible first | exact HB.out | apply below_alloc | apply pw_below_drewN | apply below_drew1) | exact HB.out)) hb); clear HB; have HB := n0_; clear n0_; (try clear hb); (try clear hb2); (try clear hk); (try clear hi)) | ((with_reducible refine gate_callee (f := 13) rfl ?_); refine goesL_ (some 13) rfl rfl Tryd.func13 (by kernel_rfl) rfl #[.string (t127 ++ (⟨#[120]⟩ : ByteArray))] rfl (by (try simp only [List.map_toArray, List.map_cons, List.map_nil]); first | done | rfl | (simp only [List.length_drop, List.length_take]; rfl)) ?_; (with_reducible refine (wire_Open.calls (t127 ++ (⟨#[120]⟩ : ByteArray)) t129 t130 t131 _ A3.out).mono ?_); rintro e w9 ⟨rfl, hb⟩; refine ⟨_, rfl, ?_⟩; have n0_ := Aside0.mk (below_step (by repeat (first | (with_reducible first | exact HB.out | apply below_alloc | apply pw_below_drewN | apply below_drew1) | exact HB.out)) hb); clear HB; have HB := n0_; clear n0_; (try clear hb); (try clear hb2); (try clear hk); (try clear hi)))
            go_ret
            exact ⟨by first | rfl | (simp [errW_none, errW_some] <;> rfl) | (simp [*, errW_none, errW_some] <;> rfl), by repeat (first | (with_reducible first | exact HB.out | apply below_alloc | apply pw_below_drewN | apply below_drew1) | exact HB.out)⟩
          · rw [if_neg c7] at H
            have c7b0 : (t129.toList == ([51, 53, 61, 48, 1] : List UInt8)) = false := beq_eq_false_iff_ne.mpr c7
            have c7b1 : (t129.toList != ([51, 53, 61, 48, 1] : List UInt8)) = true := bne_iff_ne.mpr c7
            obtain rfl := Option.some.inj H
            go_enter Tryd.func9, Tryd.ntmps9
            go_wp2_with (first | ((with_reducible refine gate_callee (f := 10) rfl ?_); refine goesL_ (some 7) rfl rfl Tryd.func10 (by kernel_rfl) rfl #[.string (⟨#[51, 53, 61, 48, 1]⟩ : ByteArray)] rfl (by (try simp only [List.map_toArray, List.map_cons, List.map_nil]); first | done | rfl | (simp only [List.length_drop, List.length_take]; rfl)) ?_; (with_reducible refine (wire_Seal.calls (⟨#[51, 53, 61, 48, 1]⟩ : ByteArray) t127 t128 _ ?side1 A1.out).mono ?_); (case side1 => exact Aside0.mk (Tabs_.below hT_.out (by repeat (first | (with_reducible first | exact HB.out | apply below_alloc | apply pw_below_drewN | apply below_drew1) | exact HB.out)))); rintro e w10 ⟨rfl, hb⟩; refine ⟨_, rfl, ?_⟩; have n0_ := Aside0.mk (below_step (by repeat (first | (with_reducible first | exact HB.out | apply below_alloc | apply pw_below_drewN | apply below_drew1) | exact HB.out)) hb); clear HB; have HB := n0_; clear n0_; (try clear hb); (try clear hb2); (try clear hk); (try clear hi)) | ((with_reducible refine gate_callee (f := 13) rfl ?_); refine goesL_ (some 13) rfl rfl Tryd.func13 (by kernel_rfl) rfl #[.string (t127 ++ (⟨#[120]⟩ : ByteArray))] rfl (by (try simp only [List.map_toArray, List.map_cons, List.map_nil]); first | done | rfl | (simp only [List.length_drop, List.length_take]; rfl)) ?_; (with_reducible refine (wire_Open.calls (t127 ++ (⟨#[120]⟩ : ByteArray)) t129 t130 t131 _ A3.out).mono ?_); rintro e w11 ⟨rfl, hb⟩; refine ⟨_, rfl, ?_⟩; have n0_ := Aside0.mk (below_step (by repeat (first | (with_reducible first | exact HB.out | apply below_alloc | apply pw_below_drewN | apply below_drew1) | exact HB.out)) hb); clear HB; have HB := n0_; clear n0_; (try clear hb); (try clear hb2); (try clear hk); (try clear hi)))
            go_ret
            exact ⟨by first | rfl | (simp [errW_none, errW_some] <;> rfl) | (simp [*, errW_none, errW_some] <;> rfl), by repeat (first | (with_reducible first | exact HB.out | apply below_alloc | apply pw_below_drewN | apply below_drew1) | exact HB.out)⟩
        · rw [if_neg c6] at H
          have c6b0 : (t131 == 0) = false := beq_eq_false_iff_ne.mpr c6
          have c6b1 : (t131 != 0) = true := bne_iff_ne.mpr c6
          obtain rfl := Option.some.inj H
          go_enter Tryd.func9, Tryd.ntmps9
          go_wp2_with (first | ((with_reducible refine gate_callee (f := 10) rfl ?_); refine goesL_ (some 7) rfl rfl Tryd.func10 (by kernel_rfl) rfl #[.string (⟨#[51, 53, 61, 48, 1]⟩ : ByteArray)] rfl (by (try simp only [List.map_toArray, List.map_cons, List.map_nil]); first | done | rfl | (simp only [List.length_drop, List.length_take]; rfl)) ?_; (with_reducible refine (wire_Seal.calls (⟨#[51, 53, 61, 48, 1]⟩ : ByteArray) t127 t128 _ ?side1 A1.out).mono ?_); (case side1 => exact Aside0.mk (Tabs_.below hT_.out (by repeat (first | (with_reducible first | exact HB.out | apply below_alloc | apply pw_below_drewN | apply below_drew1) | exact HB.out)))); rintro e w12 ⟨rfl, hb⟩; refine ⟨_, rfl, ?_⟩; have n0_ := Aside0.mk (below_step (by repeat (first | (with_reducible first | exact HB.out | apply below_alloc | apply pw_below_drewN | apply below_drew1) | exact HB.out)) hb); clear HB; have HB := n0_; clear n0_; (try clear hb); (try clear hb2); (try clear hk); (try clear hi)) | ((with_reducible refine gate_callee (f := 13) rfl ?_); refine goesL_ (some 13) rfl rfl Tryd.func13 (by kernel_rfl) rfl #[.string (t127 ++ (⟨#[120]⟩ : ByteArray))] rfl (by (try simp only [List.map_toArray, List.map_cons, List.map_nil]); first | done | rfl | (simp only [List.length_drop, List.length_take]; rfl)) ?_; (with_reducible refine (wire_Open.calls (t127 ++ (⟨#[120]⟩ : ByteArray)) t129 t130 t131 _ A3.out).mono ?_); rintro e w13 ⟨rfl, hb⟩; refine ⟨_, rfl, ?_⟩; have n0_ := Aside0.mk (below_step (by repeat (first | (with_reducible first | exact HB.out | apply below_alloc | apply pw_below_drewN | apply below_drew1) | exact HB.out)) hb); clear HB; have HB := n0_; clear n0_; (try clear hb); (try clear hb2); (try clear hk); (try clear hi)))
          go_ret
          exact ⟨by first | rfl | (simp [errW_none, errW_some] <;> rfl) | (simp [*, errW_none, errW_some] <;> rfl), by repeat (first | (with_reducible first | exact HB.out | apply below_alloc | apply pw_below_drewN | apply below_drew1) | exact HB.out)⟩
      · rw [if_neg c5] at H
        have c5b0 : (t127.toList == ([56, 61, 70, 73, 88, 46, 52, 46, 52, 1, 57, 61, 53, 1, 51, 53, 61, 48, 1, 49, 48, 61, 49, 54, 51, 1] : List UInt8)) = false := beq_eq_false_iff_ne.mpr c5
        have c5b1 : (t127.toList != ([56, 61, 70, 73, 88, 46, 52, 46, 52, 1, 57, 61, 53, 1, 51, 53, 61, 48, 1, 49, 48, 61, 49, 54, 51, 1] : List UInt8)) = true := bne_iff_ne.mpr c5
        obtain rfl := Option.some.inj H
        go_enter Tryd.func9, Tryd.ntmps9
        go_wp2_with (first | ((with_reducible refine gate_callee (f := 10) rfl ?_); refine goesL_ (some 7) rfl rfl Tryd.func10 (by kernel_rfl) rfl #[.string (⟨#[51, 53, 61, 48, 1]⟩ : ByteArray)] rfl (by (try simp only [List.map_toArray, List.map_cons, List.map_nil]); first | done | rfl | (simp only [List.length_drop, List.length_take]; rfl)) ?_; (with_reducible refine (wire_Seal.calls (⟨#[51, 53, 61, 48, 1]⟩ : ByteArray) t127 t128 _ ?side1 A1.out).mono ?_); (case side1 => exact Aside0.mk (Tabs_.below hT_.out (by repeat (first | (with_reducible first | exact HB.out | apply below_alloc | apply pw_below_drewN | apply below_drew1) | exact HB.out)))); rintro e w14 ⟨rfl, hb⟩; refine ⟨_, rfl, ?_⟩; have n0_ := Aside0.mk (below_step (by repeat (first | (with_reducible first | exact HB.out | apply below_alloc | apply pw_below_drewN | apply below_drew1) | exact HB.out)) hb); clear HB; have HB := n0_; clear n0_; (try clear hb); (try clear hb2); (try clear hk); (try clear hi)) | ((with_reducible refine gate_callee (f := 13) rfl ?_); refine goesL_ (some 13) rfl rfl Tryd.func13 (by kernel_rfl) rfl #[.string (t127 ++ (⟨#[120]⟩ : ByteArray))] rfl (by (try simp only [List.map_toArray, List.map_cons, List.map_nil]); first | done | rfl | (simp only [List.length_drop, List.length_take]; rfl)) ?_; (with_reducible refine (wire_Open.calls (t127 ++ (⟨#[120]⟩ : ByteArray)) t129 t130 t131 _ A3.out).mono ?_); rintro e w15 ⟨rfl, hb⟩; refine ⟨_, rfl, ?_⟩; have n0_ := Aside0.mk (below_step (by repeat (first | (with_reducible first | exact HB.out | apply below_alloc | apply pw_below_drewN | apply below_drew1) | exact HB.out)) hb); clear HB; have HB := n0_; clear n0_; (try clear hb); (try clear hb2); (try clear hk); (try clear hi)))
        go_ret
        exact ⟨by first | rfl | (simp [errW_none, errW_some] <;> rfl) | (simp [*, errW_none, errW_some] <;> rfl), by repeat (first | (with_reducible first | exact HB.out | apply below_alloc | apply pw_below_drewN | apply below_drew1) | exact HB.out)⟩
    · rw [if_neg c4] at H
      have c4b0 : (t128 == 0) = false := beq_eq_false_iff_ne.mpr c4
      have c4b1 : (t128 != 0) = true := bne_iff_ne.mpr c4
      obtain rfl := Option.some.inj H
      go_enter Tryd.func9, Tryd.ntmps9
      go_wp2_with (first | ((with_reducible refine gate_callee (f := 10) rfl ?_); refine goesL_ (some 7) rfl rfl Tryd.func10 (by kernel_rfl) rfl #[.string (⟨#[51, 53, 61, 48, 1]⟩ : ByteArray)] rfl (by (try simp only [List.map_toArray, List.map_cons, List.map_nil]); first | done | rfl | (simp only [List.length_drop, List.length_take]; rfl)) ?_; (with_reducible refine (wire_Seal.calls (⟨#[51, 53, 61, 48, 1]⟩ : ByteArray) t127 t128 _ ?side1 A1.out).mono ?_); (case side1 => exact Aside0.mk (Tabs_.below hT_.out (by repeat (first | (with_reducible first | exact HB.out | apply below_alloc | apply pw_below_drewN | apply below_drew1) | exact HB.out)))); rintro e w16 ⟨rfl, hb⟩; refine ⟨_, rfl, ?_⟩; have n0_ := Aside0.mk (below_step (by repeat (first | (with_reducible first | exact HB.out | apply below_alloc | apply pw_below_drewN | apply below_drew1) | exact HB.out)) hb); clear HB; have HB := n0_; clear n0_; (try clear hb); (try clear hb2); (try clear hk); (try clear hi)) | ((with_reducible refine gate_callee (f := 13) rfl ?_); refine goesL_ (some 13) rfl rfl Tryd.func13 (by kernel_rfl) rfl #[.string (t127 ++ (⟨#[120]⟩ : ByteArray))] rfl (by (try simp only [List.map_toArray, List.map_cons, List.map_nil]); first | done | rfl | (simp only [List.length_drop, List.length_take]; rfl)) ?_; (with_reducible refine (wire_Open.calls (t127 ++ (⟨#[120]⟩ : ByteArray)) t129 t130 t131 _ A3.out).mono ?_); rintro e w17 ⟨rfl, hb⟩; refine ⟨_, rfl, ?_⟩; have n0_ := Aside0.mk (below_step (by repeat (first | (with_reducible first | exact HB.out | apply below_alloc | apply pw_below_drewN | apply below_drew1) | exact HB.out)) hb); clear HB; have HB := n0_; clear n0_; (try clear hb); (try clear hb2); (try clear hk); (try clear hi)))
      go_ret
      exact ⟨by first | rfl | (simp [errW_none, errW_some] <;> rfl) | (simp [*, errW_none, errW_some] <;> rfl), by repeat (first | (with_reducible first | exact HB.out | apply below_alloc | apply pw_below_drewN | apply below_drew1) | exact HB.out)⟩
  · rw [if_neg c2] at H
    exact absurd H (by simp)
/-! ### spigotlaw10_awake: function 9 -/
theorem spigotlaw10_awake_eq : spigotlaw10_awake_p.f = some true := by
  have hf : formL 35 [48] = ([51, 53, 61, 48, 1], 0) := by
    unfold formL valueL
    rw [allMay_cons _ (by simp), dec_ascii _ _ (by decide)]
    simp only [List.drop_succ_cons, List.drop_zero, allMay_nil]
    rw [digitsN_step (by decide), digitsN_small (by decide)]
    decide
  have hfs : formsL [(35, [48])] = ([51, 53, 61, 48, 1], 0) := by simp [formsL, hf]
  have hfd := fieldsL_formed [(35, [48])] 0 0 (by rw [hfs]) (by decide)
  rw [hfs] at hfd
  have hm : msgL [51, 53, 61, 48, 1] = [56, 61, 70, 73, 88, 46, 52, 46, 52, 1, 57, 61, 53, 1, 51, 53, 61, 48, 1, 49, 48, 61, 49, 54, 51, 1] := by
    unfold msgL
    rw [show ([51, 53, 61, 48, 1] : List UInt8).length = 5 from rfl, digitsN_small (by decide)]
    decide
  have hs : sealB ⟨#[51, 53, 61, 48, 1]⟩ = (⟨#[56, 61, 70, 73, 88, 46, 52, 46, 52, 1, 57, 61, 53, 1, 51, 53, 61, 48, 1, 49, 48, 61, 49, 54, 51, 1]⟩, 0) := by
    unfold sealB
    rw [if_pos (by decide), hfd, hm]; rfl
  have ho := openL_of [51, 53, 61, 48, 1] [120] (by decide) (by decide) (by rw [hfd])
  rw [hm] at ho
  unfold spigotlaw10_awake_p.f wire_Seal.f
  rw [hs]
  simp only [Option.bind_some]
  rw [if_pos (by decide)]
  unfold wire_Open.f
  rw [if_pos (by decide)]
  rw [show ((⟨#[56, 61, 70, 73, 88, 46, 52, 46, 52, 1, 57, 61, 53, 1, 51, 53, 61, 48, 1, 49, 48, 61, 49, 54, 51, 1]⟩ : ByteArray) ++ (⟨#[120]⟩ : ByteArray)).data.toList = [56, 61, 70, 73, 88, 46, 52, 46, 52, 1, 57, 61, 53, 1, 51, 53, 61, 48, 1, 49, 48, 61, 49, 54, 51, 1] ++ [120] by simp [ByteArray.data_append], ho]
  simp only [Option.bind_some]
  simp only [ByteArray.toList_eq]
  decide
def spigotlaw10_awake.f : Option Bool := some true
theorem spigotlaw10_awake.calls (r : Bool) (w : World) (hT_ : Aside0 (Tabs_ w)) (h : spigotlaw10_awake.f = some r) :
    Calls Tryd.prog 9 #[] w fun e w' => e = .returned (.bool r) ∧ Below w.heap.size w w' :=
  spigotlaw10_awake_p.calls r w hT_ (spigotlaw10_awake_eq.trans h)

end Go.Proofs.YtgknfdjfgemceaaDoor.Q
