/- Each Go function that the laws of this seat reach, as a plain Lean function, and its contract: the machine's call does what that function says. -/
import Derived.Test.YtgknfdjfgemceaaDoorQx0
import Derived.Test.YtgknfdjfgemceaaDoorQx1
import Derived.Test.YtgknfdjfgemceaaDoorQx20
import Derived.Test.YtgknfdjfgemceaaDoorQx24
namespace Go.Proofs.YtgknfdjfgemceaaDoor.Q
open Go.RowKit Go.Proofs.YtgknfdjfgemceaaDoorW.PrintWords Go.Proofs.YtgknfdjfgemceaaDoorW.PrintLast Go.Proofs.YtgknfdjfgemceaaDoorW.PrintMore
attribute [local go_sem] max2_int min2_int max_two min_two max_three min_three max_four min_four   -- for this text's walks alone
set_option linter.unusedVariables false
set_option linter.unusedSimpArgs false

--PART
/-! ### spigotref10_Open_p: function 14 -/
mutual
def spigotref10_Open_p.l0 : Nat → ByteArray → Int → Option (ByteArray × Int × Int)
  | 0, _, _ => none
  | k + 1, x0, x5 => if x5 < 12 then (if x5 ≥ (x0.size : Int) then (some ((⟨#[]⟩ : ByteArray), 0, 100)) else (if 0 ≤ x5 then (if x5 < (x0.size : Int) then (if (bt x0 x5) = (bt (⟨#[56, 61, 70, 73, 88, 46, 52, 46, 52, 1, 57, 61]⟩ : ByteArray) x5) then (spigotref10_Open_p.l0 k x0 (wrap64 (x5 + 1))) else (some ((⟨#[]⟩ : ByteArray), 0, 101))) else (none)) else (none))) else (spigotref10_Open_p.l1 k x0 12 12 0)
def spigotref10_Open_p.l1 : Nat → ByteArray → Int → Int → Int → Option (ByteArray × Int × Int)
  | 0, _, _, _, _ => none
  | k + 1, x0, x6, x7, x8 => if x7 ≥ (x0.size : Int) then (spigotref10_Open_p.j2 k x0 x6 x7 x8 true) else (if 0 ≤ x7 then (if x7 < (x0.size : Int) then (if (bt x0 x7) = 1 then (spigotref10_Open_p.j2 k x0 x6 x7 x8 (x7 == x6)) else (spigotref10_Open_p.j2 k x0 x6 x7 x8 true)) else (none)) else (none))
def spigotref10_Open_p.j2 : Nat → ByteArray → Int → Int → Int → Bool → Option (ByteArray × Int × Int)
  | 0, _, _, _, _, _ => none
  | k + 1, x0, x6, x7, x8, x42 => if x42 = true then (if x7 ≥ (x0.size : Int) then (some ((⟨#[]⟩ : ByteArray), 0, 100)) else (if 0 ≤ x7 then (if x7 < (x0.size : Int) then (if (bt x0 x7) < 48 then (spigotref10_Open_p.j3 k x0 x6 x7 x8 true) else (if (bt x0 x7) > 57 then (spigotref10_Open_p.j3 k x0 x6 x7 x8 true) else (if x7 = x6 then (spigotref10_Open_p.j3 k x0 x6 x7 x8 ((bt x0 x7) == 48)) else (spigotref10_Open_p.j3 k x0 x6 x7 x8 false)))) else (none)) else (none))) else (if (x0.size : Int) < (wrap64 ((wrap64 ((wrap64 (x7 + 1)) + x8)) + 7)) then (some ((⟨#[]⟩ : ByteArray), 0, 100)) else (if 0 ≤ (wrap64 (x7 + 1)) then (if (wrap64 (x7 + 1)) ≤ (wrap64 ((wrap64 (x7 + 1)) + x8)) then (if (wrap64 ((wrap64 (x7 + 1)) + x8)) ≤ (x0.size : Int) then (if 0 ≤ (wrap64 ((wrap64 ((wrap64 (x7 + 1)) + x8)) + 7)) then (if (wrap64 ((wrap64 ((wrap64 (x7 + 1)) + x8)) + 7)) ≤ (x0.size : Int) then ((spigotref10_Form.f (x0.extract ((wrap64 (x7 + 1)) : Int).toNat ((wrap64 ((wrap64 (x7 + 1)) + x8)) : Int).toNat)).bind fun t163 => (if (x0.extract 0 ((wrap64 ((wrap64 ((wrap64 (x7 + 1)) + x8)) + 7)) : Int).toNat).toList = t163.toList then ((spigotref08_Fields.f (x0.extract ((wrap64 (x7 + 1)) : Int).toNat ((wrap64 ((wrap64 (x7 + 1)) + x8)) : Int).toNat)).bind fun bt164 => (if bt164.2.2 = 0 then (some (x0.extract ((wrap64 (x7 + 1)) : Int).toNat ((wrap64 ((wrap64 (x7 + 1)) + x8)) : Int).toNat, wrap64 ((wrap64 ((wrap64 (x7 + 1)) + x8)) + 7), 0)) else (some ((⟨#[]⟩ : ByteArray), 0, bt164.2.2)))) else (some ((⟨#[]⟩ : ByteArray), 0, 103)))) else (none)) else (none)) else (none)) else (none)) else (none)))
def spigotref10_Open_p.j3 : Nat → ByteArray → Int → Int → Int → Bool → Option (ByteArray × Int × Int)
  | 0, _, _, _, _, _ => none
  | k + 1, x0, x6, x7, x8, x67 => if x67 = true then (some ((⟨#[]⟩ : ByteArray), 0, 102)) else (if 0 ≤ x7 then (if x7 < (x0.size : Int) then (if (wrap64 ((wrap64 (10 * x8)) + (((bt x0 x7) - 48) % 256))) > 4096 then (some ((⟨#[]⟩ : ByteArray), 0, 102)) else (spigotref10_Open_p.l1 k x0 x6 (wrap64 (x7 + 1)) (wrap64 ((wrap64 (10 * x8)) + (((bt x0 x7) - 48) % 256))))) else (none)) else (none))
end
def spigotref10_Open_p.f (k : Nat) (a0 : ByteArray) : Option (ByteArray × Int × Int) := spigotref10_Open_p.l0 k a0 0
theorem spigotref10_Open_p.mono_l : ∀ k, (∀ y0 y1, LeO (spigotref10_Open_p.l0 k y0 y1) (spigotref10_Open_p.l0 (k + 1) y0 y1)) ∧ (∀ y0 y1 y2 y3, LeO (spigotref10_Open_p.l1 k y0 y1 y2 y3) (spigotref10_Open_p.l1 (k + 1) y0 y1 y2 y3)) ∧ (∀ y0 y1 y2 y3 y4, LeO (spigotref10_Open_p.j2 k y0 y1 y2 y3 y4) (spigotref10_Open_p.j2 (k + 1) y0 y1 y2 y3 y4)) ∧ (∀ y0 y1 y2 y3 y4, LeO (spigotref10_Open_p.j3 k y0 y1 y2 y3 y4) (spigotref10_Open_p.j3 (k + 1) y0 y1 y2 y3 y4))
  | 0 => ⟨fun _ _ r h => by simp [spigotref10_Open_p.l0] at h, fun _ _ _ _ r h => by simp [spigotref10_Open_p.l1] at h, fun _ _ _ _ _ r h => by simp [spigotref10_Open_p.j2] at h, fun _ _ _ _ _ r h => by simp [spigotref10_Open_p.j3] at h⟩
  | k + 1 => by
    obtain ⟨ih0, ih1, ih2, ih3⟩ := spigotref10_Open_p.mono_l k
    refine ⟨?_, ?_, ?_, ?_⟩
    · intro y0 y1
      unfold spigotref10_Open_p.l0
      repeat' first
      | (with_reducible exact ih0 _ _)
      | (with_reducible exact ih1 _ _ _ _)
      | (with_reducible exact ih2 _ _ _ _ _)
      | (with_reducible exact ih3 _ _ _ _ _)
      | (with_reducible exact LeO.refl _)
      | (with_reducible exact LeO.none _)
      | (with_reducible refine LeO.ite ?_ ?_)
      | (with_reducible refine LeO.bind ?_ (fun _ => ?_))
      | exact ih0 _ _
      | exact ih1 _ _ _ _
      | exact ih2 _ _ _ _ _
      | exact ih3 _ _ _ _ _
      | exact LeO.none _
      | refine LeO.ite ?_ ?_
      | refine LeO.bind ?_ (fun _ => ?_)
    · intro y0 y1 y2 y3
      unfold spigotref10_Open_p.l1
      repeat' first
      | (with_reducible exact ih0 _ _)
      | (with_reducible exact ih1 _ _ _ _)
      | (with_reducible exact ih2 _ _ _ _ _)
      | (with_reducible exact ih3 _ _ _ _ _)
      | (with_reducible exact LeO.refl _)
      | (with_reducible exact LeO.none _)
      | (with_reducible refine LeO.ite ?_ ?_)
      | (with_reducible refine LeO.bind ?_ (fun _ => ?_))
      | exact ih0 _ _
      | exact ih1 _ _ _ _
      | exact ih2 _ _ _ _ _
      | exact ih3 _ _ _ _ _
      | exact LeO.none _
      | refine LeO.ite ?_ ?_
      | refine LeO.bind ?_ (fun _ => ?_)
    · intro y0 y1 y2 y3 y4
      unfold spigotref10_Open_p.j2
      repeat' first
      | (with_reducible exact ih0 _ _)
      | (with_reducible exact ih1 _ _ _ _)
      | (with_reducible exact ih2 _ _ _ _ _)
      | (with_reducible exact ih3 _ _ _ _ _)
      | (with_reducible exact LeO.refl _)
      | (with_reducible exact LeO.none _)
      | (with_reducible refine LeO.ite ?_ ?_)
      | (with_reducible refine LeO.bind ?_ (fun _ => ?_))
      | exact ih0 _ _
      | exact ih1 _ _ _ _
      | exact ih2 _ _ _ _ _
      | exact ih3 _ _ _ _ _
      | exact LeO.none _
      | refine LeO.ite ?_ ?_
      | refine LeO.bind ?_ (fun _ => ?_)
    · intro y0 y1 y2 y3 y4
      unfold spigotref10_Open_p.j3
      repeat' first
      | (with_reducible exact ih0 _ _)
      | (with_reducible exact ih1 _ _ _ _)
      | (with_reducible exact ih2 _ _ _ _ _)
      | (with_reducible exact ih3 _ _ _ _ _)
      | (with_reducible exact LeO.refl _)
      | (with_reducible exact LeO.none _)
      | (with_reducible refine LeO.ite ?_ ?_)
      | (with_reducible refine LeO.bind ?_ (fun _ => ?_))
      | exact ih0 _ _
      | exact ih1 _ _ _ _
      | exact ih2 _ _ _ _ _
      | exact ih3 _ _ _ _ _
      | exact LeO.none _
      | refine LeO.ite ?_ ?_
      | refine LeO.bind ?_ (fun _ => ?_)
theorem spigotref10_Open_p.mono : ∀ a0 k, LeO (spigotref10_Open_p.f k a0) (spigotref10_Open_p.f (k + 1) a0) := by
  intro a0 k
  obtain ⟨ih0, ih1, ih2, ih3⟩ := spigotref10_Open_p.mono_l k
  unfold spigotref10_Open_p.f
  repeat' first
      | (with_reducible exact ih0 _ _)
      | (with_reducible exact ih1 _ _ _ _)
      | (with_reducible exact ih2 _ _ _ _ _)
      | (with_reducible exact ih3 _ _ _ _ _)
      | (with_reducible exact LeO.refl _)
      | (with_reducible exact LeO.none _)
      | (with_reducible refine LeO.ite ?_ ?_)
      | (with_reducible refine LeO.bind ?_ (fun _ => ?_))
      | exact ih0 _ _
      | exact ih1 _ _ _ _
      | exact ih2 _ _ _ _ _
      | exact ih3 _ _ _ _ _
      | exact LeO.none _
      | refine LeO.ite ?_ ?_
      | refine LeO.bind ?_ (fun _ => ?_)
def spigotref10_Open_p.T24 : Bool × List (List Nat × List Nat) := (true, [([], []), ([], []), ([], []), ([1, 2], [1, 2]), ([3], [3]), ([0, 4], [0, 4]), ([], []), ([6], [6]), ([5, 7], [5, 7])])
def spigotref10_Open_p.B24 : List Nat := [0, 0, 0, 6, 14, 31, 0, 64, 255]
theorem spigotref10_Open_p.tab24 : rtab .any (opsOf Tryd.f14 24) = spigotref10_Open_p.T24 := by kernel_rfl
theorem spigotref10_Open_p.bits24 : waitsOk spigotref10_Open_p.T24.2 spigotref10_Open_p.B24 = true := by kernel_rfl
set_option maxHeartbeats 8000000 in
set_option maxRecDepth 100000 in
theorem spigotref10_Open_p.calls (k : Nat) (a0 : ByteArray) (r1 : ByteArray) (r2 : Int) (r3 : Int) (w : World) (h : spigotref10_Open_p.f k a0 = some (r1, r2, r3)) :
    Calls Tryd.prog 14 #[.string a0] w fun e w' => e = .returned (.tuple #[.string r1, .int .i64 r2, .int .i64 r3]) ∧ Below w.heap.size w w' := by
  have HB := Aside0.mk (Below.refl w.heap.size w)
  have H : (spigotref10_Open_p.l0 k a0 0) = some (r1, r2, r3) := h
  clear h
  have H' := Aside0.mk H
  clear H
  go_enter Tryd.func14, Tryd.ntmps14
  go_wp2
  go_loopg [5] k (fun kq v5 w' => ∃ (x5_1 : Int), v5 = .int .i64 x5_1 ∧ Aside0 (spigotref10_Open_p.l0 kq a0 x5_1 = some (r1, r2, r3)) ∧ Aside0 (kq ≤ k) ∧ Aside0 (Below w.heap.size w w'))
  case atStart => exact ⟨(0), (by first | rfl | (simp; done) | (simp [*]; done)), H', ⟨Nat.le_refl _⟩, ⟨by repeat (first | (with_reducible first | exact HB.out | apply below_alloc | apply pw_below_drewN | apply below_drew1) | exact HB.out)⟩⟩
  case round =>
    clear H'
    try clear c1
    obtain ⟨x5_1, rfl, HA, HK1, HB⟩ := hrel
    cases gk with
    | zero => exact absurd HA.out (by simp [spigotref10_Open_p.l0])
    | succ k1 =>
      have H := HA.out
      clear HA
      simp only [spigotref10_Open_p.l0] at H
      by_cases c2 : x5_1 < 12
      · rw [if_pos c2] at H
        have c2b0 : decide (x5_1 < 12) = true := decide_eq_true c2
        clear c2
        by_cases c3 : x5_1 ≥ (a0.size : Int)
        · rw [if_pos c3] at H
          have c3b0 : decide ((a0.size : Int) ≤ x5_1) = true := decide_eq_true c3
          clear c3
          simp only [Option.some.injEq, Prod.mk.injEq] at H
          obtain ⟨rfl, rfl, rfl⟩ := H
          go_wp2
          go_ret3
          exact ⟨by first | rfl | (simp [errW_none, errW_some] <;> rfl) | (simp [*, errW_none, errW_some] <;> rfl), by repeat (first | (with_reducible first | exact HB.out | apply below_alloc | apply pw_below_drewN | apply below_drew1) | exact HB.out)⟩
        · rw [if_neg c3] at H
          have c3b0 : decide ((a0.size : Int) ≤ x5_1) = false := decide_eq_false c3
          clear c3
          by_cases c4 : 0 ≤ x5_1
          · rw [if_pos c4] at H
            have c4b0 : decide (0 ≤ x5_1) = true := decide_eq_true c4
            clear c4
            by_cases c5 : x5_1 < (a0.size : Int)
            · rw [if_pos c5] at H
              have c5b0 : decide (x5_1 < (a0.size : Int)) = true := decide_eq_true c5
              clear c5
              by_cases c8 : (bt a0 x5_1) = (bt (⟨#[56, 61, 70, 73, 88, 46, 52, 46, 52, 1, 57, 61]⟩ : ByteArray) x5_1)
              · rw [if_pos c8] at H
                have c8b0 : ((bt a0 x5_1) == (bt (⟨#[56, 61, 70, 73, 88, 46, 52, 46, 52, 1, 57, 61]⟩ : ByteArray) x5_1)) = true := beq_iff_eq.mpr c8
                have c8b1 : ((bt a0 x5_1) != (bt (⟨#[56, 61, 70, 73, 88, 46, 52, 46, 52, 1, 57, 61]⟩ : ByteArray) x5_1)) = false := bne_eq_false_iff_eq.mpr c8
                clear c8
                have H' := Aside0.mk H
                clear H
                try go_wp2
                have n0_ := Aside0.mk (below_drew1 HB.out)
                clear HB
                have HB := n0_
                clear n0_
                have p6 : 0 ≤ (x5_1 : Int) := of_decide_eq_true (by first | (with_reducible assumption) | assumption)
                have q6 : x5_1 < (a0.size : Int) := of_decide_eq_true (by first | (with_reducible assumption) | assumption)
                have hx6 := bt_at a0 x5_1
                replace p6 := eq_true p6
                replace q6 := eq_true q6
                have p7 : 0 ≤ (x5_1 : Int) := of_decide_eq_true (by first | (with_reducible assumption) | assumption)
                have q7 : x5_1 < (12 : Int) := of_decide_eq_true (by first | (with_reducible assumption) | assumption)
                have hx7 := bt_at (⟨#[56, 61, 70, 73, 88, 46, 52, 46, 52, 1, 57, 61]⟩ : ByteArray) x5_1
                replace p7 := eq_true p7
                replace q7 := eq_true q7
                refine start_ (n := 6) (S := fun w' => True) (ds := []) #[false, false, false, false, false, false] (by kernel_rfl) rfl rfl trivial (fun hHeld => ?_)
                generalize wr.drew = w9 at HB hHeld ⊢
                refine pure_ (i := 0) (N := some 21) (v := ?_) (a' := ?_) #[true, false, false, false, false, false] rfl rfl (by kernel_rfl) (fun _ _ _ h => h) (Or.inl ⟨by rfl, ?_⟩) ?_ ?_
                rotate_left
                · intro w'
                  go_simp
                  with_reducible rfl
                rotate_left
                · simp only [Act.put, List.setIfInBounds_toArray, List.set_cons_zero, List.set_cons_succ, i64_w, i32_w]
                  rfl
                refine pure_ (i := 1) (N := some 22) (v := ?_) (a' := ?_) #[true, true, false, false, false, false] rfl rfl (by kernel_rfl) (fun _ _ _ h => h) (Or.inl ⟨by rfl, ?_⟩) ?_ ?_
                rotate_left
                · intro w'
                  go_simp
                  with_reducible rfl
                rotate_left
                · simp only [Act.put, List.setIfInBounds_toArray, List.set_cons_zero, List.set_cons_succ, i64_w, i32_w]
                  rfl
                refine pure_ (i := 3) (N := some 24) (v := ?_) (a' := ?_) #[true, true, false, true, false, false] rfl rfl (by kernel_rfl) (fun _ _ _ h => h) (Or.inl ⟨by rfl, ?_⟩) ?_ ?_
                rotate_left
                · intro w'
                  go_simp
                  with_reducible rfl
                rotate_left
                · simp only [Act.put, List.setIfInBounds_toArray, List.set_cons_zero, List.set_cons_succ, i64_w, i32_w]
                  rfl
                refine take_ (i := 2) (N := some 23) (v := ?_) (a' := ?_) #[true, true, true, true, false, false] rfl rfl (by kernel_rfl) (fun _ _ _ h => h) (Or.inl ⟨by rfl, ?_⟩) hHeld ?_ ?_
                rotate_left
                · intro w' _
                  go_simp
                  with_reducible rfl
                rotate_left
                · simp only [Act.put, List.setIfInBounds_toArray, List.set_cons_zero, List.set_cons_succ, i64_w, i32_w]
                  rfl
                refine take_ (i := 4) (N := some 25) (v := ?_) (a' := ?_) #[true, true, true, true, true, false] rfl rfl (by kernel_rfl) (fun _ _ _ h => h) (Or.inl ⟨by rfl, ?_⟩) hHeld ?_ ?_
                rotate_left
                · intro w' _
                  go_simp
                  with_reducible rfl
                rotate_left
                · simp only [Act.put, List.setIfInBounds_toArray, List.set_cons_zero, List.set_cons_succ, i64_w, i32_w]
                  rfl
                refine pure_ (i := 5) (N := some 26) (v := ?_) (a' := ?_) #[true, true, true, true, true, true] rfl rfl (by kernel_rfl) (fun _ _ _ h => h) (Or.inl ⟨by rfl, ?_⟩) ?_ ?_
                rotate_left
                · intro w'
                  go_simp
                  with_reducible rfl
                rotate_left
                · simp only [Act.put, List.setIfInBounds_toArray, List.set_cons_zero, List.set_cons_succ, i64_w, i32_w]
                  rfl
                refine done_ (by kernel_rfl) ?_
                try go_wp2
                go_roundg k1
                case measure => have := HK1.out; omega
                case rel => exact ⟨(wrap64 (x5_1 + 1)), (by first | rfl | (simp; done) | (simp [*]; done)), H', ⟨by have := HK1.out; omega⟩, ⟨by repeat (first | (with_reducible first | exact HB.out | apply below_alloc | apply pw_below_drewN | apply below_drew1) | exact HB.out)⟩⟩
              · rw [if_neg c8] at H
                have c8b0 : ((bt a0 x5_1) == (bt (⟨#[56, 61, 70, 73, 88, 46, 52, 46, 52, 1, 57, 61]⟩ : ByteArray) x5_1)) = false := beq_eq_false_iff_ne.mpr c8
                have c8b1 : ((bt a0 x5_1) != (bt (⟨#[56, 61, 70, 73, 88, 46, 52, 46, 52, 1, 57, 61]⟩ : ByteArray) x5_1)) = true := bne_iff_ne.mpr c8
                simp only [Option.some.injEq, Prod.mk.injEq] at H
                obtain ⟨rfl, rfl, rfl⟩ := H
                try go_wp2
                have n0_ := Aside0.mk (below_drew1 HB.out)
                clear HB
                have HB := n0_
                clear n0_
                have p6 : 0 ≤ (x5_1 : Int) := of_decide_eq_true (by first | (with_reducible assumption) | assumption)
                have q6 : x5_1 < (a0.size : Int) := of_decide_eq_true (by first | (with_reducible assumption) | assumption)
                have hx6 := bt_at a0 x5_1
                replace p6 := eq_true p6
                replace q6 := eq_true q6
                have p7 : 0 ≤ (x5_1 : Int) := of_decide_eq_true (by first | (with_reducible assumption) | assumption)
                have q7 : x5_1 < (12 : Int) := of_decide_eq_true (by first | (with_reducible assumption) | assumption)
                have hx7 := bt_at (⟨#[56, 61, 70, 73, 88, 46, 52, 46, 52, 1, 57, 61]⟩ : ByteArray) x5_1
                replace p7 := eq_true p7
                replace q7 := eq_true q7
                refine start_ (n := 6) (S := fun w' => True) (ds := []) #[false, false, false, false, false, false] (by kernel_rfl) rfl rfl trivial (fun hHeld => ?_)
                generalize wr.drew = w10 at HB hHeld ⊢
                refine pure_ (i := 0) (N := some 21) (v := ?_) (a' := ?_) #[true, false, false, false, false, false] rfl rfl (by kernel_rfl) (fun _ _ _ h => h) (Or.inl ⟨by rfl, ?_⟩) ?_ ?_
                rotate_left
                · intro w'
                  go_simp
                  with_reducible rfl
                rotate_left
                · simp only [Act.put, List.setIfInBounds_toArray, List.set_cons_zero, List.set_cons_succ, i64_w, i32_w]
                  rfl
                refine pure_ (i := 1) (N := some 22) (v := ?_) (a' := ?_) #[true, true, false, false, false, false] rfl rfl (by kernel_rfl) (fun _ _ _ h => h) (Or.inl ⟨by rfl, ?_⟩) ?_ ?_
                rotate_left
                · intro w'
                  go_simp
                  with_reducible rfl
                rotate_left
                · simp only [Act.put, List.setIfInBounds_toArray, List.set_cons_zero, List.set_cons_succ, i64_w, i32_w]
                  rfl
                refine pure_ (i := 3) (N := some 24) (v := ?_) (a' := ?_) #[true, true, false, true, false, false] rfl rfl (by kernel_rfl) (fun _ _ _ h => h) (Or.inl ⟨by rfl, ?_⟩) ?_ ?_
                rotate_left
                · intro w'
                  go_simp
                  with_reducible rfl
                rotate_left
                · simp only [Act.put, List.setIfInBounds_toArray, List.set_cons_zero, List.set_cons_succ, i64_w, i32_w]
                  rfl
                refine take_ (i := 2) (N := some 23) (v := ?_) (a' := ?_) #[true, true, true, true, false, false] rfl rfl (by kernel_rfl) (fun _ _ _ h => h) (Or.inl ⟨by rfl, ?_⟩) hHeld ?_ ?_
                rotate_left
                · intro w' _
                  go_simp
                  with_reducible rfl
                rotate_left
                · simp only [Act.put, List.setIfInBounds_toArray, List.set_cons_zero, List.set_cons_succ, i64_w, i32_w]
                  rfl
                refine take_ (i := 4) (N := some 25) (v := ?_) (a' := ?_) #[true, true, true, true, true, false] rfl rfl (by kernel_rfl) (fun _ _ _ h => h) (Or.inl ⟨by rfl, ?_⟩) hHeld ?_ ?_
                rotate_left
                · intro w' _
                  go_simp
                  with_reducible rfl
                rotate_left
                · simp only [Act.put, List.setIfInBounds_toArray, List.set_cons_zero, List.set_cons_succ, i64_w, i32_w]
                  rfl
                refine pure_ (i := 5) (N := some 26) (v := ?_) (a' := ?_) #[true, true, true, true, true, true] rfl rfl (by kernel_rfl) (fun _ _ _ h => h) (Or.inl ⟨by rfl, ?_⟩) ?_ ?_
                rotate_left
                · intro w'
                  go_simp
                  with_reducible rfl
                rotate_left
                · simp only [Act.put, List.setIfInBounds_toArray, List.set_cons_zero, List.set_cons_succ, i64_w, i32_w]
                  rfl
                refine done_ (by kernel_rfl) ?_
                try go_wp2
                go_ret3
                exact ⟨by first | rfl | (simp [errW_none, errW_some] <;> rfl) | (simp [*, errW_none, errW_some] <;> rfl), by repeat (first | (with_reducible first | exact HB.out | apply below_alloc | apply pw_below_drewN | apply below_drew1) | exact HB.out)⟩
            · rw [if_neg c5] at H
              exact absurd H (by simp)
          · rw [if_neg c4] at H
            exact absurd H (by simp)
      · rw [if_neg c2] at H
        have c2b0 : decide (x5_1 < 12) = false := decide_eq_false c2
        clear c2
        have H' := Aside0.mk H
        clear H
        go_wp2
        go_loopg [7, 8] k1 (fun kq v7 v8 w' => ∃ (x7_2 : Int) (x8_2 : Int), v7 = .int .i64 x7_2 ∧ v8 = .int .i64 x8_2 ∧ Aside0 (spigotref10_Open_p.l1 kq a0 12 x7_2 x8_2 = some (r1, r2, r3)) ∧ Aside0 (kq ≤ k1) ∧ Aside0 (Below w.heap.size w w'))
        case atStart => exact ⟨(12), (0), (by first | rfl | (simp; done) | (simp [*]; done)), (by first | rfl | (simp; done) | (simp [*]; done)), H', ⟨Nat.le_refl _⟩, ⟨by repeat (first | (with_reducible first | exact HB.out | apply below_alloc | apply pw_below_drewN | apply below_drew1) | exact HB.out)⟩⟩
        case round =>
          clear H'
          try clear c1
          try clear c2
          try clear c2b0
          try clear p2
          try clear c3
          try clear c3b0
          try clear c4
          try clear c4b0
          try clear c5
          try clear c5b0
          try clear p6
          try clear q6
          try clear hx6
          try clear p7
          try clear q7
          try clear hx7
          try clear c8
          try clear c8b0
          try clear c8b1
          try clear p6
          try clear p7
          try clear q6
          try clear q7
          obtain ⟨x7_2, x8_2, rfl, rfl, HA, HK2, HB⟩ := hrel
          cases gk with
          | zero => exact absurd HA.out (by simp [spigotref10_Open_p.l1])
          | succ k2 =>
            have H := HA.out
            clear HA
            simp only [spigotref10_Open_p.l1] at H
            have HC11 := Aside0.mk H
            clear H
            go_upto_region 11 with (fail)
            go_cut [42] (fun v42 wc => ∃ (kq : Nat) (x42_10 : Bool), v42 = .bool x42_10 ∧ Aside0 (spigotref10_Open_p.j2 kq a0 12 x7_2 x8_2 x42_10 = some (r1, r2, r3)) ∧ Aside0 (kq ≤ k2) ∧ Aside0 (Below w.heap.size w wc))
            case first =>
              have H := HC11.out
              clear HC11
              by_cases c12 : x7_2 ≥ (a0.size : Int)
              · rw [if_pos c12] at H
                have c12b0 : decide ((a0.size : Int) ≤ x7_2) = true := decide_eq_true c12
                clear c12
                (first | rw [c12b0] | (simp only [i64_w, i32_w]; rw [c12b0]) | skip)
                have H' := Aside0.mk H
                clear H
                go_wp2
                go_meet
                case rel => exact ⟨_, (true), (by first | rfl | (simp; done) | (simp [*]; done)), H', ⟨by have := HK1.out; have := HK2.out; first | omega | exact Nat.le_refl _⟩, ⟨by repeat (first | (with_reducible first | exact HB.out | apply below_alloc | apply pw_below_drewN | apply below_drew1) | exact HB.out)⟩⟩
              · rw [if_neg c12] at H
                have c12b0 : decide ((a0.size : Int) ≤ x7_2) = false := decide_eq_false c12
                clear c12
                (first | rw [c12b0] | (simp only [i64_w, i32_w]; rw [c12b0]) | skip)
                by_cases c13 : 0 ≤ x7_2
                · rw [if_pos c13] at H
                  have c13b0 : decide (0 ≤ x7_2) = true := decide_eq_true c13
                  clear c13
                  by_cases c14 : x7_2 < (a0.size : Int)
                  · rw [if_pos c14] at H
                    have c14b0 : decide (x7_2 < (a0.size : Int)) = true := decide_eq_true c14
                    clear c14
                    by_cases c16 : (bt a0 x7_2) = 1
                    · rw [if_pos c16] at H
                      have c16b0 : ((bt a0 x7_2) == 1) = true := beq_iff_eq.mpr c16
                      have c16b1 : ((bt a0 x7_2) != 1) = false := bne_eq_false_iff_eq.mpr c16
                      clear c16
                      have H' := Aside0.mk H
                      clear H
                      have p15 : 0 ≤ (x7_2 : Int) := of_decide_eq_true (by first | (with_reducible assumption) | assumption)
                      have q15 : x7_2 < (a0.size : Int) := of_decide_eq_true (by first | (with_reducible assumption) | assumption)
                      have hx15 := bt_at a0 x7_2
                      replace p15 := eq_true p15
                      replace q15 := eq_true q15
                      go_wp2
                      go_meet
                      case rel => exact ⟨_, ((x7_2 == 12)), (by first | rfl | (simp; done) | (simp [*]; done)), H', ⟨by have := HK1.out; have := HK2.out; first | omega | exact Nat.le_refl _⟩, ⟨by repeat (first | (with_reducible first | exact HB.out | apply below_alloc | apply pw_below_drewN | apply below_drew1) | exact HB.out)⟩⟩
                    · rw [if_neg c16] at H
                      have c16b0 : ((bt a0 x7_2) == 1) = false := beq_eq_false_iff_ne.mpr c16
                      have c16b1 : ((bt a0 x7_2) != 1) = true := bne_iff_ne.mpr c16
                      have H' := Aside0.mk H
                      clear H
                      have p15 : 0 ≤ (x7_2 : Int) := of_decide_eq_true (by first | (with_reducible assumption) | assumption)
                      have q15 : x7_2 < (a0.size : Int) := of_decide_eq_true (by first | (with_reducible assumption) | assumption)
                      have hx15 := bt_at a0 x7_2
                      replace p15 := eq_true p15
                      replace q15 := eq_true q15
                      go_wp2
                      go_meet
                      case rel => exact ⟨_, (true), (by first | rfl | (simp; done) | (simp [*]; done)), H', ⟨by have := HK1.out; have := HK2.out; first | omega | exact Nat.le_refl _⟩, ⟨by repeat (first | (with_reducible first | exact HB.out | apply below_alloc | apply pw_below_drewN | apply below_drew1) | exact HB.out)⟩⟩
                  · rw [if_neg c14] at H
                    exact absurd H (by simp)
                · rw [if_neg c13] at H
                  exact absurd H (by simp)
            case rest =>
              clear HC11
              try clear c1
              try clear p1
              try clear q1
              try clear hx1
              try clear c2
              try clear c2b0
              try clear p2
              try clear c3
              try clear c3b0
              try clear c4
              try clear c4b0
              try clear c5
              try clear c5b0
              try clear p6
              try clear q6
              try clear hx6
              try clear p7
              try clear q7
              try clear hx7
              try clear c8
              try clear c8b0
              try clear c8b1
              try clear c12
              try clear c12b0
              try clear c13
              try clear c13b0
              try clear c14
              try clear c14b0
              try clear p15
              try clear q15
              try clear hx15
              try clear c16
              try clear c16b0
              try clear c16b1
              try clear p15
              try clear p2
              try clear p6
              try clear p7
              try clear q15
              try clear q6
              try clear q7
              obtain ⟨kq, x42_10, rfl, HA, HJ10, HB⟩ := hcut
              cases kq with
              | zero => exact absurd HA.out (by simp [spigotref10_Open_p.j2])
              | succ kj10 =>
                have H := HA.out
                clear HA
                simp only [spigotref10_Open_p.j2] at H
                by_cases c17 : x42_10 = true
                · subst c17
                  have H1 : (if x7_2 ≥ (a0.size : Int) then (some ((⟨#[]⟩ : ByteArray), 0, 100)) else (if 0 ≤ x7_2 then (if x7_2 < (a0.size : Int) then (if (bt a0 x7_2) < 48 then (spigotref10_Open_p.j3 kj10 a0 12 x7_2 x8_2 true) else (if (bt a0 x7_2) > 57 then (spigotref10_Open_p.j3 kj10 a0 12 x7_2 x8_2 true) else (if x7_2 = 12 then (spigotref10_Open_p.j3 kj10 a0 12 x7_2 x8_2 ((bt a0 x7_2) == 48)) else (spigotref10_Open_p.j3 kj10 a0 12 x7_2 x8_2 false)))) else (none)) else (none))) = some (r1, r2, r3) := by rw [if_pos rfl] at H; exact H
                  clear H
                  have H := H1
                  clear H1
                  by_cases c18 : x7_2 ≥ (a0.size : Int)
                  · rw [if_pos c18] at H
                    have c18b0 : decide ((a0.size : Int) ≤ x7_2) = true := decide_eq_true c18
                    clear c18
                    simp only [Option.some.injEq, Prod.mk.injEq] at H
                    obtain ⟨rfl, rfl, rfl⟩ := H
                    go_wp2
                    go_ret3
                    exact ⟨by first | rfl | (simp [errW_none, errW_some] <;> rfl) | (simp [*, errW_none, errW_some] <;> rfl), by repeat (first | (with_reducible first | exact HB.out | apply below_alloc | apply pw_below_drewN | apply below_drew1) | exact HB.out)⟩
                  · rw [if_neg c18] at H
                    have c18b0 : decide ((a0.size : Int) ≤ x7_2) = false := decide_eq_false c18
                    clear c18
                    have HC19 := Aside0.mk H
                    clear H
                    go_upto_region 14 with (fail)
                    go_cut [67] (fun v67 wc => ∃ (kq : Nat) (x67_18 : Bool), v67 = .bool x67_18 ∧ Aside0 (spigotref10_Open_p.j3 kq a0 12 x7_2 x8_2 x67_18 = some (r1, r2, r3)) ∧ Aside0 (kq ≤ kj10) ∧ Aside0 (Below w.heap.size w wc))
                    case first =>
                      have H := HC19.out
                      clear HC19
                      by_cases c20 : 0 ≤ x7_2
                      · rw [if_pos c20] at H
                        have c20b0 : decide (0 ≤ x7_2) = true := decide_eq_true c20
                        clear c20
                        (first | rw [c20b0] | (simp only [i64_w, i32_w]; rw [c20b0]) | skip)
                        by_cases c21 : x7_2 < (a0.size : Int)
                        · rw [if_pos c21] at H
                          have c21b0 : decide (x7_2 < (a0.size : Int)) = true := decide_eq_true c21
                          clear c21
                          by_cases c23 : (bt a0 x7_2) < 48
                          · rw [if_pos c23] at H
                            have c23b0 : decide ((bt a0 x7_2) < 48) = true := decide_eq_true c23
                            clear c23
                            have H' := Aside0.mk H
                            clear H
                            have p22 : 0 ≤ (x7_2 : Int) := of_decide_eq_true (by first | (with_reducible assumption) | assumption)
                            have q22 : x7_2 < (a0.size : Int) := of_decide_eq_true (by first | (with_reducible assumption) | assumption)
                            have hx22 := bt_at a0 x7_2
                            replace p22 := eq_true p22
                            replace q22 := eq_true q22
                            go_wp2
                            go_meet
                            case rel => exact ⟨_, (true), (by first | rfl | (simp; done) | (simp [*]; done)), H', ⟨by have := HK1.out; have := HK2.out; have := HJ10.out; first | omega | exact Nat.le_refl _⟩, ⟨by repeat (first | (with_reducible first | exact HB.out | apply below_alloc | apply pw_below_drewN | apply below_drew1) | exact HB.out)⟩⟩
                          · rw [if_neg c23] at H
                            have c23b0 : decide ((bt a0 x7_2) < 48) = false := decide_eq_false c23
                            clear c23
                            by_cases c25 : (bt a0 x7_2) > 57
                            · rw [if_pos c25] at H
                              have c25b0 : decide (57 < (bt a0 x7_2)) = true := decide_eq_true c25
                              clear c25
                              have H' := Aside0.mk H
                              clear H
                              have p22 : 0 ≤ (x7_2 : Int) := of_decide_eq_true (by first | (with_reducible assumption) | assumption)
                              have q22 : x7_2 < (a0.size : Int) := of_decide_eq_true (by first | (with_reducible assumption) | assumption)
                              have hx22 := bt_at a0 x7_2
                              replace p22 := eq_true p22
                              replace q22 := eq_true q22
                              have p24 : 0 ≤ (x7_2 : Int) := of_decide_eq_true (by first | (with_reducible assumption) | assumption)
                              have q24 : x7_2 < (a0.size : Int) := of_decide_eq_true (by first | (with_reducible assumption) | assumption)
                              have hx24 := bt_at a0 x7_2
                              replace p24 := eq_true p24
                              replace q24 := eq_true q24
                              go_wp2
                              go_meet
                              case rel => exact ⟨_, (true), (by first | rfl | (simp; done) | (simp [*]; done)), H', ⟨by have := HK1.out; have := HK2.out; have := HJ10.out; first | omega | exact Nat.le_refl _⟩, ⟨by repeat (first | (with_reducible first | exact HB.out | apply below_alloc | apply pw_below_drewN | apply below_drew1) | exact HB.out)⟩⟩
                            · rw [if_neg c25] at H
                              have c25b0 : decide (57 < (bt a0 x7_2)) = false := decide_eq_false c25
                              clear c25
                              by_cases c26 : x7_2 = 12
                              · rw [if_pos c26] at H
                                have c26b0 : (x7_2 == 12) = true := beq_iff_eq.mpr c26
                                have c26b1 : (x7_2 != 12) = false := bne_eq_false_iff_eq.mpr c26
                                clear c26
                                have H' := Aside0.mk H
                                clear H
                                have p22 : 0 ≤ (x7_2 : Int) := of_decide_eq_true (by first | (with_reducible assumption) | assumption)
                                have q22 : x7_2 < (a0.size : Int) := of_decide_eq_true (by first | (with_reducible assumption) | assumption)
                                have hx22 := bt_at a0 x7_2
                                replace p22 := eq_true p22
                                replace q22 := eq_true q22
                                have p24 : 0 ≤ (x7_2 : Int) := of_decide_eq_true (by first | (with_reducible assumption) | assumption)
                                have q24 : x7_2 < (a0.size : Int) := of_decide_eq_true (by first | (with_reducible assumption) | assumption)
                                have hx24 := bt_at a0 x7_2
                                replace p24 := eq_true p24
                                replace q24 := eq_true q24
                                have p27 : 0 ≤ (x7_2 : Int) := of_decide_eq_true (by first | (with_reducible assumption) | assumption)
                                have q27 : x7_2 < (a0.size : Int) := of_decide_eq_true (by first | (with_reducible assumption) | assumption)
                                have hx27 := bt_at a0 x7_2
                                replace p27 := eq_true p27
                                replace q27 := eq_true q27
                                go_wp2
                                go_meet
                                case rel => exact ⟨_, (((bt a0 x7_2) == 48)), (by first | rfl | (simp; done) | (simp [*]; done)), H', ⟨by have := HK1.out; have := HK2.out; have := HJ10.out; first | omega | exact Nat.le_refl _⟩, ⟨by repeat (first | (with_reducible first | exact HB.out | apply below_alloc | apply pw_below_drewN | apply below_drew1) | exact HB.out)⟩⟩
                              · rw [if_neg c26] at H
                                have c26b0 : (x7_2 == 12) = false := beq_eq_false_iff_ne.mpr c26
                                have c26b1 : (x7_2 != 12) = true := bne_iff_ne.mpr c26
                                have H' := Aside0.mk H
                                clear H
                                have p22 : 0 ≤ (x7_2 : Int) := of_decide_eq_true (by first | (with_reducible assumption) | assumption)
                                have q22 : x7_2 < (a0.size : Int) := of_decide_eq_true (by first | (with_reducible assumption) | assumption)
                                have hx22 := bt_at a0 x7_2
                                replace p22 := eq_true p22
                                replace q22 := eq_true q22
                                have p24 : 0 ≤ (x7_2 : Int) := of_decide_eq_true (by first | (with_reducible assumption) | assumption)
                                have q24 : x7_2 < (a0.size : Int) := of_decide_eq_true (by first | (with_reducible assumption) | assumption)
                                have hx24 := bt_at a0 x7_2
                                replace p24 := eq_true p24
                                replace q24 := eq_true q24
                                go_wp2
                                go_meet
                                case rel => exact ⟨_, (false), (by first | rfl | (simp; done) | (simp [*]; done)), H', ⟨by have := HK1.out; have := HK2.out; have := HJ10.out; first | omega | exact Nat.le_refl _⟩, ⟨by repeat (first | (with_reducible first | exact HB.out | apply below_alloc | apply pw_below_drewN | apply below_drew1) | exact HB.out)⟩⟩
                        · rw [if_neg c21] at H
                          exact absurd H (by simp)
                      · rw [if_neg c20] at H
                        exact absurd H (by simp)
                    case rest =>
                      clear HC19
                      try clear c1
                      try clear p1
                      try clear q1
                      try clear hx1
                      try clear c2
                      try clear c2b0
                      try clear p2
                      try clear q2
                      try clear hx2
                      try clear c3
                      try clear c3b0
                      try clear c4
                      try clear c4b0
                      try clear c5
                      try clear c5b0
                      try clear p6
                      try clear q6
                      try clear hx6
                      try clear p7
                      try clear q7
                      try clear hx7
                      try clear c8
                      try clear c8b0
                      try clear c8b1
                      try clear c12
                      try clear c12b0
                      try clear c13
                      try clear c13b0
                      try clear c14
                      try clear c14b0
                      try clear p15
                      try clear q15
                      try clear hx15
                      try clear c16
                      try clear c16b0
                      try clear c16b1
                      try clear c17
                      try clear c18
                      try clear c18b0
                      try clear c20
                      try clear c20b0
                      try clear c21
                      try clear c21b0
                      try clear p22
                      try clear q22
                      try clear hx22
                      try clear c23
                      try clear c23b0
                      try clear p24
                      try clear q24
                      try clear hx24
                      try clear c25
                      try clear c25b0
                      try clear c26
                      try clear c26b0
                      try clear c26b1
                      try clear p27
                      try clear q27
                      try clear hx27
                      try clear p1
                      try clear p15
                      try clear p2
                      try clear p22
                      try clear p24
                      try clear p27
                      try clear p6
                      try clear p7
                      try clear q1
                      try clear q15
                      try clear q22
                      try clear q24
                      try clear q27
                      try clear q6
                      try clear q7
                      obtain ⟨kq, x67_18, rfl, HA, HJ18, HB⟩ := hcut
                      cases kq with
                      | zero => exact absurd HA.out (by simp [spigotref10_Open_p.j3])
                      | succ kj18 =>
                        have H := HA.out
                        clear HA
                        simp only [spigotref10_Open_p.j3] at H
                        by_cases c28 : x67_18 = true
                        · subst c28
                          have H1 : (some ((⟨#[]⟩ : ByteArray), 0, 102)) = some (r1, r2, r3) := by rw [if_pos rfl] at H; exact H
                          clear H
                          have H := H1
                          clear H1
                          simp only [Option.some.injEq, Prod.mk.injEq] at H
                          obtain ⟨rfl, rfl, rfl⟩ := H
                          go_wp2
                          go_ret3
                          exact ⟨by first | rfl | (simp [errW_none, errW_some] <;> rfl) | (simp [*, errW_none, errW_some] <;> rfl), by repeat (first | (with_reducible first | exact HB.out | apply below_alloc | apply pw_below_drewN | apply below_drew1) | exact HB.out)⟩
                        · replace c28 := Bool.eq_false_iff.mpr c28
                          subst c28
                          have H1 : (if 0 ≤ x7_2 then (if x7_2 < (a0.size : Int) then (if (wrap64 ((wrap64 (10 * x8_2)) + (((bt a0 x7_2) - 48) % 256))) > 4096 then (some ((⟨#[]⟩ : ByteArray), 0, 102)) else (spigotref10_Open_p.l1 kj18 a0 12 (wrap64 (x7_2 + 1)) (wrap64 ((wrap64 (10 * x8_2)) + (((bt a0 x7_2) - 48) % 256))))) else (none)) else (none)) = some (r1, r2, r3) := by rw [if_neg (show ¬ (false = true) by decide)] at H; exact H
                          clear H
                          have H := H1
                          clear H1
                          by_cases c29 : 0 ≤ x7_2
                          · rw [if_pos c29] at H
                            have c29b0 : decide (0 ≤ x7_2) = true := decide_eq_true c29
                            clear c29
                            by_cases c30 : x7_2 < (a0.size : Int)
                            · rw [if_pos c30] at H
                              have c30b0 : decide (x7_2 < (a0.size : Int)) = true := decide_eq_true c30
                              clear c30
                              by_cases c32 : (wrap64 ((wrap64 (10 * x8_2)) + (((bt a0 x7_2) - 48) % 256))) > 4096
                              · rw [if_pos c32] at H
                                have c32b0 : decide (4096 < (wrap64 ((wrap64 (10 * x8_2)) + (((bt a0 x7_2) - 48) % 256)))) = true := decide_eq_true c32
                                clear c32
                                simp only [Option.some.injEq, Prod.mk.injEq] at H
                                obtain ⟨rfl, rfl, rfl⟩ := H
                                have p31 : 0 ≤ (x7_2 : Int) := of_decide_eq_true (by first | (with_reducible assumption) | assumption)
                                have q31 : x7_2 < (a0.size : Int) := of_decide_eq_true (by first | (with_reducible assumption) | assumption)
                                have hx31 := bt_at a0 x7_2
                                replace p31 := eq_true p31
                                replace q31 := eq_true q31
                                go_wp2
                                go_ret3
                                exact ⟨by first | rfl | (simp [errW_none, errW_some] <;> rfl) | (simp [*, errW_none, errW_some] <;> rfl), by repeat (first | (with_reducible first | exact HB.out | apply below_alloc | apply pw_below_drewN | apply below_drew1) | exact HB.out)⟩
                              · rw [if_neg c32] at H
                                have c32b0 : decide (4096 < (wrap64 ((wrap64 (10 * x8_2)) + (((bt a0 x7_2) - 48) % 256)))) = false := decide_eq_false c32
                                clear c32
                                have H' := Aside0.mk H
                                clear H
                                have p31 : 0 ≤ (x7_2 : Int) := of_decide_eq_true (by first | (with_reducible assumption) | assumption)
                                have q31 : x7_2 < (a0.size : Int) := of_decide_eq_true (by first | (with_reducible assumption) | assumption)
                                have hx31 := bt_at a0 x7_2
                                replace p31 := eq_true p31
                                replace q31 := eq_true q31
                                go_wp2
                                go_roundg kj18
                                case measure => have := HK1.out; have := HK2.out; have := HJ10.out; have := HJ18.out; omega
                                case rel => exact ⟨(wrap64 (x7_2 + 1)), (wrap64 ((wrap64 (10 * x8_2)) + (((bt a0 x7_2) - 48) % 256))), (by first | rfl | (simp; done) | (simp [*]; done)), (by first | rfl | (simp; done) | (simp [*]; done)), H', ⟨by have := HK1.out; have := HK2.out; have := HJ10.out; have := HJ18.out; omega⟩, ⟨by repeat (first | (with_reducible first | exact HB.out | apply below_alloc | apply pw_below_drewN | apply below_drew1) | exact HB.out)⟩⟩
                            · rw [if_neg c30] at H
                              exact absurd H (by simp)
                          · rw [if_neg c29] at H
                            exact absurd H (by simp)
                · replace c17 := Bool.eq_false_iff.mpr c17
                  subst c17
                  have H1 : (if (a0.size : Int) < (wrap64 ((wrap64 ((wrap64 (x7_2 + 1)) + x8_2)) + 7)) then (some ((⟨#[]⟩ : ByteArray), 0, 100)) else (if 0 ≤ (wrap64 (x7_2 + 1)) then (if (wrap64 (x7_2 + 1)) ≤ (wrap64 ((wrap64 (x7_2 + 1)) + x8_2)) then (if (wrap64 ((wrap64 (x7_2 + 1)) + x8_2)) ≤ (a0.size : Int) then (if 0 ≤ (wrap64 ((wrap64 ((wrap64 (x7_2 + 1)) + x8_2)) + 7)) then (if (wrap64 ((wrap64 ((wrap64 (x7_2 + 1)) + x8_2)) + 7)) ≤ (a0.size : Int) then ((spigotref10_Form.f (a0.extract ((wrap64 (x7_2 + 1)) : Int).toNat ((wrap64 ((wrap64 (x7_2 + 1)) + x8_2)) : Int).toNat)).bind fun t163 => (if (a0.extract 0 ((wrap64 ((wrap64 ((wrap64 (x7_2 + 1)) + x8_2)) + 7)) : Int).toNat).toList = t163.toList then ((spigotref08_Fields.f (a0.extract ((wrap64 (x7_2 + 1)) : Int).toNat ((wrap64 ((wrap64 (x7_2 + 1)) + x8_2)) : Int).toNat)).bind fun bt164 => (if bt164.2.2 = 0 then (some (a0.extract ((wrap64 (x7_2 + 1)) : Int).toNat ((wrap64 ((wrap64 (x7_2 + 1)) + x8_2)) : Int).toNat, wrap64 ((wrap64 ((wrap64 (x7_2 + 1)) + x8_2)) + 7), 0)) else (some ((⟨#[]⟩ : ByteArray), 0, bt164.2.2)))) else (some ((⟨#[]⟩ : ByteArray), 0, 103)))) else (none)) else (none)) else (none)) else (none)) else (none))) = some (r1, r2, r3) := by rw [if_neg (show ¬ (false = true) by decide)] at H; exact H
                  clear H
                  have H := H1
                  clear H1
                  by_cases c33 : (a0.size : Int) < (wrap64 ((wrap64 ((wrap64 (x7_2 + 1)) + x8_2)) + 7))
                  · rw [if_pos c33] at H
                    have c33b0 : decide ((a0.size : Int) < (wrap64 ((wrap64 ((wrap64 (x7_2 + 1)) + x8_2)) + 7))) = true := decide_eq_true c33
                    clear c33
                    simp only [Option.some.injEq, Prod.mk.injEq] at H
                    obtain ⟨rfl, rfl, rfl⟩ := H
                    go_wp2
                    go_ret3
                    exact ⟨by first | rfl | (simp [errW_none, errW_some] <;> rfl) | (simp [*, errW_none, errW_some] <;> rfl), by repeat (first | (with_reducible first | exact HB.out | apply below_alloc | apply pw_below_drewN | apply below_drew1) | exact HB.out)⟩
                  · rw [if_neg c33] at H
                    have c33b0 : decide ((a0.size : Int) < (wrap64 ((wrap64 ((wrap64 (x7_2 + 1)) + x8_2)) + 7))) = false := decide_eq_false c33
                    clear c33
                    obtain ⟨ji34, hji34⟩ : ∃ j_ : Int, (wrap64 (x7_2 + 1)) = j_ := ⟨_, rfl⟩
                    replace H : (if 0 ≤ (ji34) then (if (ji34) ≤ (wrap64 ((ji34) + x8_2)) then (if (wrap64 ((ji34) + x8_2)) ≤ (a0.size : Int) then (if 0 ≤ (wrap64 ((wrap64 ((ji34) + x8_2)) + 7)) then (if (wrap64 ((wrap64 ((ji34) + x8_2)) + 7)) ≤ (a0.size : Int) then ((spigotref10_Form.f (a0.extract ((ji34) : Int).toNat ((wrap64 ((ji34) + x8_2)) : Int).toNat)).bind fun t163 => (if (a0.extract 0 ((wrap64 ((wrap64 ((ji34) + x8_2)) + 7)) : Int).toNat).toList = t163.toList then ((spigotref08_Fields.f (a0.extract ((ji34) : Int).toNat ((wrap64 ((ji34) + x8_2)) : Int).toNat)).bind fun bt164 => (if bt164.2.2 = 0 then (some (a0.extract ((ji34) : Int).toNat ((wrap64 ((ji34) + x8_2)) : Int).toNat, wrap64 ((wrap64 ((ji34) + x8_2)) + 7), 0)) else (some ((⟨#[]⟩ : ByteArray), 0, bt164.2.2)))) else (some ((⟨#[]⟩ : ByteArray), 0, 103)))) else (none)) else (none)) else (none)) else (none)) else (none)) = some (r1, r2, r3) := by first | (rw [hji34] at H; exact H) | (simp only [hji34] at H ⊢; exact H)
                    (try rw [hji34] at c33b0)
                    have hji34w : (IntKind.i64.wrap (x7_2 + 1)) = ji34 := (i64_w _).trans hji34
                    by_cases c35 : 0 ≤ (ji34)
                    · rw [if_pos c35] at H
                      have c35b0 := eq_true c35
                      have c35b1 : decide (0 ≤ (ji34)) = true := decide_eq_true c35
                      clear c35
                      by_cases c36 : (ji34) ≤ (wrap64 ((ji34) + x8_2))
                      · rw [if_pos c36] at H
                        have c36b0 := eq_true c36
                        have c36b1 : decide ((ji34) ≤ (wrap64 ((ji34) + x8_2))) = true := decide_eq_true c36
                        by_cases c37 : (wrap64 ((ji34) + x8_2)) ≤ (a0.size : Int)
                        · rw [if_pos c37] at H
                          have c37b0 := eq_true c37
                          have c37b1 : decide ((wrap64 ((ji34) + x8_2)) ≤ (a0.size : Int)) = true := decide_eq_true c37
                          obtain ⟨ji38, hji38⟩ : ∃ j_ : Int, (wrap64 ((wrap64 ((ji34) + x8_2)) + 7)) = j_ := ⟨_, rfl⟩
                          replace H : (if 0 ≤ (ji38) then (if (ji38) ≤ (a0.size : Int) then ((spigotref10_Form.f (a0.extract ((ji34) : Int).toNat ((wrap64 ((ji34) + x8_2)) : Int).toNat)).bind fun t163 => (if (a0.extract 0 ((ji38) : Int).toNat).toList = t163.toList then ((spigotref08_Fields.f (a0.extract ((ji34) : Int).toNat ((wrap64 ((ji34) + x8_2)) : Int).toNat)).bind fun bt164 => (if bt164.2.2 = 0 then (some (a0.extract ((ji34) : Int).toNat ((wrap64 ((ji34) + x8_2)) : Int).toNat, ji38, 0)) else (some ((⟨#[]⟩ : ByteArray), 0, bt164.2.2)))) else (some ((⟨#[]⟩ : ByteArray), 0, 103)))) else (none)) else (none)) = some (r1, r2, r3) := by first | (rw [hji38] at H; exact H) | (simp only [hji38] at H ⊢; exact H)
                          have hji38w : (IntKind.i64.wrap ((wrap64 ((ji34) + x8_2)) + 7)) = ji38 := (i64_w _).trans hji38
                          by_cases c39 : 0 ≤ (ji38)
                          · rw [if_pos c39] at H
                            have c39b0 := eq_true c39
                            have c39b1 : decide (0 ≤ (ji38)) = true := decide_eq_true c39
                            clear c39
                            by_cases c40 : (ji38) ≤ (a0.size : Int)
                            · rw [if_pos c40] at H
                              have c40b0 := eq_true c40
                              have c40b1 : decide ((ji38) ≤ (a0.size : Int)) = true := decide_eq_true c40
                              have c40b5 : decide ((a0.size : Int) < ji38) = false := by rw [decide_eq_false_iff_not]; exact Int.not_lt.2 c40
                              clear c40
                              replace H := Option.bind_eq_some_iff.mp H
                              obtain ⟨t163, A410, H⟩ := H
                              replace H : (if (a0.extract 0 ((ji38) : Int).toNat).toList = t163.toList then ((spigotref08_Fields.f (a0.extract ((ji34) : Int).toNat ((wrap64 ((ji34) + x8_2)) : Int).toNat)).bind fun bt164 => (if bt164.2.2 = 0 then (some (a0.extract ((ji34) : Int).toNat ((wrap64 ((ji34) + x8_2)) : Int).toNat, ji38, 0)) else (some ((⟨#[]⟩ : ByteArray), 0, bt164.2.2)))) else (some ((⟨#[]⟩ : ByteArray), 0, 103))) = some (r1, r2, r3) := H
                              have A41 := Aside0.mk A410
                              clear A410
                              by_cases c42 : (a0.extract 0 ((ji38) : Int).toNat).toList = t163.toList
                              · rw [if_pos c42] at H
                                have c42b0 : ((a0.extract 0 ((ji38) : Int).toNat).toList == t163.toList) = true := beq_iff_eq.mpr c42
                                have c42b1 : ((a0.extract 0 ((ji38) : Int).toNat).toList != t163.toList) = false := bne_eq_false_iff_eq.mpr c42
                                clear c42
                                replace H := Option.bind_eq_some_iff.mp H
                                obtain ⟨⟨t164, t165, t166⟩, A430, H⟩ := H
                                replace H : (if t166 = 0 then (some (a0.extract ((ji34) : Int).toNat ((wrap64 ((ji34) + x8_2)) : Int).toNat, ji38, 0)) else (some ((⟨#[]⟩ : ByteArray), 0, t166))) = some (r1, r2, r3) := H
                                have A43 := Aside0.mk A430
                                clear A430
                                by_cases c44 : t166 = 0
                                · rw [if_pos c44] at H
                                  have c44b0 : (t166 == 0) = true := beq_iff_eq.mpr c44
                                  have c44b1 : (t166 != 0) = false := bne_eq_false_iff_eq.mpr c44
                                  clear c44
                                  simp only [Option.some.injEq, Prod.mk.injEq] at H
                                  obtain ⟨rfl, rfl, rfl⟩ := H
                                  try go_wp2
                                  have n0_ := Aside0.mk (below_drew1 HB.out)
                                  clear HB
                                  have HB := n0_
                                  clear n0_
                                  refine start_ (n := 9) (S := fun w' => True) (ds := []) #[false, false, false, false, false, false, false, false, false] (by kernel_rfl) rfl rfl trivial (fun hHeld => ?_); refine with_tabW spigotref10_Open_p.tab24 spigotref10_Open_p.bits24 (fun HT_ HW_ => ?_)
                                  generalize wc.drew = w45 at HB hHeld ⊢
                                  refine pure_ (i := 0) (N := some 95) (v := ?_) (a' := ?_) #[true, false, false, false, false, false, false, false, false] rfl rfl (any_of HT_.out (by kernel_rfl)) (fun _ _ _ h => h) (Or.inl ⟨by rfl, ?_⟩) ?_ ?_
                                  rotate_left
                                  · intro w'
                                    go_simp
                                    with_reducible rfl
                                  rotate_left
                                  · simp only [Act.put, List.setIfInBounds_toArray, List.set_cons_zero, List.set_cons_succ, i64_w, i32_w]
                                    rfl
                                  refine pure_ (i := 1) (N := some 96) (v := ?_) (a' := ?_) #[true, true, false, false, false, false, false, false, false] rfl rfl (any_of HT_.out (by kernel_rfl)) (fun _ _ _ h => h) (Or.inl ⟨by rfl, ?_⟩) ?_ ?_
                                  rotate_left
                                  · intro w'
                                    go_simp
                                    with_reducible rfl
                                  rotate_left
                                  · simp only [Act.put, List.setIfInBounds_toArray, List.set_cons_zero, List.set_cons_succ, i64_w, i32_w]
                                    rfl
                                  refine pure_ (i := 2) (N := some 97) (v := ?_) (a' := ?_) #[true, true, true, false, false, false, false, false, false] rfl rfl (any_of HT_.out (by kernel_rfl)) (fun _ _ _ h => h) (Or.inl ⟨by rfl, ?_⟩) ?_ ?_
                                  rotate_left
                                  · intro w'
                                    go_simp
                                    with_reducible rfl
                                  rotate_left
                                  · simp only [Act.put, List.setIfInBounds_toArray, List.set_cons_zero, List.set_cons_succ, i64_w, i32_w]
                                    rfl
                                  refine pure_ (i := 3) (N := some 98) (v := ?_) (a' := ?_) #[true, true, true, true, false, false, false, false, false] rfl rfl (any_of HT_.out (by kernel_rfl)) (fun _ _ _ h => h) (Or.inl ⟨by rfl, ?_⟩) ?_ ?_
                                  rotate_left
                                  · intro w'
                                    go_simp
                                    with_reducible rfl
                                  rotate_left
                                  · simp only [Act.put, List.setIfInBounds_toArray, List.set_cons_zero, List.set_cons_succ, i64_w, i32_w]
                                    rfl
                                  refine pure_ (i := 4) (N := some 99) (v := ?_) (a' := ?_) #[true, true, true, true, true, false, false, false, false] rfl rfl (any_of HT_.out (by kernel_rfl)) (fun _ _ _ h => h) (Or.inl ⟨by rfl, ?_⟩) ?_ ?_
                                  rotate_left
                                  · intro w'
                                    go_simp
                                    with_reducible rfl
                                  rotate_left
                                  · simp only [Act.put, List.setIfInBounds_toArray, List.set_cons_zero, List.set_cons_succ, i64_w, i32_w]
                                    rfl
                                  refine pure_ (i := 5) (N := some 100) (v := ?_) (a' := ?_) #[true, true, true, true, true, true, false, false, false] rfl rfl (any_of HT_.out (by kernel_rfl)) (fun _ _ _ h => h) (Or.inl ⟨by rfl, ?_⟩) ?_ ?_
                                  rotate_left
                                  · intro w'
                                    go_simp
                                    with_reducible rfl
                                  rotate_left
                                  · simp only [Act.put, List.setIfInBounds_toArray, List.set_cons_zero, List.set_cons_succ, i64_w, i32_w]
                                    rfl
                                  refine pure_ (i := 6) (N := some 101) (v := ?_) (a' := ?_) #[true, true, true, true, true, true, true, false, false] rfl rfl (any_of HT_.out (by kernel_rfl)) (fun _ _ _ h => h) (Or.inl ⟨by rfl, ?_⟩) ?_ ?_
                                  rotate_left
                                  · intro w'
                                    go_simp
                                    with_reducible rfl
                                  rotate_left
                                  · simp only [Act.put, List.setIfInBounds_toArray, List.set_cons_zero, List.set_cons_succ, i64_w, i32_w]
                                    rfl
                                  refine one_ (i := 7) (N := some 102) #[true, true, true, true, true, true, true, true, false] rfl rfl (one_of HT_.out (by kernel_rfl)) (by decide) (fun K hK => ?_)
                                  refine goes_ Tryd.func24 (by kernel_rfl) rfl #[.string (a0.extract ((ji34) : Int).toNat ((wrap64 ((ji34) + x8_2)) : Int).toNat)] (by rfl) rfl rfl (by (try simp only [List.map_toArray, List.map_cons, List.map_nil]); first | done | (simp only [hji34]; rfl) | rfl | (simp only [List.length_drop, List.length_take]; rfl)) ?_
                                  with_reducible refine (spigotref10_Form.calls (a0.extract ((ji34) : Int).toNat ((wrap64 ((ji34) + x8_2)) : Int).toNat) t163 _ A41.out).mono ?_
                                  rintro e w46 ⟨rfl, hb⟩
                                  refine ⟨_, rfl, ?_⟩
                                  have n0_ := Aside0.mk (below_step (by repeat (first | (with_reducible first | exact HB.out | apply below_alloc | apply pw_below_drewN | apply below_drew1) | exact HB.out)) hb)
                                  clear HB
                                  have HB := n0_
                                  clear n0_
                                  (try clear hb)
                                  (try clear hb2)
                                  (try clear hk)
                                  (try clear hi)
                                  refine hK.out _ _ trivial (fun hHeld => ?_)
                                  clear hK K
                                  refine norm_ (a' := ?_) ?_ ?_
                                  rotate_left
                                  · show Act.put _ (some 102) _ = _
                                    simp only [Act.put, List.setIfInBounds_toArray, List.set_cons_zero, List.set_cons_succ, i64_w, i32_w]
                                    rfl
                                  refine pure_ (i := 8) (N := some 103) (v := ?_) (a' := ?_) #[true, true, true, true, true, true, true, true, true] rfl rfl (any_of HT_.out (by kernel_rfl)) (fun _ _ _ h => h) (Or.inl ⟨by rfl, ?_⟩) ?_ ?_
                                  rotate_left
                                  · intro w'
                                    go_simp
                                    with_reducible rfl
                                  rotate_left
                                  · simp only [Act.put, List.setIfInBounds_toArray, List.set_cons_zero, List.set_cons_succ, i64_w, i32_w]
                                    rfl
                                  refine done_ (done_of HT_.out (by kernel_rfl)) ?_
                                  try go_wp2_with (first | ((with_reducible refine gate_callee (f := 23) rfl ?_); refine goesL_ (some 106) rfl rfl Tryd.func23 (by kernel_rfl) rfl #[.string (a0.extract ((ji34) : Int).toNat ((wrap64 ((ji34) + x8_2)) : Int).toNat)] rfl (by (try simp only [List.map_toArray, List.map_cons, List.map_nil]); first | done | (simp only [hji34]; rfl) | rfl | (simp only [List.length_drop, List.length_take]; rfl)) ?_; (with_reducible refine (spigotref08_Fields.calls (a0.extract ((ji34) : Int).toNat ((wrap64 ((ji34) + x8_2)) : Int).toNat) t164 t165 t166 _ A43.out).mono ?_); rintro e w47 ⟨v167, rfl, ho0, hb⟩; refine ⟨_, rfl, ?_⟩; have n0_ := Aside0.mk (Kd.R_lower ho0 (below_size (by repeat (first | (with_reducible first | exact HB.out | apply below_alloc | apply pw_below_drewN | apply below_drew1) | exact HB.out)))); have n1_ := Aside0.mk (below_step (by repeat (first | (with_reducible first | exact HB.out | apply below_alloc | apply pw_below_drewN | apply below_drew1) | exact HB.out)) hb); clear HB; have HO168 := n0_; have HB := n1_; clear n0_ n1_; (try clear hb); (try clear hb2); (try clear hk); (try clear hi); (try clear ho0)))
                                  go_ret3
                                  exact ⟨by first | rfl | (simp [errW_none, errW_some] <;> rfl) | (simp only [← hji34, ← hji38]; first | rfl | (simp [errW_none, errW_some] <;> rfl)) | (simp [*, errW_none, errW_some] <;> rfl), by repeat (first | (with_reducible first | exact HB.out | apply below_alloc | apply pw_below_drewN | apply below_drew1) | exact HB.out)⟩
                                · rw [if_neg c44] at H
                                  have c44b0 : (t166 == 0) = false := beq_eq_false_iff_ne.mpr c44
                                  have c44b1 : (t166 != 0) = true := bne_iff_ne.mpr c44
                                  simp only [Option.some.injEq, Prod.mk.injEq] at H
                                  obtain ⟨rfl, rfl, rfl⟩ := H
                                  try go_wp2
                                  have n0_ := Aside0.mk (below_drew1 HB.out)
                                  clear HB
                                  have HB := n0_
                                  clear n0_
                                  refine start_ (n := 9) (S := fun w' => True) (ds := []) #[false, false, false, false, false, false, false, false, false] (by kernel_rfl) rfl rfl trivial (fun hHeld => ?_); refine with_tabW spigotref10_Open_p.tab24 spigotref10_Open_p.bits24 (fun HT_ HW_ => ?_)
                                  generalize wc.drew = w48 at HB hHeld ⊢
                                  refine pure_ (i := 0) (N := some 95) (v := ?_) (a' := ?_) #[true, false, false, false, false, false, false, false, false] rfl rfl (any_of HT_.out (by kernel_rfl)) (fun _ _ _ h => h) (Or.inl ⟨by rfl, ?_⟩) ?_ ?_
                                  rotate_left
                                  · intro w'
                                    go_simp
                                    with_reducible rfl
                                  rotate_left
                                  · simp only [Act.put, List.setIfInBounds_toArray, List.set_cons_zero, List.set_cons_succ, i64_w, i32_w]
                                    rfl
                                  refine pure_ (i := 1) (N := some 96) (v := ?_) (a' := ?_) #[true, true, false, false, false, false, false, false, false] rfl rfl (any_of HT_.out (by kernel_rfl)) (fun _ _ _ h => h) (Or.inl ⟨by rfl, ?_⟩) ?_ ?_
                                  rotate_left
                                  · intro w'
                                    go_simp
                                    with_reducible rfl
                                  rotate_left
                                  · simp only [Act.put, List.setIfInBounds_toArray, List.set_cons_zero, List.set_cons_succ, i64_w, i32_w]
                                    rfl
                                  refine pure_ (i := 2) (N := some 97) (v := ?_) (a' := ?_) #[true, true, true, false, false, false, false, false, false] rfl rfl (any_of HT_.out (by kernel_rfl)) (fun _ _ _ h => h) (Or.inl ⟨by rfl, ?_⟩) ?_ ?_
                                  rotate_left
                                  · intro w'
                                    go_simp
                                    with_reducible rfl
                                  rotate_left
                                  · simp only [Act.put, List.setIfInBounds_toArray, List.set_cons_zero, List.set_cons_succ, i64_w, i32_w]
                                    rfl
                                  refine pure_ (i := 3) (N := some 98) (v := ?_) (a' := ?_) #[true, true, true, true, false, false, false, false, false] rfl rfl (any_of HT_.out (by kernel_rfl)) (fun _ _ _ h => h) (Or.inl ⟨by rfl, ?_⟩) ?_ ?_
                                  rotate_left
                                  · intro w'
                                    go_simp
                                    with_reducible rfl
                                  rotate_left
                                  · simp only [Act.put, List.setIfInBounds_toArray, List.set_cons_zero, List.set_cons_succ, i64_w, i32_w]
                                    rfl
                                  refine pure_ (i := 4) (N := some 99) (v := ?_) (a' := ?_) #[true, true, true, true, true, false, false, false, false] rfl rfl (any_of HT_.out (by kernel_rfl)) (fun _ _ _ h => h) (Or.inl ⟨by rfl, ?_⟩) ?_ ?_
                                  rotate_left
                                  · intro w'
                                    go_simp
                                    with_reducible rfl
                                  rotate_left
                                  · simp only [Act.put, List.setIfInBounds_toArray, List.set_cons_zero, List.set_cons_succ, i64_w, i32_w]
                                    rfl
                                  refine pure_ (i := 5) (N := some 100) (v := ?_) (a' := ?_) #[true, true, true, true, true, true, false, false, false] rfl rfl (any_of HT_.out (by kernel_rfl)) (fun _ _ _ h => h) (Or.inl ⟨by rfl, ?_⟩) ?_ ?_
                                  rotate_left
                                  · intro w'
                                    go_simp
                                    with_reducible rfl
                                  rotate_left
                                  · simp only [Act.put, List.setIfInBounds_toArray, List.set_cons_zero, List.set_cons_succ, i64_w, i32_w]
                                    rfl
                                  refine pure_ (i := 6) (N := some 101) (v := ?_) (a' := ?_) #[true, true, true, true, true, true, true, false, false] rfl rfl (any_of HT_.out (by kernel_rfl)) (fun _ _ _ h => h) (Or.inl ⟨by rfl, ?_⟩) ?_ ?_
                                  rotate_left
                                  · intro w'
                                    go_simp
                                    with_reducible rfl
                                  rotate_left
                                  · simp only [Act.put, List.setIfInBounds_toArray, List.set_cons_zero, List.set_cons_succ, i64_w, i32_w]
                                    rfl
                                  refine one_ (i := 7) (N := some 102) #[true, true, true, true, true, true, true, true, false] rfl rfl (one_of HT_.out (by kernel_rfl)) (by decide) (fun K hK => ?_)
                                  refine goes_ Tryd.func24 (by kernel_rfl) rfl #[.string (a0.extract ((ji34) : Int).toNat ((wrap64 ((ji34) + x8_2)) : Int).toNat)] (by rfl) rfl rfl (by (try simp only [List.map_toArray, List.map_cons, List.map_nil]); first | done | (simp only [hji34]; rfl) | rfl | (simp only [List.length_drop, List.length_take]; rfl)) ?_
                                  with_reducible refine (spigotref10_Form.calls (a0.extract ((ji34) : Int).toNat ((wrap64 ((ji34) + x8_2)) : Int).toNat) t163 _ A41.out).mono ?_
                                  rintro e w49 ⟨rfl, hb⟩
                                  refine ⟨_, rfl, ?_⟩
                                  have n0_ := Aside0.mk (below_step (by repeat (first | (with_reducible first | exact HB.out | apply below_alloc | apply pw_below_drewN | apply below_drew1) | exact HB.out)) hb)
                                  clear HB
                                  have HB := n0_
                                  clear n0_
                                  (try clear hb)
                                  (try clear hb2)
                                  (try clear hk)
                                  (try clear hi)
                                  refine hK.out _ _ trivial (fun hHeld => ?_)
                                  clear hK K
                                  refine norm_ (a' := ?_) ?_ ?_
                                  rotate_left
                                  · show Act.put _ (some 102) _ = _
                                    simp only [Act.put, List.setIfInBounds_toArray, List.set_cons_zero, List.set_cons_succ, i64_w, i32_w]
                                    rfl
                                  refine pure_ (i := 8) (N := some 103) (v := ?_) (a' := ?_) #[true, true, true, true, true, true, true, true, true] rfl rfl (any_of HT_.out (by kernel_rfl)) (fun _ _ _ h => h) (Or.inl ⟨by rfl, ?_⟩) ?_ ?_
                                  rotate_left
                                  · intro w'
                                    go_simp
                                    with_reducible rfl
                                  rotate_left
                                  · simp only [Act.put, List.setIfInBounds_toArray, List.set_cons_zero, List.set_cons_succ, i64_w, i32_w]
                                    rfl
                                  refine done_ (done_of HT_.out (by kernel_rfl)) ?_
                                  try go_wp2_with (first | ((with_reducible refine gate_callee (f := 23) rfl ?_); refine goesL_ (some 106) rfl rfl Tryd.func23 (by kernel_rfl) rfl #[.string (a0.extract ((ji34) : Int).toNat ((wrap64 ((ji34) + x8_2)) : Int).toNat)] rfl (by (try simp only [List.map_toArray, List.map_cons, List.map_nil]); first | done | (simp only [hji34]; rfl) | rfl | (simp only [List.length_drop, List.length_take]; rfl)) ?_; (with_reducible refine (spigotref08_Fields.calls (a0.extract ((ji34) : Int).toNat ((wrap64 ((ji34) + x8_2)) : Int).toNat) t164 t165 t166 _ A43.out).mono ?_); rintro e w50 ⟨v167, rfl, ho0, hb⟩; refine ⟨_, rfl, ?_⟩; have n0_ := Aside0.mk (Kd.R_lower ho0 (below_size (by repeat (first | (with_reducible first | exact HB.out | apply below_alloc | apply pw_below_drewN | apply below_drew1) | exact HB.out)))); have n1_ := Aside0.mk (below_step (by repeat (first | (with_reducible first | exact HB.out | apply below_alloc | apply pw_below_drewN | apply below_drew1) | exact HB.out)) hb); clear HB; have HO168 := n0_; have HB := n1_; clear n0_ n1_; (try clear hb); (try clear hb2); (try clear hk); (try clear hi); (try clear ho0)))
                                  go_ret3
                                  exact ⟨by first | rfl | (simp [errW_none, errW_some] <;> rfl) | (simp only [← hji34, ← hji38]; first | rfl | (simp [errW_none, errW_some] <;> rfl)) | (simp [*, errW_none, errW_some] <;> rfl), by repeat (first | (with_reducible first | exact HB.out | apply below_alloc | apply pw_below_drewN | apply below_drew1) | exact HB.out)⟩
                              · rw [if_neg c42] at H
                                have c42b0 : ((a0.extract 0 ((ji38) : Int).toNat).toList == t163.toList) = false := beq_eq_false_iff_ne.mpr c42
                                have c42b1 : ((a0.extract 0 ((ji38) : Int).toNat).toList != t163.toList) = true := bne_iff_ne.mpr c42
                                simp only [Option.some.injEq, Prod.mk.injEq] at H
                                obtain ⟨rfl, rfl, rfl⟩ := H
                                try go_wp2
                                have n0_ := Aside0.mk (below_drew1 HB.out)
                                clear HB
                                have HB := n0_
                                clear n0_
                                refine start_ (n := 9) (S := fun w' => True) (ds := []) #[false, false, false, false, false, false, false, false, false] (by kernel_rfl) rfl rfl trivial (fun hHeld => ?_); refine with_tabW spigotref10_Open_p.tab24 spigotref10_Open_p.bits24 (fun HT_ HW_ => ?_)
                                generalize wc.drew = w51 at HB hHeld ⊢
                                refine pure_ (i := 0) (N := some 95) (v := ?_) (a' := ?_) #[true, false, false, false, false, false, false, false, false] rfl rfl (any_of HT_.out (by kernel_rfl)) (fun _ _ _ h => h) (Or.inl ⟨by rfl, ?_⟩) ?_ ?_
                                rotate_left
                                · intro w'
                                  go_simp
                                  with_reducible rfl
                                rotate_left
                                · simp only [Act.put, List.setIfInBounds_toArray, List.set_cons_zero, List.set_cons_succ, i64_w, i32_w]
                                  rfl
                                refine pure_ (i := 1) (N := some 96) (v := ?_) (a' := ?_) #[true, true, false, false, false, false, false, false, false] rfl rfl (any_of HT_.out (by kernel_rfl)) (fun _ _ _ h => h) (Or.inl ⟨by rfl, ?_⟩) ?_ ?_
                                rotate_left
                                · intro w'
                                  go_simp
                                  with_reducible rfl
                                rotate_left
                                · simp only [Act.put, List.setIfInBounds_toArray, List.set_cons_zero, List.set_cons_succ, i64_w, i32_w]
                                  rfl
                                refine pure_ (i := 2) (N := some 97) (v := ?_) (a' := ?_) #[true, true, true, false, false, false, false, false, false] rfl rfl (any_of HT_.out (by kernel_rfl)) (fun _ _ _ h => h) (Or.inl ⟨by rfl, ?_⟩) ?_ ?_
                                rotate_left
                                · intro w'
                                  go_simp
                                  with_reducible rfl
                                rotate_left
                                · simp only [Act.put, List.setIfInBounds_toArray, List.set_cons_zero, List.set_cons_succ, i64_w, i32_w]
                                  rfl
                                refine pure_ (i := 3) (N := some 98) (v := ?_) (a' := ?_) #[true, true, true, true, false, false, false, false, false] rfl rfl (any_of HT_.out (by kernel_rfl)) (fun _ _ _ h => h) (Or.inl ⟨by rfl, ?_⟩) ?_ ?_
                                rotate_left
                                · intro w'
                                  go_simp
                                  with_reducible rfl
                                rotate_left
                                · simp only [Act.put, List.setIfInBounds_toArray, List.set_cons_zero, List.set_cons_succ, i64_w, i32_w]
                                  rfl
                                refine pure_ (i := 4) (N := some 99) (v := ?_) (a' := ?_) #[true, true, true, true, true, false, false, false, false] rfl rfl (any_of HT_.out (by kernel_rfl)) (fun _ _ _ h => h) (Or.inl ⟨by rfl, ?_⟩) ?_ ?_
                                rotate_left
                                · intro w'
                                  go_simp
                                  with_reducible rfl
                                rotate_left
                                · simp only [Act.put, List.setIfInBounds_toArray, List.set_cons_zero, List.set_cons_succ, i64_w, i32_w]
                                  rfl
                                refine pure_ (i := 5) (N := some 100) (v := ?_) (a' := ?_) #[true, true, true, true, true, true, false, false, false] rfl rfl (any_of HT_.out (by kernel_rfl)) (fun _ _ _ h => h) (Or.inl ⟨by rfl, ?_⟩) ?_ ?_
                                rotate_left
                                · intro w'
                                  go_simp
                                  with_reducible rfl
                                rotate_left
                                · simp only [Act.put, List.setIfInBounds_toArray, List.set_cons_zero, List.set_cons_succ, i64_w, i32_w]
                                  rfl
                                refine pure_ (i := 6) (N := some 101) (v := ?_) (a' := ?_) #[true, true, true, true, true, true, true, false, false] rfl rfl (any_of HT_.out (by kernel_rfl)) (fun _ _ _ h => h) (Or.inl ⟨by rfl, ?_⟩) ?_ ?_
                                rotate_left
                                · intro w'
                                  go_simp
                                  with_reducible rfl
                                rotate_left
                                · simp only [Act.put, List.setIfInBounds_toArray, List.set_cons_zero, List.set_cons_succ, i64_w, i32_w]
                                  rfl
                                refine one_ (i := 7) (N := some 102) #[true, true, true, true, true, true, true, true, false] rfl rfl (one_of HT_.out (by kernel_rfl)) (by decide) (fun K hK => ?_)
                                refine goes_ Tryd.func24 (by kernel_rfl) rfl #[.string (a0.extract ((ji34) : Int).toNat ((wrap64 ((ji34) + x8_2)) : Int).toNat)] (by rfl) rfl rfl (by (try simp only [List.map_toArray, List.map_cons, List.map_nil]); first | done | (simp only [hji34]; rfl) | rfl | (simp only [List.length_drop, List.length_take]; rfl)) ?_
                                with_reducible refine (spigotref10_Form.calls (a0.extract ((ji34) : Int).toNat ((wrap64 ((ji34) + x8_2)) : Int).toNat) t163 _ A41.out).mono ?_
                                rintro e w52 ⟨rfl, hb⟩
                                refine ⟨_, rfl, ?_⟩
                                have n0_ := Aside0.mk (below_step (by repeat (first | (with_reducible first | exact HB.out | apply below_alloc | apply pw_below_drewN | apply below_drew1) | exact HB.out)) hb)
                                clear HB
                                have HB := n0_
                                clear n0_
                                (try clear hb)
                                (try clear hb2)
                                (try clear hk)
                                (try clear hi)
                                refine hK.out _ _ trivial (fun hHeld => ?_)
                                clear hK K
                                refine norm_ (a' := ?_) ?_ ?_
                                rotate_left
                                · show Act.put _ (some 102) _ = _
                                  simp only [Act.put, List.setIfInBounds_toArray, List.set_cons_zero, List.set_cons_succ, i64_w, i32_w]
                                  rfl
                                refine pure_ (i := 8) (N := some 103) (v := ?_) (a' := ?_) #[true, true, true, true, true, true, true, true, true] rfl rfl (any_of HT_.out (by kernel_rfl)) (fun _ _ _ h => h) (Or.inl ⟨by rfl, ?_⟩) ?_ ?_
                                rotate_left
                                · intro w'
                                  go_simp
                                  with_reducible rfl
                                rotate_left
                                · simp only [Act.put, List.setIfInBounds_toArray, List.set_cons_zero, List.set_cons_succ, i64_w, i32_w]
                                  rfl
                                refine done_ (done_of HT_.out (by kernel_rfl)) ?_
                                try go_wp2
                                go_ret3
                                exact ⟨by first | rfl | (simp [errW_none, errW_some] <;> rfl) | (simp only [← hji34, ← hji38]; first | rfl | (simp [errW_none, errW_some] <;> rfl)) | (simp [*, errW_none, errW_some] <;> rfl), by repeat (first | (with_reducible first | exact HB.out | apply below_alloc | apply pw_below_drewN | apply below_drew1) | exact HB.out)⟩
                            · rw [if_neg c40] at H
                              exact absurd H (by simp)
                          · rw [if_neg c39] at H
                            exact absurd H (by simp)
                        · rw [if_neg c37] at H
                          exact absurd H (by simp)
                      · rw [if_neg c36] at H
                        exact absurd H (by simp)
                    · rw [if_neg c35] at H
                      exact absurd H (by simp)
/-! ### spigotref10_Open: function 14 -/
/-- What comes behind the length. -/
def tailO (s : ByteArray) (at_ n : Nat) : ByteArray × Int × Int :=
  if s.size < at_ + n + 7 then (⟨#[]⟩, 0, 100) else
  if s.data.toList.take (at_ + n + 7) = msgL ((s.data.toList.drop at_).take n) then
    (if (fieldsL ((s.data.toList.drop at_).take n) 0 0).2.2 = 0 then (s.extract at_ (at_ + n), ((at_ + n + 7 : Nat) : Int), 0) else (⟨#[]⟩, 0, ((fieldsL ((s.data.toList.drop at_).take n) 0 0).2.2 : Int)))
  else (⟨#[]⟩, 0, 103)
theorem mid_list_r (s : ByteArray) (a b : Nat) : (s.extract a (a + b)).data.toList = (s.data.toList.drop a).take b := by
  simp [ByteArray.data_extract]
theorem take_list_r (s : ByteArray) (n : Nat) : (s.extract 0 n).data.toList = s.data.toList.take n := by
  simp [ByteArray.data_extract]
theorem ref10_Open_tail (s : ByteArray) (hs : s.size ≤ 140737488351232) (k x n : Nat) (hx : x + 1 ≤ s.size) (hn : n ≤ 4096) : spigotref10_Open_p.j2 (k + 1) s 12 (x : Int) (n : Int) false = some (tailO s (x + 1) n) := by
  unfold spigotref10_Open_p.j2
  rw [if_neg (by simp), w64 (x := (x : Int) + 1) (by omega) (by omega), w64 (x := (x : Int) + 1 + (n : Int)) (by omega) (by omega), w64 (by omega) (by omega)]
  unfold tailO
  by_cases c : s.size < x + 1 + n + 7
  · rw [if_pos c, if_pos (by omega)]
  · rw [if_neg c, if_neg (by omega), if_pos (by omega), if_pos (by omega), if_pos (by omega), if_pos (by omega), if_pos (by omega)]
    rw [show ((x : Int) + 1).toNat = x + 1 by omega, show ((x : Int) + 1 + (n : Int)).toNat = x + 1 + n by omega, show ((x : Int) + 1 + (n : Int) + 7).toNat = x + 1 + n + 7 by omega]
    have hz : (s.extract (x + 1) (x + 1 + n)).size ≤ 140737488351232 := by rw [ByteArray.size_extract]; omega
    unfold spigotref10_Form.f spigotref08_Fields.f
    rw [if_pos hz, if_pos (by unfold big; omega)]
    simp only [Option.bind_some, mid_list_r, ByteArray.toList_eq, take_list_r]
    by_cases e : s.data.toList.take (x + 1 + n + 7) = msgL ((s.data.toList.drop (x + 1)).take n)
    · rw [if_pos e, if_pos e]
      by_cases f : (fieldsL ((s.data.toList.drop (x + 1)).take n) 0 0).2.2 = 0
      · rw [if_pos f, if_pos (by omega)]; simp
      · rw [if_neg f, if_neg (by omega)]
    · rw [if_neg e, if_neg e]
def lenO (s : ByteArray) (at_ : Nat) (r : Nat × Nat × Nat) : ByteArray × Int × Int := if r.2.2 ≠ 0 then (⟨#[]⟩, 0, (r.2.2 : Int)) else tailO s (at_ + r.2.1) r.1
theorem lenL_nil (f : Bool) (n : Nat) : lenL [] f n = (0, 0, 100) := rfl
theorem lenL_one (b : UInt8) (t : List UInt8) (n : Nat) (h : b.toNat = 1) : lenL (b :: t) false n = (n, 1, 0) := by unfold lenL; rw [if_pos ⟨h, rfl⟩]
theorem lenL_bad (b : UInt8) (t : List UInt8) (f : Bool) (n : Nat) (h : ¬ (b.toNat = 1 ∧ f = false)) (g : ¬ isDig b ∨ (b.toNat = 48 ∧ f = true)) : lenL (b :: t) f n = (0, 0, 102) := by unfold lenL; rw [if_neg h, if_pos g]
theorem lenL_much (b : UInt8) (t : List UInt8) (f : Bool) (n : Nat) (h : ¬ (b.toNat = 1 ∧ f = false)) (g : ¬ (¬ isDig b ∨ (b.toNat = 48 ∧ f = true))) (m : 4096 < 10 * n + (b.toNat - 48)) : lenL (b :: t) f n = (0, 0, 102) := by unfold lenL; rw [if_neg h, if_neg g, if_pos m]
theorem lenO_step (s : ByteArray) (at_ : Nat) (b : UInt8) (t : List UInt8) (f : Bool) (n : Nat) (h : ¬ (b.toNat = 1 ∧ f = false)) (g : ¬ (¬ isDig b ∨ (b.toNat = 48 ∧ f = true))) (m : ¬ 4096 < 10 * n + (b.toNat - 48)) :
    lenO s at_ (lenL (b :: t) f n) = lenO s (at_ + 1) (lenL t false (10 * n + (b.toNat - 48))) := by
  conv => lhs; unfold lenL
  rw [if_neg h, if_neg g, if_neg m]
  unfold lenO
  simp only
  split
  · rfl
  · rw [show at_ + ((lenL t false (10 * n + (b.toNat - 48))).2.1 + 1) = at_ + 1 + (lenL t false (10 * n + (b.toNat - 48))).2.1 by omega]
theorem ref10_Open_len (s : ByteArray) (hs : s.size ≤ 140737488351232) (d : Nat) : ∀ (q n k : Nat), 12 + q + d = s.size → n ≤ 4096 →
    spigotref10_Open_p.l1 (k + 3 * d + 3) s 12 ((12 + q : Nat) : Int) (n : Int) = some (lenO s (12 + q) (lenL (s.data.toList.drop (12 + q)) (decide (q = 0)) n)) := by
  induction d with
  | zero =>
    intro q n k hq hn
    rw [List.drop_eq_nil_of_le (by rw [size_list]; omega), lenL_nil]
    rw [show k + 3 * 0 + 3 = (k + 1) + 1 + 1 by omega]
    unfold spigotref10_Open_p.l1
    rw [if_pos (by omega)]
    unfold spigotref10_Open_p.j2
    rw [if_pos rfl, if_pos (by omega)]
    rfl
  | succ d ih =>
    intro q n k hq hn
    have hl : 12 + q < s.data.toList.length := by rw [size_list]; omega
    rw [List.drop_eq_getElem_cons hl]
    have hbt := bt_get s (12 + q) hl
    generalize s.data.toList[12 + q] = b at hbt ⊢
    have hb := u8_lt b
    rw [show k + 3 * (d + 1) + 3 = (k + 3 * d + 3) + 1 + 1 + 1 by omega]
    have hmod : (((b.toNat : Int) - 48) % 256) = ((b.toNat - 48 : Nat) : Int) ∨ b.toNat < 48 := by omega
    have hj : ∀ x : Bool, (x = false → 48 ≤ b.toNat) → spigotref10_Open_p.j3 (k + 3 * d + 3 + 1) s 12 ((12 + q : Nat) : Int) (n : Int) x = if x = true then some (⟨#[]⟩, 0, 102) else if 4096 < 10 * n + (b.toNat - 48) then some (⟨#[]⟩, 0, 102) else spigotref10_Open_p.l1 (k + 3 * d + 3) s 12 ((12 + (q + 1) : Nat) : Int) ((10 * n + (b.toNat - 48) : Nat) : Int) := by
      intro x hx
      conv => lhs; unfold spigotref10_Open_p.j3
      cases x with
      | true => rw [if_pos rfl, if_pos rfl]
      | false =>
        have h48 := hx rfl
        simp only [Bool.false_eq_true, if_false]
        rw [if_pos (by omega), if_pos (by omega), hbt, show ((b.toNat : Int) - 48) % 256 = ((b.toNat - 48 : Nat) : Int) by omega, w64 (x := 10 * (n : Int)) (by omega) (by omega), w64 (x := 10 * (n : Int) + ((b.toNat - 48 : Nat) : Int)) (by omega) (by omega), w64 (by omega) (by omega)]
        by_cases c : 4096 < 10 * n + (b.toNat - 48)
        · rw [if_pos c, if_pos (by omega)]
        · rw [if_neg c, if_neg (by omega), show ((12 + q : Nat) : Int) + 1 = ((12 + (q + 1) : Nat) : Int) by omega, show 10 * (n : Int) + ((b.toNat - 48 : Nat) : Int) = ((10 * n + (b.toNat - 48) : Nat) : Int) by omega]
    have hgo : ∀ x : Bool, (x = false → 48 ≤ b.toNat) → (x = true ↔ (¬ isDig b ∨ (b.toNat = 48 ∧ decide (q = 0) = true))) → ¬ (b.toNat = 1 ∧ decide (q = 0) = false) → spigotref10_Open_p.j3 (k + 3 * d + 3 + 1) s 12 ((12 + q : Nat) : Int) (n : Int) x = some (lenO s (12 + q) (lenL (b :: s.data.toList.drop (12 + q + 1)) (decide (q = 0)) n)) := by
      intro x hx hi h1
      rw [hj x hx]
      by_cases g : ¬ isDig b ∨ (b.toNat = 48 ∧ decide (q = 0) = true)
      · rw [if_pos (hi.2 g), lenL_bad _ _ _ _ h1 g]; rfl
      · rw [if_neg (fun e => g (hi.1 e))]
        by_cases c : 4096 < 10 * n + (b.toNat - 48)
        · rw [if_pos c, lenL_much _ _ _ _ h1 g c]; rfl
        · rw [if_neg c, lenO_step _ _ _ _ _ _ h1 g c, ih (q + 1) _ k (by omega) (by omega)]
          rfl
    have hj2 : ¬ (b.toNat = 1 ∧ decide (q = 0) = false) → spigotref10_Open_p.j2 (k + 3 * d + 3 + 1 + 1) s 12 ((12 + q : Nat) : Int) (n : Int) true = some (lenO s (12 + q) (lenL (b :: s.data.toList.drop (12 + q + 1)) (decide (q = 0)) n)) := by
      intro h1
      conv => lhs; unfold spigotref10_Open_p.j2
      rw [if_pos rfl, if_neg (by omega), if_pos (by omega), if_pos (by omega), hbt]
      by_cases a1 : b.toNat < 48
      · rw [if_pos (by omega)]
        exact hgo true (by simp) ⟨fun _ => .inl (fun h => by unfold isDig at h; omega), fun _ => rfl⟩ h1
      · rw [if_neg (by omega)]
        by_cases a2 : 57 < b.toNat
        · rw [if_pos (by omega)]
          exact hgo true (by simp) ⟨fun _ => .inl (fun h => by unfold isDig at h; omega), fun _ => rfl⟩ h1
        · rw [if_neg (by omega)]
          have hdig : isDig b := by unfold isDig; omega
          by_cases a3 : q = 0
          · rw [if_pos (by omega)]
            refine hgo _ (fun _ => by omega) ?_ h1
            rw [beq_iff_eq]
            exact ⟨fun e => .inr ⟨by omega, by simpa using a3⟩, fun e => by
              rcases e with e | e
              · exact absurd hdig e
              · omega⟩
          · rw [if_neg (by omega)]
            refine hgo false (fun _ => by omega) ⟨fun e => (by cases e), fun e => ?_⟩ h1
            rcases e with e | e
            · exact absurd hdig e
            · exact absurd (of_decide_eq_true e.2) a3
    conv => lhs; unfold spigotref10_Open_p.l1
    rw [if_neg (by omega), if_pos (by omega), if_pos (by omega), hbt]
    by_cases a0 : b.toNat = 1
    · rw [if_pos (by omega)]
      by_cases a3 : q = 0
      · rw [show (((12 + q : Nat) : Int) == 12) = true by rw [beq_iff_eq]; omega]
        exact hj2 (fun e => by have := e.2; simp [a3] at this)
      · rw [show (((12 + q : Nat) : Int) == 12) = false by rw [beq_eq_false_iff_ne]; omega, decide_eq_false a3, lenL_one _ _ _ a0, ref10_Open_tail s hs _ (12 + q) n (by omega) hn]
        rfl
    · rw [if_neg (by omega)]
      exact hj2 (fun e => a0 e.1)
theorem bt_beg (i : Nat) (h : i < 12) : bt (⟨#[56, 61, 70, 73, 88, 46, 52, 46, 52, 1, 57, 61]⟩ : ByteArray) (i : Int) = ((begL[i]'(by simpa [begL] using h)).toNat : Int) := bt_get (⟨#[56, 61, 70, 73, 88, 46, 52, 46, 52, 1, 57, 61]⟩ : ByteArray) i (by simpa using h)
theorem ref10_Open_word (s : ByteArray) (hs : s.size ≤ 140737488351232) (d : Nat) : ∀ (i k : Nat), i + d = 12 → i ≤ s.size →
    spigotref10_Open_p.l0 (k + d + 1) s (i : Int) = if wordL (begL.drop i) (s.data.toList.drop i) ≠ 0 then some (⟨#[]⟩, 0, (wordL (begL.drop i) (s.data.toList.drop i) : Int)) else spigotref10_Open_p.l1 k s 12 12 0 := by
  induction d with
  | zero =>
    intro i k hi hz
    obtain rfl : i = 12 := by omega
    unfold spigotref10_Open_p.l0
    rw [if_neg (by omega), List.drop_eq_nil_of_le (show begL.length ≤ 12 by decide), if_neg (by simp [wordL])]
  | succ d ih =>
    intro i k hi hz
    rw [show k + (d + 1) + 1 = (k + d + 1) + 1 by omega]
    unfold spigotref10_Open_p.l0
    have hbl : i < begL.length := by show i < 12; omega
    rw [if_pos (by omega), List.drop_eq_getElem_cons hbl]
    by_cases c : s.size ≤ i
    · rw [if_pos (by omega), List.drop_eq_nil_of_le (show s.data.toList.length ≤ i by rw [size_list]; omega), if_pos (by simp [wordL])]; rfl
    · have hl : i < s.data.toList.length := by rw [size_list]; omega
      rw [if_neg (by omega), if_pos (by omega), if_pos (by omega), bt_beg i (by omega), bt_get s i hl, List.drop_eq_getElem_cons hl]
      by_cases e : s.data.toList[i] = begL[i]
      · rw [if_pos (by rw [e]), w64 (by omega) (by omega), show (i : Int) + 1 = ((i + 1 : Nat) : Int) by omega, ih (i + 1) k (by omega) (by omega)]
        simp only [wordL, if_pos e]
      · rw [if_neg (by intro h; exact e (u8_ext (by omega)))]
        simp only [wordL, if_neg e]
        rfl
theorem ref10_Open_eq (s : ByteArray) (hs : s.size ≤ 140737488351232) : spigotref10_Open_p.f (3 * s.size + 20) s = some (⟨(openL s.data.toList).1.toArray⟩, ((openL s.data.toList).2.1 : Int), ((openL s.data.toList).2.2 : Int)) := by
  unfold spigotref10_Open_p.f
  have hw := ref10_Open_word s hs 12 0 (3 * s.size + 7) (by omega) (by omega)
  rw [List.drop_zero, List.drop_zero] at hw
  rw [show 3 * s.size + 20 = 3 * s.size + 7 + 12 + 1 by omega, show (0 : Int) = ((0 : Nat) : Int) from rfl, hw]
  have hsl : s.data.toList.length = s.size := rfl
  by_cases c1 : wordL begL s.data.toList = 0
  · rw [if_neg (by simpa using c1)]
    have hw2 := wordL_take _ _ c1
    have h12 : 12 ≤ s.size := by
      have := congrArg List.length hw2
      rw [List.length_take, hsl] at this
      have e : begL.length = 12 := rfl
      omega
    have hl := ref10_Open_len s hs (s.size - 12) 0 0 (40) (by omega) (by omega)
    rw [show 3 * s.size + 7 = 40 + 3 * (s.size - 12) + 3 by omega, show (12 : Int) = ((12 + 0 : Nat) : Int) from rfl]
    have hl2 : spigotref10_Open_p.l1 (40 + 3 * (s.size - 12) + 3) s ((12 + 0 : Nat) : Int) ((12 + 0 : Nat) : Int) 0 = _ := hl
    rw [hl2, show decide ((0 : Nat) = 0) = true from rfl, show 12 + 0 = 12 from rfl]
    unfold lenO
    by_cases c2 : (lenL (s.data.toList.drop 12) true 0).2.2 = 0
    · rw [if_neg (by simpa using c2)]
      obtain ⟨d1, d2, d3, d4, d5⟩ := lenL_digits _ c2
      rw [List.length_drop, hsl] at d5
      unfold tailO openL
      simp only
      rw [if_neg (show ¬ wordL begL s.data.toList ≠ 0 by simpa using c1), if_neg (show ¬ (lenL (s.data.toList.drop 12) true 0).2.2 ≠ 0 by simpa using c2)]
      by_cases c3 : s.data.toList.length < 12 + (lenL (s.data.toList.drop 12) true 0).2.1 + (lenL (s.data.toList.drop 12) true 0).1 + 7
      · rw [if_pos c3, if_pos (by rw [← hsl]; exact c3)]; rfl
      · rw [if_neg c3, if_neg (by rw [← hsl]; exact c3)]
        generalize (lenL (s.data.toList.drop 12) true 0).2.1 = k at *
        generalize (lenL (s.data.toList.drop 12) true 0).1 = n at *
        rw [hsl] at c3
        have hb : ((s.data.toList.drop (12 + k)).take n).length = n := by rw [List.length_take, List.length_drop, hsl]; omega
        have hhead : s.data.toList.take (12 + k + n) = begL ++ (digitsN n ++ 1 :: (s.data.toList.drop (12 + k)).take n) := by
          rw [List.take_add, List.take_add, show s.data.toList.take 12 = begL from hw2, d1]; simp
        have hiff : (s.data.toList.take (12 + k + n + 7) = msgL ((s.data.toList.drop (12 + k)).take n)) ↔ (s.data.toList.drop (12 + k + n)).take 7 = trailL (s.data.toList.take (12 + k + n)) := by
          unfold msgL
          rw [hb, List.take_add, ← hhead]
          exact List.append_right_inj _
        by_cases c4 : (s.data.toList.drop (12 + k + n)).take 7 = trailL (s.data.toList.take (12 + k + n))
        · rw [if_pos (hiff.2 c4), if_neg (show ¬ _ ≠ _ by simpa using c4)]
          by_cases c5 : (fieldsL ((s.data.toList.drop (12 + k)).take n) 0 0).2.2 = 0
          · rw [if_pos c5, if_neg (by simpa using c5)]
            have : s.extract (12 + k) (12 + k + n) = ⟨((s.data.toList.drop (12 + k)).take n).toArray⟩ := ba_ext (mid_list_r s _ _)
            rw [this]; rfl
          · rw [if_neg c5, if_pos (by simpa using c5)]; rfl
        · rw [if_neg (fun e => c4 (hiff.1 e)), if_pos c4]; rfl
    · rw [if_pos (by simpa using c2)]
      unfold openL
      simp only
      rw [if_neg (by simpa using c1), if_pos (by simpa using c2)]; rfl
  · rw [if_pos (by simpa using c1)]
    unfold openL
    rw [if_pos (by simpa using c1)]; rfl
def spigotref10_Open.f (a0 : ByteArray) : Option (ByteArray × Int × Int) := if a0.size ≤ 140737488351232 then some (⟨(openL a0.data.toList).1.toArray⟩, ((openL a0.data.toList).2.1 : Int), ((openL a0.data.toList).2.2 : Int)) else none
theorem spigotref10_Open.calls (a0 : ByteArray) (r1 : ByteArray) (r2 : Int) (r3 : Int) (w : World) (h : spigotref10_Open.f a0 = some (r1, r2, r3)) :
    Calls Tryd.prog 14 #[.string a0] w fun e w' => e = .returned (.tuple #[.string r1, .int .i64 r2, .int .i64 r3]) ∧ Below w.heap.size w w' := by
  unfold spigotref10_Open.f at h
  by_cases c : a0.size ≤ 140737488351232
  · rw [if_pos c] at h
    exact spigotref10_Open_p.calls _ a0 r1 r2 r3 w ((ref10_Open_eq a0 c).trans h)
  · rw [if_neg c] at h; cases h

end Go.Proofs.YtgknfdjfgemceaaDoor.Q
