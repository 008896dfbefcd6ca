/- The functions that the law reaches, as plain Lean functions, and their contracts: texts merged. -/
import Derived.Laws.StructEq
import Derived.Test.YtgfigkfcmkdjdaaGreatDoorzAskEncodes2
import Derived.Test.YtgfigkfcmkdjdaaGreatDoorzAskEncodes0
import Derived.Test.YtgfigkfcmkdjdaaGreatDoorzAskEncodes1
import Derived.Test.YtgfigkfcmkdjdaaGreatDoorzAskEncodes3
section
namespace Go.Proofs.YtgfigkfcmkdjdaaGreatDoor.B
open Go.RowKit Go.Proofs.YtgfigkfcmkdjdaaGreatDoorW.PrintWords Go.Proofs.YtgfigkfcmkdjdaaGreatDoorW.PrintLast Go.Proofs.YtgfigkfcmkdjdaaGreatDoorW.PrintMore
attribute [local go_sem] max2_int min2_int max_two min_two max_three min_three max_four min_four   -- for this text's walks alone
set_option linter.unusedVariables false
set_option linter.unusedSimpArgs false
theorem spigotref08_May_same (r : Nat) (hr : r ≤ 2147483647) (w : World) :
    Calls Tryz.prog 89 #[.int .i32 (r : Int)] w fun e w' => e = .returned (.bool (mayB r)) ∧ w = w' := by
  by_cases c1 : r < 32
  · have hv : mayB r = false := by unfold mayB; simp; omega
    have t1 : decide ((31 : Int) < (r : Int)) = false := by rw [decide_eq_false_iff_not]; omega
    rw [hv]
    clear hv c1
    go_enter Tryz.func89, Tryz.ntmps89
    go_wp2
    go_ret
    exact ⟨rfl, rfl⟩
  have t1 : decide ((31 : Int) < (r : Int)) = true := by rw [decide_eq_true_eq]; omega
  by_cases c2 : r = 127
  · subst c2
    go_enter Tryz.func89, Tryz.ntmps89
    go_wp2
    go_ret
    exact ⟨rfl, rfl⟩
  by_cases c3 : r = 65533
  · subst c3
    go_enter Tryz.func89, Tryz.ntmps89
    go_wp2
    go_ret
    exact ⟨rfl, rfl⟩
  have hv : mayB r = true := by rw [mayB_eq]; omega
  have t2 : ((r : Int) == 127) = false := by rw [beq_eq_false_iff_ne]; omega
  have t3 : ((r : Int) != 127) = true := by rw [bne_iff_ne]; omega
  have t4 : ((r : Int) == 65533) = false := by rw [beq_eq_false_iff_ne]; omega
  have t5 : ((r : Int) != 65533) = true := by rw [bne_iff_ne]; omega
  rw [hv]
  clear hv c1 c2 c3
  go_enter Tryz.func89, Tryz.ntmps89
  go_wp2
  go_ret
  exact ⟨rfl, rfl⟩
end Go.Proofs.YtgfigkfcmkdjdaaGreatDoor.B
end
section
namespace Go.Proofs.YtgfigkfcmkdjdaaGreatDoor.B
open Go.RowKit Go.Proofs.YtgfigkfcmkdjdaaGreatDoorW.PrintWords Go.Proofs.YtgfigkfcmkdjdaaGreatDoorW.PrintLast Go.Proofs.YtgfigkfcmkdjdaaGreatDoorW.PrintMore
attribute [local go_sem] max2_int min2_int max_two min_two max_three min_three max_four min_four   -- for this text's walks alone
set_option linter.unusedVariables false
set_option linter.unusedSimpArgs false
def spigotref08_width.f (a0 : ByteArray) : Option Int := if a0.size ≤ big then some (widthL a0.data.toList : Int) else none
def IntIs (n : Int) (w : World) (e : Ending) (w' : World) : Prop := e = .returned (.int .i64 n) ∧ Below w.heap.size w w'
theorem IntIs.mk_ {a n : Int} {w w' : World} (h : a = n) (hw : Below w.heap.size w w') : IntIs n w (.returned (.int .i64 a)) w' := by subst h; exact ⟨rfl, hw⟩
set_option maxHeartbeats 2000000 in
theorem spigotref08_width_walk (s : ByteArray) (w : World) (hs : s.size ≤ big) :
    Calls Tryz.prog 70 #[.string s] w (IntIs (widthL s.data.toList) w) := by
  unfold big at hs
  have HL : Aside0 (s.data.toList.length = s.size) := ⟨rfl⟩
  go_enter Tryz.func70, Tryz.ntmps70
  go_wp2
  go_loopw [3] (fun v3 w' => ∃ n : Nat, v3 = .int .i64 (n : Int) ∧ 1 ≤ n ∧ n ≤ 5 ∧ Aside0 (Below w.heap.size w w') ∧ Aside0 ((dec s.data.toList).1 ≠ 65533 → s.data.toList ≠ [] → n ≤ (dec s.data.toList).2)) (fun v3 _ => 5 - (intOf v3).toNat)
  case atStart => exact ⟨1, rfl, Nat.le_refl _, by omega, ⟨Below.refl _ _⟩, ⟨fun _ _ => dec_width _⟩⟩
  case round =>
    obtain ⟨n, rfl, hn1, hn5, HB, HA⟩ := hrel
    by_cases hlt : n ≤ 4 ∧ n ≤ s.size
    · obtain ⟨hn4, hns⟩ := hlt
      have hz : (s.extract 0 n).size ≤ 70368744177664 := by rw [ByteArray.size_extract]; omega
      obtain ⟨cap, C, hcv, hcap, hCs, hC⟩ := runes_conv (P := Tryz.prog) wr 9 89 21 (s.extract 0 n) Tryz.underlying9 Tryz.underlying89 Tryz.underlying21 hz
      have hz2 := hCs
      rw [take_list] at hcv hcap hC
      have t1 : decide ((n : Int) ≤ 4) = true := by rw [decide_eq_true_eq]; omega
      have t2 : decide ((n : Int) ≤ (s.size : Int)) = true := by rw [decide_eq_true_eq]; omega
      have HB2 : Aside0 (Below w.heap.size w (wr.drew.alloc (.cells C 21))) := ⟨HB.out.drew.alloc (by have := HB.out.size; exact this) _⟩
      by_cases hone : (runesL (s.data.toList.take n)).length = 1
      · obtain ⟨r, hr⟩ : ∃ r, runesL (s.data.toList.take n) = [r] := List.length_eq_one_iff.1 hone
        have hc0 := hC 0 (by omega)
        rw [hr] at hcv hc0
        have hc0' : C[0]? = some (.int .i32 (r : Int)) := hc0
        by_cases hr5 : r = 65533
        · subst hr5
          have HN : Aside0 ((dec s.data.toList).1 ≠ 65533 → s.data.toList ≠ [] → n + 1 ≤ (dec s.data.toList).2) := ⟨fun g g2 => by
            have h1 := HA.out g g2
            rcases Nat.lt_or_ge n (dec s.data.toList).2 with g3 | g3
            · exact g3
            · have e : n = (dec s.data.toList).2 := by omega
              have := one_runes s.data.toList g2 g
              rw [← e, hr] at this
              injection this with this _
              exact absurd this.symm g⟩
          clear HA hC hc0 hone hr hz hcap hz2 hCs
          go_wp2
          go_roundw
          case rel => exact ⟨n + 1, by simp, by omega, by omega, HB2, HN⟩
          case measure => simp [intOf]; omega
        · have hdec := runes_one s.data.toList n r hn1 (by rw [size_list]; omega) hr5 hr
          have hne : s.data.toList ≠ [] := by intro e; have := congrArg List.length e; rw [size_list, List.length_nil] at this; omega
          have hrl : r ≤ 2147483647 := by have := dec_rune s.data.toList; rw [hdec] at this; omega
          have t3 : ((r : Int) != 65533) = true := by rw [bne_iff_ne]; omega
          have HM : Aside0 (∀ w, Calls Tryz.prog 89 #[.int .i32 (r : Int)] w fun e w' => e = .returned (.bool (mayB r)) ∧ w = w') := ⟨fun w => spigotref08_May_same r hrl w⟩
          cases hm : mayB r with
          | true =>
            rw [hm] at HM
            have HF : Aside0 ((n : Int) = (widthL s.data.toList : Int)) := ⟨by unfold widthL; rw [if_pos ⟨hne, by rw [hdec]; exact hm⟩, hdec]⟩
            clear HA hC hc0 hone hr hz hcap hz2 hCs hdec hne hm hr5 hrl
            go_wp2_with (go_at_call 89; refine (HM.out _).mono ?_; rintro e w1 ⟨rfl, rfl⟩)
            go_ret
            exact IntIs.mk_ HF.out HB2.out
          | false =>
            rw [hm] at HM
            have HF : Aside0 ((0 : Int) = (widthL s.data.toList : Int)) := ⟨by unfold widthL; rw [if_neg (by rw [hdec]; simp [hm])]; rfl⟩
            clear HA hC hc0 hone hr hz hcap hz2 hCs hdec hne hm hr5 hrl
            go_wp2_with (go_at_call 89; refine (HM.out _).mono ?_; rintro e w1 ⟨rfl, rfl⟩)
            go_ret
            exact IntIs.mk_ HF.out HB2.out
      · have t3 : (((runesL (s.data.toList.take n)).length : Int) == 1) = false := by rw [beq_eq_false_iff_ne]; omega
        have HN : Aside0 ((dec s.data.toList).1 ≠ 65533 → s.data.toList ≠ [] → n + 1 ≤ (dec s.data.toList).2) := ⟨fun g g2 => by
          have h1 := HA.out g g2
          rcases Nat.lt_or_ge n (dec s.data.toList).2 with g3 | g3
          · exact g3
          · have e : n = (dec s.data.toList).2 := by omega
            have := one_runes s.data.toList g2 g
            rw [← e] at this
            exact absurd (by rw [this]; rfl) hone⟩
        generalize (runesL (s.data.toList.take n)).length = m at *
        clear HA hC hone hz hcap hz2 hCs
        go_wp2
        go_roundw
        case rel => exact ⟨n + 1, by simp, by omega, by omega, HB2, HN⟩
        case measure => simp [intOf]; omega
    · have HF : Aside0 ((0 : Int) = (widthL s.data.toList : Int)) := ⟨by
        unfold widthL
        by_cases g : s.data.toList ≠ [] ∧ mayB (dec s.data.toList).1 = true
        · have h1 := HA.out ((mayB_eq _).1 g.2).2.2 g.1
          have h4 := dec_width4 s.data.toList
          have h5 := dec_width_le s.data.toList g.1
          rw [size_list] at h5
          omega
        · rw [if_neg g]; rfl⟩
      clear HA
      by_cases g4 : n ≤ 4
      · have t1 : decide ((n : Int) ≤ 4) = true := by rw [decide_eq_true_eq]; omega
        have t2 : decide ((n : Int) ≤ (s.size : Int)) = false := by rw [decide_eq_false_iff_not]; omega
        go_wp2
        go_ret
        exact IntIs.mk_ HF.out HB.out
      · have t1 : decide ((n : Int) ≤ 4) = false := by rw [decide_eq_false_iff_not]; omega
        go_wp2
        go_ret
        exact IntIs.mk_ HF.out HB.out
theorem spigotref08_width.calls (a0 : ByteArray) (r : Int) (w : World) (h : spigotref08_width.f a0 = some r) :
    Calls Tryz.prog 70 #[.string a0] w fun e w' => e = .returned (.int .i64 r) ∧ Below w.heap.size w w' := by
  unfold spigotref08_width.f at h
  by_cases c : a0.size ≤ big
  · rw [if_pos c] at h
    obtain rfl := Option.some.inj h
    exact spigotref08_width_walk a0 w c
  · rw [if_neg c] at h; cases h
end Go.Proofs.YtgfigkfcmkdjdaaGreatDoor.B
end
