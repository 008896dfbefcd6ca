/- Each Go function that the laws of this seat reach, as a plain Lean function, and its contract: the machine's call does what that function says. -/
import Derived.Test.YtbkpkfbdpmjgoaaDoorQx0
import Derived.Test.YtbkpkfbdpmjgoaaDoorQx1
namespace Go.Proofs.YtbkpkfbdpmjgoaaDoor.Q
open Go.RowKit Go.Proofs.YtbkpkfbdpmjgoaaDoorW.PrintWords Go.Proofs.YtbkpkfbdpmjgoaaDoorW.PrintLast Go.Proofs.YtbkpkfbdpmjgoaaDoorW.PrintMore
attribute [local go_sem] max2_int min2_int max_two min_two max_three min_three max_four min_four   -- for this text's walks alone
set_option linter.unusedVariables false
set_option linter.unusedSimpArgs false

--PART
/-! ### tag_number: function 56 -/
def tag_number.f (a0 : ByteArray) : Option (Int × Int × Int) := if a0.size ≤ big then some (((numL a0.data.toList 0 0).1 : Int), ((numL a0.data.toList 0 0).2.1 : Int), ((numL a0.data.toList 0 0).2.2 : Int)) else none
theorem drop_cons (s : ByteArray) (pos : Nat) (h : pos < s.size) : s.data.toList.drop pos = s[pos]'h :: s.data.toList.drop (pos + 1) := by
  rw [List.drop_eq_getElem_cons (by rw [size_list]; exact h)]; rfl
theorem numL_end (i tg : Nat) : numL [] i tg = (0, 0, 82) := rfl
theorem numL_sep (b : UInt8) (t : List UInt8) (i tg : Nat) (h : b.toNat = 61) (hi : 0 < i) : numL (b :: t) i tg = (tg, i + 1, 0) := by unfold numL; rw [if_pos ⟨h, hi⟩]
theorem numL_bad (b : UInt8) (t : List UInt8) (i tg : Nat) (h : ¬ (b.toNat = 61 ∧ 0 < i)) (h2 : ¬ isDig b ∨ (b.toNat = 48 ∧ i = 0)) : numL (b :: t) i tg = (0, 0, 80) := by unfold numL; rw [if_neg h, if_pos h2]
theorem numL_big (b : UInt8) (t : List UInt8) (i tg : Nat) (h : isDig b) (h2 : ¬ (b.toNat = 48 ∧ i = 0)) (h3 : 99999 < 10 * tg + (b.toNat - 48)) : numL (b :: t) i tg = (0, 0, 80) := by
  unfold numL; rw [if_neg (by unfold isDig at h; omega), if_neg (fun g => g.elim (fun g => g h) h2), if_pos h3]
theorem numL_go (b : UInt8) (t : List UInt8) (i tg : Nat) (h : isDig b) (h2 : ¬ (b.toNat = 48 ∧ i = 0)) (h3 : ¬ 99999 < 10 * tg + (b.toNat - 48)) : numL (b :: t) i tg = numL t (i + 1) (10 * tg + (b.toNat - 48)) := by
  conv => lhs; unfold numL
  rw [if_neg (by unfold isDig at h; omega), if_neg (fun g => g.elim (fun g => g h) h2), if_neg h3]
def NumIs (l : List UInt8) (w : World) (e : Ending) (w' : World) : Prop := e = .returned (.tuple #[.int .i64 ((numL l 0 0).1 : Int), .int .i64 ((numL l 0 0).2.1 : Int), .int .i64 ((numL l 0 0).2.2 : Int)]) ∧ Below w.heap.size w w'
theorem NumIs.mk_ {l : List UInt8} {w w' : World} {a b c : Nat} (h : (a, b, c) = numL l 0 0) (hw : Below w.heap.size w w') : NumIs l w (.returned (.tuple #[.int .i64 (a : Int), .int .i64 (b : Int), .int .i64 (c : Int)])) w' := by
  unfold NumIs; rw [← h]; exact ⟨rfl, hw⟩
set_option maxHeartbeats 1000000 in
theorem tag_number_walk (s : ByteArray) (w : World) (hs : s.size ≤ big) :
    Calls Tryd.prog 56 #[.string s] w (NumIs s.data.toList w) := by
  unfold big at hs
  go_enter Tryd.func56, Tryd.ntmps56
  go_wp2
  go_loopw [2] (fun t w' => ∃ pos tg : Nat, w' = w.iter s pos ∧ t = .int .i64 (tg : Int) ∧ pos ≤ s.size ∧ tg ≤ 99999 ∧ Aside0 (numL (s.data.toList.drop pos) pos tg = numL s.data.toList 0 0)) (fun _ w' => s.size - w'.iterPos w.heap.size)
  case atStart => exact ⟨0, 0, rfl, rfl, Nat.zero_le _, by omega, ⟨rfl⟩⟩
  case round =>
    obtain ⟨pos, tg, rfl, rfl, hpos, htg, hA⟩ := hrel
    have hBel : Aside0 (∀ p, Below w.heap.size w (w.iter s p)) := ⟨fun p => (Below.refl _ _).alloc (Nat.le_refl _) _⟩
    by_cases hp : pos < s.size
    · have hcons := drop_cons s pos hp
      by_cases ha : (s[pos]'hp).toNat < 128
      · have hnx : ∀ ty, (Instr.next (.pointer (some ⟨w.heap.size, 0, none⟩)) true ty).run Tryd.prog (w.iter s pos) = _ := fun ty => run_next_ascii w s pos ty hp ha
        rw [hcons] at hA
        clear hcons
        generalize s[pos]'hp = b at *
        have hb48 : isDig b ↔ 48 ≤ b.toNat ∧ b.toNat ≤ 57 := Iff.rfl
        generalize hN : b.toNat = n at *
        by_cases c1 : n = 61 ∧ 0 < pos
        · obtain ⟨rfl, c1⟩ := c1
          have HF := Aside0.mk (hA.out.symm.trans (numL_sep b _ pos tg hN c1))
          clear hA hb48 hN
          go_wp2
          go_ret3
          exact NumIs.mk_ (a := tg) (b := pos + 1) (c := 0) HF.out.symm (hBel.out _)
        · have hbad : ∀ (hb : ¬ isDig b ∨ (b.toNat = 48 ∧ pos = 0)), Aside0 (numL s.data.toList 0 0 = (0, 0, 80)) := fun hb => ⟨hA.out.symm.trans (numL_bad b _ pos tg (by rw [hN]; exact c1) hb)⟩
          by_cases c2 : n < 48
          · have HF := hbad (.inl (by rw [hb48]; omega))
            have t1 : ((n : Int) == 61) = false := by rw [beq_eq_false_iff_ne]; omega
            have t2 : decide ((n : Int) < 48) = true := by rw [decide_eq_true_eq]; omega
            clear hA hb48 hN hbad c1 c2
            go_wp2
            go_ret3
            exact NumIs.mk_ (a := 0) (b := 0) (c := 80) HF.out.symm (hBel.out _)
          by_cases c3 : 57 < n
          · have HF := hbad (.inl (by rw [hb48]; omega))
            have t2 : decide ((n : Int) < 48) = false := by rw [decide_eq_false_iff_not]; omega
            have t3 : decide ((57 : Int) < n) = true := by rw [decide_eq_true_eq]; omega
            by_cases c4 : n = 61
            · obtain rfl : pos = 0 := by omega
              subst c4
              clear hA hb48 hN hbad c1 c2 c3
              go_wp2
              go_ret3
              exact NumIs.mk_ (a := 0) (b := 0) (c := 80) HF.out.symm (hBel.out _)
            · have t1 : ((n : Int) == 61) = false := by rw [beq_eq_false_iff_ne]; omega
              clear hA hb48 hN hbad c1 c2 c3 c4
              go_wp2
              go_ret3
              exact NumIs.mk_ (a := 0) (b := 0) (c := 80) HF.out.symm (hBel.out _)
          have t1 : ((n : Int) == 61) = false := by rw [beq_eq_false_iff_ne]; omega
          have t2 : decide ((n : Int) < 48) = false := by rw [decide_eq_false_iff_not]; omega
          have t3 : decide ((57 : Int) < n) = false := by rw [decide_eq_false_iff_not]; omega
          by_cases c4 : n = 48 ∧ pos = 0
          · have HF := hbad (.inr (by rw [hN]; exact c4))
            obtain ⟨rfl, rfl⟩ := c4
            clear hA hb48 hN hbad c1 c2 c3
            go_wp2
            go_ret3
            exact NumIs.mk_ (a := 0) (b := 0) (c := 80) HF.out.symm (hBel.out _)
          have hgo := numL_go b (s.data.toList.drop (pos + 1)) pos tg (hb48.2 (by omega)) (by rw [hN]; exact c4)
          have hbg := numL_big b (s.data.toList.drop (pos + 1)) pos tg (hb48.2 (by omega)) (by rw [hN]; exact c4)
          rw [hN] at hgo hbg
          have g1 : 48 ≤ n := by omega
          have g2 : n ≤ 57 := by omega
          have hval : (10 * (tg : Int) + ((n : Int) - 48)) = ((10 * tg + (n - 48) : Nat) : Int) := by omega
          have HV := Aside0.mk hval
          clear hval
          have t4 : ((n : Int) == 48 && (pos : Int) == 0) = false := by
            rw [Bool.and_eq_false_iff, beq_eq_false_iff_ne, beq_eq_false_iff_ne]; omega
          by_cases c5 : 99999 < 10 * tg + (n - 48)
          · have HF := Aside0.mk (hA.out.symm.trans (hbg c5))
            have t5 : decide ((99999 : Int) < 10 * (tg : Int) + ((n : Int) - 48)) = true := by rw [decide_eq_true_eq]; omega
            have t6 : (n : Int) = 48 → ¬ (pos : Int) = 0 := by omega
            clear hA hb48 hN hbad c1 c2 c3 c4 hgo hbg c5
            by_cases c6 : n = 48
            · have t7 : ((pos : Int) == 0) = false := by rw [beq_eq_false_iff_ne]; omega
              subst c6
              have t8 : decide ((99999 : Int) < 10 * (tg : Int)) = true := by rw [decide_eq_true_eq] at t5 ⊢; omega
              clear t5 t6
              go_wp2
              go_ret3
              exact NumIs.mk_ (a := 0) (b := 0) (c := 80) HF.out.symm (hBel.out _)
            · have t7 : ((n : Int) == 48) = false := by rw [beq_eq_false_iff_ne]; omega
              clear t6
              go_wp2
              go_ret3
              exact NumIs.mk_ (a := 0) (b := 0) (c := 80) HF.out.symm (hBel.out _)
          · have HA2 := Aside0.mk ((hgo c5).symm.trans hA.out)
            have t5 : decide ((99999 : Int) < 10 * (tg : Int) + ((n : Int) - 48)) = false := by rw [decide_eq_false_iff_not]; omega
            have hb5 : 10 * tg + (n - 48) ≤ 99999 := by omega
            have HB5 := Aside0.mk hb5
            have t6 : (n : Int) = 48 → ¬ (pos : Int) = 0 := by omega
            clear hA hb48 hN hbad c1 c2 c3 c4 hgo hbg c5 hb5
            by_cases c6 : n = 48
            · have t7 : ((pos : Int) == 0) = false := by rw [beq_eq_false_iff_ne]; omega
              subst c6
              have t8 : decide ((99999 : Int) < 10 * (tg : Int)) = false := by rw [decide_eq_false_iff_not] at t5 ⊢; omega
              clear t5 t6
              go_wp2
              go_roundw
              case rel => exact ⟨pos + 1, 10 * tg + (48 - 48), rfl, by have := HV.out; simp only [Value.int.injEq, true_and]; omega, hp, HB5.out, HA2⟩
              case measure => simp; omega
            · have t7 : ((n : Int) == 48) = false := by rw [beq_eq_false_iff_ne]; omega
              clear t6
              go_wp2
              go_roundw
              case rel => exact ⟨pos + 1, 10 * tg + (n - 48), rfl, by have := HV.out; simp only [Value.int.injEq, true_and]; omega, hp, HB5.out, HA2⟩
              case measure => simp; omega
      · have hnx : ∀ ty, (Instr.next (.pointer (some ⟨w.heap.size, 0, none⟩)) true ty).run Tryd.prog (w.iter s pos) = _ := fun ty => run_next_any w s pos ty hp
        have hh := (decode_high s pos hp (by omega)).1
        have hle := decode_le s pos
        rw [hcons] at hA
        have HF := Aside0.mk (hA.out.symm.trans (numL_bad (s[pos]'hp) _ pos tg (by omega) (.inl (by unfold isDig; omega))))
        clear hA hcons ha
        generalize (Utf8.decode s pos).1 = r at *
        generalize (Utf8.decode s pos).2 = wd at *
        have t1 : ((r : Int) == 61) = false := by rw [beq_eq_false_iff_ne]; omega
        have t2 : decide ((r : Int) < 48) = false := by rw [decide_eq_false_iff_not]; omega
        have t3 : decide ((57 : Int) < r) = true := by rw [decide_eq_true_eq]; omega
        go_wp2
        go_ret3
        exact NumIs.mk_ (a := 0) (b := 0) (c := 80) HF.out.symm (hBel.out _)
    · have hnx : ∀ ty, (Instr.next (.pointer (some ⟨w.heap.size, 0, none⟩)) true ty).run Tryd.prog (w.iter s pos) = _ := fun ty => run_next_end w s pos ty hp
      have HF := Aside0.mk ((show numL (s.data.toList.drop pos) pos tg = (0, 0, 82) by rw [List.drop_eq_nil_of_le (by rw [size_list]; omega)]; rfl).symm.trans hA.out)
      clear hA
      go_wp2
      go_ret3
      exact NumIs.mk_ (a := 0) (b := 0) (c := 82) HF.out (hBel.out _)
theorem tag_number.calls (a0 : ByteArray) (r1 r2 r3 : Int) (w : World) (h : tag_number.f a0 = some (r1, r2, r3)) :
    Calls Tryd.prog 56 #[.string a0] w fun e w' => e = .returned (.tuple #[.int .i64 r1, .int .i64 r2, .int .i64 r3]) ∧ Below w.heap.size w w' := by
  unfold tag_number.f at h
  by_cases c : a0.size ≤ big
  · rw [if_pos c] at h
    simp only [Option.some.injEq, Prod.mk.injEq] at h
    obtain ⟨rfl, rfl, rfl⟩ := h
    exact tag_number_walk a0 w c
  · rw [if_neg c] at h; cases h

end Go.Proofs.YtbkpkfbdpmjgoaaDoor.Q
