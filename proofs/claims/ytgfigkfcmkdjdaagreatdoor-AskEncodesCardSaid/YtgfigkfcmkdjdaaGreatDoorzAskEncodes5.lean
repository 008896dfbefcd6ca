/- The functions that the law reaches, as plain Lean functions, and their contracts: texts merged. -/
import Derived.Laws.StructEq
import Derived.Test.YtgfigkfcmkdjdaaGreatDoorzAskEncodes2
import Derived.Test.YtgfigkfcmkdjdaaGreatDoorzAskEncodes0
import Derived.Test.YtgfigkfcmkdjdaaGreatDoorzAskEncodes1
import Derived.Test.YtgfigkfcmkdjdaaGreatDoorzAskEncodes3
import Derived.Test.YtgfigkfcmkdjdaaGreatDoorzAskEncodes4
section
namespace Go.Proofs.YtgfigkfcmkdjdaaGreatDoor.B
open Go.RowKit Go.Proofs.YtgfigkfcmkdjdaaGreatDoorW.PrintWords Go.Proofs.YtgfigkfcmkdjdaaGreatDoorW.PrintLast Go.Proofs.YtgfigkfcmkdjdaaGreatDoorW.PrintMore
attribute [local go_sem] max2_int min2_int max_two min_two max_three min_three max_four min_four   -- for this text's walks alone
set_option linter.unusedVariables false
set_option linter.unusedSimpArgs false
def tag_number.f (a0 : ByteArray) : Option (Int × Int × Int) := if a0.size ≤ big then some (((numL a0.data.toList 0 0).1 : Int), ((numL a0.data.toList 0 0).2.1 : Int), ((numL a0.data.toList 0 0).2.2 : Int)) else none
theorem drop_cons (s : ByteArray) (pos : Nat) (h : pos < s.size) : s.data.toList.drop pos = s[pos]'h :: s.data.toList.drop (pos + 1) := by
  rw [List.drop_eq_getElem_cons (by rw [size_list]; exact h)]; rfl
theorem numL_sep (b : UInt8) (t : List UInt8) (i tg : Nat) (h : b.toNat = 61) (hi : 0 < i) : numL (b :: t) i tg = (tg, i + 1, 0) := by unfold numL; rw [if_pos ⟨h, hi⟩]
theorem numL_bad (b : UInt8) (t : List UInt8) (i tg : Nat) (h : ¬ (b.toNat = 61 ∧ 0 < i)) (h2 : ¬ isDig b ∨ (b.toNat = 48 ∧ i = 0)) : numL (b :: t) i tg = (0, 0, 80) := by unfold numL; rw [if_neg h, if_pos h2]
theorem numL_big (b : UInt8) (t : List UInt8) (i tg : Nat) (h : isDig b) (h2 : ¬ (b.toNat = 48 ∧ i = 0)) (h3 : 99999 < 10 * tg + (b.toNat - 48)) : numL (b :: t) i tg = (0, 0, 80) := by
  unfold numL; rw [if_neg (by unfold isDig at h; omega), if_neg (fun g => g.elim (fun g => g h) h2), if_pos h3]
theorem numL_go (b : UInt8) (t : List UInt8) (i tg : Nat) (h : isDig b) (h2 : ¬ (b.toNat = 48 ∧ i = 0)) (h3 : ¬ 99999 < 10 * tg + (b.toNat - 48)) : numL (b :: t) i tg = numL t (i + 1) (10 * tg + (b.toNat - 48)) := by
  conv => lhs; unfold numL
  rw [if_neg (by unfold isDig at h; omega), if_neg (fun g => g.elim (fun g => g h) h2), if_neg h3]
def NumIs (l : List UInt8) (w : World) (e : Ending) (w' : World) : Prop := e = .returned (.tuple #[.int .i64 ((numL l 0 0).1 : Int), .int .i64 ((numL l 0 0).2.1 : Int), .int .i64 ((numL l 0 0).2.2 : Int)]) ∧ Below w.heap.size w w'
theorem NumIs.mk_ {l : List UInt8} {w w' : World} {a b c : Nat} (h : (a, b, c) = numL l 0 0) (hw : Below w.heap.size w w') : NumIs l w (.returned (.tuple #[.int .i64 (a : Int), .int .i64 (b : Int), .int .i64 (c : Int)])) w' := by
  unfold NumIs; rw [← h]; exact ⟨rfl, hw⟩
set_option maxHeartbeats 1000000 in
theorem tag_number_walk (s : ByteArray) (w : World) (hs : s.size ≤ big) :
    Calls Tryz.prog 90 #[.string s] w (NumIs s.data.toList w) := by
  unfold big at hs
  go_enter Tryz.func90, Tryz.ntmps90
  go_wp2
  go_loopw [2] (fun t w' => ∃ pos tg : Nat, w' = w.iter s pos ∧ t = .int .i64 (tg : Int) ∧ pos ≤ s.size ∧ tg ≤ 99999 ∧ Aside0 (numL (s.data.toList.drop pos) pos tg = numL s.data.toList 0 0)) (fun _ w' => s.size - w'.iterPos w.heap.size)
  case atStart => exact ⟨0, 0, rfl, rfl, Nat.zero_le _, by omega, ⟨rfl⟩⟩
  case round =>
    obtain ⟨pos, tg, rfl, rfl, hpos, htg, hA⟩ := hrel
    have hBel : Aside0 (∀ p, Below w.heap.size w (w.iter s p)) := ⟨fun p => (Below.refl _ _).alloc (Nat.le_refl _) _⟩
    by_cases hp : pos < s.size
    · have hcons := drop_cons s pos hp
      by_cases ha : (s[pos]'hp).toNat < 128
      · have hnx : ∀ ty, (Instr.next (.pointer (some ⟨w.heap.size, 0, none⟩)) true ty).run Tryz.prog (w.iter s pos) = _ := fun ty => run_next_ascii w s pos ty hp ha
        rw [hcons] at hA
        clear hcons
        generalize s[pos]'hp = b at *
        have hb48 : isDig b ↔ 48 ≤ b.toNat ∧ b.toNat ≤ 57 := Iff.rfl
        generalize hN : b.toNat = n at *
        by_cases c1 : n = 61 ∧ 0 < pos
        · obtain ⟨rfl, c1⟩ := c1
          have HF := Aside0.mk (hA.out.symm.trans (numL_sep b _ pos tg hN c1))
          clear hA hb48 hN
          go_wp2
          go_ret3
          exact NumIs.mk_ (a := tg) (b := pos + 1) (c := 0) HF.out.symm (hBel.out _)
        · have hbad : ∀ (hb : ¬ isDig b ∨ (b.toNat = 48 ∧ pos = 0)), Aside0 (numL s.data.toList 0 0 = (0, 0, 80)) := fun hb => ⟨hA.out.symm.trans (numL_bad b _ pos tg (by rw [hN]; exact c1) hb)⟩
          by_cases c2 : n < 48
          · have HF := hbad (.inl (by rw [hb48]; omega))
            have t1 : ((n : Int) == 61) = false := by rw [beq_eq_false_iff_ne]; omega
            have t2 : decide ((n : Int) < 48) = true := by rw [decide_eq_true_eq]; omega
            clear hA hb48 hN hbad c1 c2
            go_wp2
            go_ret3
            exact NumIs.mk_ (a := 0) (b := 0) (c := 80) HF.out.symm (hBel.out _)
          by_cases c3 : 57 < n
          · have HF := hbad (.inl (by rw [hb48]; omega))
            have t2 : decide ((n : Int) < 48) = false := by rw [decide_eq_false_iff_not]; omega
            have t3 : decide ((57 : Int) < n) = true := by rw [decide_eq_true_eq]; omega
            by_cases c4 : n = 61
            · obtain rfl : pos = 0 := by omega
              subst c4
              clear hA hb48 hN hbad c1 c2 c3
              go_wp2
              go_ret3
              exact NumIs.mk_ (a := 0) (b := 0) (c := 80) HF.out.symm (hBel.out _)
            · have t1 : ((n : Int) == 61) = false := by rw [beq_eq_false_iff_ne]; omega
              clear hA hb48 hN hbad c1 c2 c3 c4
              go_wp2
              go_ret3
              exact NumIs.mk_ (a := 0) (b := 0) (c := 80) HF.out.symm (hBel.out _)
          have t1 : ((n : Int) == 61) = false := by rw [beq_eq_false_iff_ne]; omega
          have t2 : decide ((n : Int) < 48) = false := by rw [decide_eq_false_iff_not]; omega
          have t3 : decide ((57 : Int) < n) = false := by rw [decide_eq_false_iff_not]; omega
          by_cases c4 : n = 48 ∧ pos = 0
          · have HF := hbad (.inr (by rw [hN]; exact c4))
            obtain ⟨rfl, rfl⟩ := c4
            clear hA hb48 hN hbad c1 c2 c3
            go_wp2
            go_ret3
            exact NumIs.mk_ (a := 0) (b := 0) (c := 80) HF.out.symm (hBel.out _)
          have hgo := numL_go b (s.data.toList.drop (pos + 1)) pos tg (hb48.2 (by omega)) (by rw [hN]; exact c4)
          have hbg := numL_big b (s.data.toList.drop (pos + 1)) pos tg (hb48.2 (by omega)) (by rw [hN]; exact c4)
          rw [hN] at hgo hbg
          have g1 : 48 ≤ n := by omega
          have g2 : n ≤ 57 := by omega
          have hval : (10 * (tg : Int) + ((n : Int) - 48)) = ((10 * tg + (n - 48) : Nat) : Int) := by omega
          have HV := Aside0.mk hval
          clear hval
          have t4 : ((n : Int) == 48 && (pos : Int) == 0) = false := by
            rw [Bool.and_eq_false_iff, beq_eq_false_iff_ne, beq_eq_false_iff_ne]; omega
          by_cases c5 : 99999 < 10 * tg + (n - 48)
          · have HF := Aside0.mk (hA.out.symm.trans (hbg c5))
            have t5 : decide ((99999 : Int) < 10 * (tg : Int) + ((n : Int) - 48)) = true := by rw [decide_eq_true_eq]; omega
            have t6 : (n : Int) = 48 → ¬ (pos : Int) = 0 := by omega
            clear hA hb48 hN hbad c1 c2 c3 c4 hgo hbg c5
            by_cases c6 : n = 48
            · have t7 : ((pos : Int) == 0) = false := by rw [beq_eq_false_iff_ne]; omega
              subst c6
              have t8 : decide ((99999 : Int) < 10 * (tg : Int)) = true := by rw [decide_eq_true_eq] at t5 ⊢; omega
              clear t5 t6
              go_wp2
              go_ret3
              exact NumIs.mk_ (a := 0) (b := 0) (c := 80) HF.out.symm (hBel.out _)
            · have t7 : ((n : Int) == 48) = false := by rw [beq_eq_false_iff_ne]; omega
              clear t6
              go_wp2
              go_ret3
              exact NumIs.mk_ (a := 0) (b := 0) (c := 80) HF.out.symm (hBel.out _)
          · have HA2 := Aside0.mk ((hgo c5).symm.trans hA.out)
            have t5 : decide ((99999 : Int) < 10 * (tg : Int) + ((n : Int) - 48)) = false := by rw [decide_eq_false_iff_not]; omega
            have hb5 : 10 * tg + (n - 48) ≤ 99999 := by omega
            have HB5 := Aside0.mk hb5
            have t6 : (n : Int) = 48 → ¬ (pos : Int) = 0 := by omega
            clear hA hb48 hN hbad c1 c2 c3 c4 hgo hbg c5 hb5
            by_cases c6 : n = 48
            · have t7 : ((pos : Int) == 0) = false := by rw [beq_eq_false_iff_ne]; omega
              subst c6
              have t8 : decide ((99999 : Int) < 10 * (tg : Int)) = false := by rw [decide_eq_false_iff_not] at t5 ⊢; omega
              clear t5 t6
              go_wp2
              go_roundw
              case rel => exact ⟨pos + 1, 10 * tg + (48 - 48), rfl, by have := HV.out; simp only [Value.int.injEq, true_and]; omega, hp, HB5.out, HA2⟩
              case measure => simp; omega
            · have t7 : ((n : Int) == 48) = false := by rw [beq_eq_false_iff_ne]; omega
              clear t6
              go_wp2
              go_roundw
              case rel => exact ⟨pos + 1, 10 * tg + (n - 48), rfl, by have := HV.out; simp only [Value.int.injEq, true_and]; omega, hp, HB5.out, HA2⟩
              case measure => simp; omega
      · have hnx : ∀ ty, (Instr.next (.pointer (some ⟨w.heap.size, 0, none⟩)) true ty).run Tryz.prog (w.iter s pos) = _ := fun ty => run_next_any w s pos ty hp
        have hh := (decode_high s pos hp (by omega)).1
        have hle := decode_le s pos
        rw [hcons] at hA
        have HF := Aside0.mk (hA.out.symm.trans (numL_bad (s[pos]'hp) _ pos tg (by omega) (.inl (by unfold isDig; omega))))
        clear hA hcons ha
        generalize (Utf8.decode s pos).1 = r at *
        generalize (Utf8.decode s pos).2 = wd at *
        have t1 : ((r : Int) == 61) = false := by rw [beq_eq_false_iff_ne]; omega
        have t2 : decide ((r : Int) < 48) = false := by rw [decide_eq_false_iff_not]; omega
        have t3 : decide ((57 : Int) < r) = true := by rw [decide_eq_true_eq]; omega
        go_wp2
        go_ret3
        exact NumIs.mk_ (a := 0) (b := 0) (c := 80) HF.out.symm (hBel.out _)
    · have hnx : ∀ ty, (Instr.next (.pointer (some ⟨w.heap.size, 0, none⟩)) true ty).run Tryz.prog (w.iter s pos) = _ := fun ty => run_next_end w s pos ty hp
      have HF := Aside0.mk ((show numL (s.data.toList.drop pos) pos tg = (0, 0, 82) by rw [List.drop_eq_nil_of_le (by rw [size_list]; omega)]; rfl).symm.trans hA.out)
      clear hA
      go_wp2
      go_ret3
      exact NumIs.mk_ (a := 0) (b := 0) (c := 82) HF.out (hBel.out _)
theorem tag_number.calls (a0 : ByteArray) (r1 r2 r3 : Int) (w : World) (h : tag_number.f a0 = some (r1, r2, r3)) :
    Calls Tryz.prog 90 #[.string a0] w fun e w' => e = .returned (.tuple #[.int .i64 r1, .int .i64 r2, .int .i64 r3]) ∧ Below w.heap.size w w' := by
  unfold tag_number.f at h
  by_cases c : a0.size ≤ big
  · rw [if_pos c] at h
    simp only [Option.some.injEq, Prod.mk.injEq] at h
    obtain ⟨rfl, rfl, rfl⟩ := h
    exact tag_number_walk a0 w c
  · rw [if_neg c] at h; cases h
end Go.Proofs.YtgfigkfcmkdjdaaGreatDoor.B
end
section
namespace Go.Proofs.YtgfigkfcmkdjdaaGreatDoor.B
open Go.RowKit Go.Proofs.YtgfigkfcmkdjdaaGreatDoorW.PrintWords Go.Proofs.YtgfigkfcmkdjdaaGreatDoorW.PrintLast Go.Proofs.YtgfigkfcmkdjdaaGreatDoorW.PrintMore
attribute [local go_sem] max2_int min2_int max_two min_two max_three min_three max_four min_four   -- for this text's walks alone
set_option linter.unusedVariables false
set_option linter.unusedSimpArgs false
def tag_text.f (a0 : ByteArray) : Option (ByteArray × Int) := if a0.size ≤ big then some (if (textL a0.data.toList 0).2 = 0 then a0.extract 0 (textL a0.data.toList 0).1 else ⟨#[]⟩, ((textL a0.data.toList 0).2 : Int)) else none
def TextIs (s : ByteArray) (w : World) (e : Ending) (w' : World) : Prop := e = .returned (.tuple #[.string (if (textL s.data.toList 0).2 = 0 then s.extract 0 (textL s.data.toList 0).1 else ⟨#[]⟩), .int .i64 ((textL s.data.toList 0).2 : Int)]) ∧ Below w.heap.size w w'
theorem TextIs.ok {s : ByteArray} {w w' : World} {p : Nat} {t : ByteArray} (h : (p, 0) = textL s.data.toList 0) (ht : t = s.extract 0 p) (hw : Below w.heap.size w w') : TextIs s w (.returned (.tuple #[.string t, .int .i64 0])) w' := by
  subst ht; unfold TextIs; rw [← h]; exact ⟨rfl, hw⟩
theorem TextIs.no {s : ByteArray} {w w' : World} {p e : Nat} (h : (p, e) = textL s.data.toList 0) (he : e ≠ 0) (hw : Below w.heap.size w w') : TextIs s w (.returned (.tuple #[.string ⟨#[]⟩, .int .i64 (e : Int)])) w' := by
  unfold TextIs; rw [← h]; simp only; rw [if_neg he]; exact ⟨rfl, hw⟩
set_option maxHeartbeats 1000000 in
theorem tag_text_walk (s : ByteArray) (w : World) (hs : s.size ≤ big) :
    Calls Tryz.prog 91 #[.string s] w (TextIs s w) := by
  unfold big at hs
  have HB : Aside0 (∀ p, Below w.heap.size w (w.iter s p)) := ⟨fun p => (Below.refl _ _).alloc (Nat.le_refl _) _⟩
  go_enter Tryz.func91, Tryz.ntmps91
  go_wp2
  go_step3
  go_wp2
  go_step3
  go_wp2
  go_loopw [4, 5] (fun e4 v5 w' => ∃ pos at_ : Nat, w' = w.iter s pos ∧ e4 = .int .i64 82 ∧ v5 = .int .i64 (at_ : Int) ∧ pos ≤ s.size ∧ Aside0 (textL (s.data.toList.drop pos) pos = textL s.data.toList 0)) (fun _ _ w' => s.size - w'.iterPos w.heap.size)
  case atStart => exact ⟨0, 0, rfl, rfl, rfl, Nat.zero_le _, ⟨rfl⟩⟩
  case round =>
    obtain ⟨pos, at_, rfl, rfl, rfl, hpos, hA⟩ := hrel
    by_cases hp : pos < s.size
    · have hnx : ∀ ty, (Instr.next (.pointer (some ⟨w.heap.size, 0, none⟩)) true ty).run Tryz.prog (w.iter s pos) = _ := fun ty => run_next_any w s pos ty hp
      have hle := decode_le s pos
      have hne := drop_ne_nil s pos hp
      have hst := hA.out
      have hwd := dec_width (s.data.toList.drop pos)
      have hwl := dec_width_le _ hne
      have hw4 := dec_width4 (s.data.toList.drop pos)
      have hen := dec_encode_size (s.data.toList.drop pos) hne
      rw [textL_cons _ hne, dec_drop, List.drop_drop] at hst
      rw [dec_drop] at hwd hwl hw4 hen
      rw [List.length_drop, size_list] at hwl
      clear hA
      generalize (Utf8.decode s pos).1 = r at *
      generalize (Utf8.decode s pos).2 = wd at *
      by_cases c1 : r = 1 ∧ 0 < pos
      · rw [if_pos c1] at hst
        have HS := Aside0.mk hst
        obtain ⟨rfl, c1⟩ := c1
        clear hst hen hle
        go_wp2
        go_ret2
        exact TextIs.ok HS.out (by simp) (HB.out _)
      · rw [if_neg c1] at hst
        have HM : Aside0 (∀ w, Calls Tryz.prog 85 #[.int .i32 (r : Int)] w fun e w' => e = .returned (.bool (mayB r)) ∧ w = w') := ⟨fun w => tag_may_same r hle w⟩
        cases hm : mayB r with
        | false =>
          rw [hm] at hst HM
          rw [if_neg (by simp)] at hst
          have HS := Aside0.mk hst
          clear hst hm hen hle
          by_cases c2 : r = 1
          · obtain rfl : pos = 0 := by omega
            subst c2
            clear c1
            go_wp2_with (go_at_call 85; refine (HM.out _).mono ?_; rintro e w1 ⟨rfl, rfl⟩)
            go_ret2
            exact TextIs.no HS.out (by decide) (HB.out _)
          · have t1 : ((r : Int) == 1) = false := by rw [beq_eq_false_iff_ne]; omega
            clear c1 c2
            go_wp2_with (go_at_call 85; refine (HM.out _).mono ?_; rintro e w1 ⟨rfl, rfl⟩)
            go_ret2
            exact TextIs.no HS.out (by decide) (HB.out _)
        | true =>
          rw [hm] at hst HM
          have hm2 := (mayB_eq r).1 hm
          have hsz := hen (by omega)
          have t1 : ((r : Int) == 1) = false := by rw [beq_eq_false_iff_ne]; omega
          clear hm hen c1 hle
          by_cases c3 : pos + wd ≤ 512
          · rw [if_pos ⟨rfl, c3⟩] at hst
            have HS := Aside0.mk hst
            have t2 : decide ((512 : Int) < (pos : Int) + (wd : Int)) = false := by rw [decide_eq_false_iff_not]; omega
            clear hst
            go_wp2_with (go_at_call 85; refine (HM.out _).mono ?_; rintro e w1 ⟨rfl, rfl⟩)
            go_roundw
            case rel => exact ⟨pos + wd, pos, rfl, rfl, rfl, by omega, HS⟩
            case measure => simp; omega
          · rw [if_neg (by simp [c3])] at hst
            have HS := Aside0.mk hst
            have t2 : decide ((512 : Int) < (pos : Int) + (wd : Int)) = true := by rw [decide_eq_true_eq]; omega
            clear hst
            go_wp2_with (go_at_call 85; refine (HM.out _).mono ?_; rintro e w1 ⟨rfl, rfl⟩)
            go_ret2
            exact TextIs.no HS.out (by decide) (HB.out _)
    · have hnx : ∀ ty, (Instr.next (.pointer (some ⟨w.heap.size, 0, none⟩)) true ty).run Tryz.prog (w.iter s pos) = _ := fun ty => run_next_end w s pos ty hp
      have HS := Aside0.mk (show (0, 82) = textL s.data.toList 0 by rw [← hA.out, drop_nil_of s pos hp, textL_nil])
      clear hA
      go_wp2
      go_ret2
      exact TextIs.no HS.out (by decide) (HB.out _)
theorem tag_text.calls (a0 : ByteArray) (r1 : ByteArray) (r2 : Int) (w : World) (h : tag_text.f a0 = some (r1, r2)) :
    Calls Tryz.prog 91 #[.string a0] w fun e w' => e = .returned (.tuple #[.string r1, .int .i64 r2]) ∧ Below w.heap.size w w' := by
  unfold tag_text.f at h
  by_cases c : a0.size ≤ big
  · rw [if_pos c] at h
    simp only [Option.some.injEq, Prod.mk.injEq] at h
    obtain ⟨rfl, rfl⟩ := h
    exact tag_text_walk a0 w c
  · rw [if_neg c] at h; cases h
end Go.Proofs.YtgfigkfcmkdjdaaGreatDoor.B
end
section
namespace Go.Proofs.YtgfigkfcmkdjdaaGreatDoor.B
open Go.RowKit Go.Proofs.YtgfigkfcmkdjdaaGreatDoorW.PrintWords Go.Proofs.YtgfigkfcmkdjdaaGreatDoorW.PrintLast Go.Proofs.YtgfigkfcmkdjdaaGreatDoorW.PrintMore
attribute [local go_sem] max2_int min2_int max_two min_two max_three min_three max_four min_four   -- for this text's walks alone
set_option linter.unusedVariables false
set_option linter.unusedSimpArgs false
def tag_Next_p.f (a0 : ByteArray) : Option (Int × ByteArray × Int × Int) := (tag_number.f a0).bind fun bt111 => (if bt111.2.2 = 0 then (if 0 ≤ bt111.2.1 then (if bt111.2.1 ≤ (a0.size : Int) then ((tag_text.f (a0.extract (bt111.2.1 : Int).toNat a0.size)).bind fun bt114 => (if bt114.2 = 0 then (some (bt111.1, bt114.1, wrap64 ((wrap64 (bt111.2.1 + (bt114.1.size : Int))) + 1), 0)) else (some (0, (⟨#[]⟩ : ByteArray), 0, bt114.2)))) else (none)) else (none)) else (some (0, (⟨#[]⟩ : ByteArray), 0, bt111.2.2)))
set_option maxHeartbeats 8000000 in
set_option maxRecDepth 100000 in
theorem tag_Next_p.calls (a0 : ByteArray) (r1 : Int) (r2 : ByteArray) (r3 : Int) (r4 : Int) (w : World) (h : tag_Next_p.f a0 = some (r1, r2, r3, r4)) :
    Calls Tryz.prog 71 #[.string a0] w fun e w' => e = .returned (.tuple #[.agg #[.int .i64 r1, .string r2], .int .i64 r3, .int .i64 r4]) ∧ Below w.heap.size w w' := by
  have hu74 := Tryz.underlying74
  have HB := Aside0.mk (Below.refl w.heap.size w)
  have H : ((tag_number.f a0).bind fun bt111 => (if bt111.2.2 = 0 then (if 0 ≤ bt111.2.1 then (if bt111.2.1 ≤ (a0.size : Int) then ((tag_text.f (a0.extract (bt111.2.1 : Int).toNat a0.size)).bind fun bt114 => (if bt114.2 = 0 then (some (bt111.1, bt114.1, wrap64 ((wrap64 (bt111.2.1 + (bt114.1.size : Int))) + 1), 0)) else (some (0, (⟨#[]⟩ : ByteArray), 0, bt114.2)))) else (none)) else (none)) else (some (0, (⟨#[]⟩ : ByteArray), 0, bt111.2.2)))) = some (r1, r2, r3, r4) := h
  clear h
  replace H := Option.bind_eq_some_iff.mp H
  obtain ⟨⟨t111, t112, t113⟩, A20, H⟩ := H
  replace H : (if t113 = 0 then (if 0 ≤ t112 then (if t112 ≤ (a0.size : Int) then ((tag_text.f (a0.extract (t112 : Int).toNat a0.size)).bind fun bt114 => (if bt114.2 = 0 then (some (t111, bt114.1, wrap64 ((wrap64 (t112 + (bt114.1.size : Int))) + 1), 0)) else (some (0, (⟨#[]⟩ : ByteArray), 0, bt114.2)))) else (none)) else (none)) else (some (0, (⟨#[]⟩ : ByteArray), 0, t113))) = some (r1, r2, r3, r4) := H
  have A2 := Aside0.mk A20
  clear A20
  by_cases c3 : t113 = 0
  · rw [if_pos c3] at H
    have c3b0 : (t113 == 0) = true := beq_iff_eq.mpr c3
    have c3b1 : (t113 != 0) = false := bne_eq_false_iff_eq.mpr c3
    clear c3
    by_cases c4 : 0 ≤ t112
    · rw [if_pos c4] at H
      have c4b0 := eq_true c4
      have c4b1 : decide (0 ≤ t112) = true := decide_eq_true c4
      clear c4
      by_cases c5 : t112 ≤ (a0.size : Int)
      · rw [if_pos c5] at H
        have c5b0 := eq_true c5
        have c5b1 : decide (t112 ≤ (a0.size : Int)) = true := decide_eq_true c5
        clear c5
        replace H := Option.bind_eq_some_iff.mp H
        obtain ⟨⟨t114, t115⟩, A60, H⟩ := H
        replace H : (if t115 = 0 then (some (t111, t114, wrap64 ((wrap64 (t112 + (t114.size : Int))) + 1), 0)) else (some (0, (⟨#[]⟩ : ByteArray), 0, t115))) = some (r1, r2, r3, r4) := H
        have A6 := Aside0.mk A60
        clear A60
        by_cases c7 : t115 = 0
        · rw [if_pos c7] at H
          have c7b0 : (t115 == 0) = true := beq_iff_eq.mpr c7
          have c7b1 : (t115 != 0) = false := bne_eq_false_iff_eq.mpr c7
          clear c7
          simp only [Option.some.injEq, Prod.mk.injEq] at H
          obtain ⟨rfl, rfl, rfl, rfl⟩ := H
          go_enter Tryz.func71, Tryz.ntmps71
          go_wp2_with (first | ((with_reducible refine gate_dst (N := 2) rfl ?_); refine box_event ?hg (N := 2) ?hd (cs := #[.int .i64 0, .string (⟨#[]⟩ : ByteArray)]) (t := 74) ?hr ?_; (case hd => rfl); (case hg => rfl); (case hr => first | (go_simp; done) | (go_simp; rfl)); intro gb110 hg w8 hbox hb; have n0_ := Aside0.mk (below_step (by repeat (first | (with_reducible first | exact HB.out | apply below_alloc | apply pw_below_drewN | apply below_drew1) | exact HB.out)) hb); have n1_ := Aside0.mk (hbox); have n2_ := Aside0.mk ((by rw [hg]; exact (below_size (by repeat (first | (with_reducible first | exact HB.out | apply below_alloc | apply pw_below_drewN | apply below_drew1) | exact HB.out))) : w.heap.size ≤ gb110)); have n3_ := Aside0.mk ((by rw [hg]; exact (below_size (by repeat (first | (with_reducible first | exact HB.out | apply below_alloc | apply pw_below_drewN | apply below_drew1) | exact HB.out))) : w.heap.size ≤ gb110)); clear HB; have HB := n0_; have BK110 := n1_; have GW110 := n2_; have GE110 := n3_; clear n0_ n1_ n2_ n3_; clear hb hbox hg) | ((with_reducible refine gate_callee (f := 90) rfl ?_); refine goesL_ (some 9) rfl rfl Tryz.func90 (by kernel_rfl) rfl #[.string a0] rfl (by (try simp only [List.map_toArray, List.map_cons, List.map_nil]); first | done | rfl | (simp only [List.length_drop, List.length_take]; rfl)) ?_; (with_reducible refine (tag_number.calls a0 t111 t112 t113 _ A2.out).mono ?_); rintro e w9 ⟨rfl, hb⟩; refine ⟨_, rfl, ?_⟩; have n0_ := Aside0.mk (blk_below (g := gb110) (o := .cells #[.int .i64 0, .string (⟨#[]⟩ : ByteArray)] 74 (0, 0)) (by (with_reducible repeat (first | refine blk_drewN ?_ _ | refine blk_drew ?_ | refine blk_alloc ?_ _)); exact BK110.out) hb); have n1_ := Aside0.mk (below_step (by repeat (first | (with_reducible first | exact HB.out | apply below_alloc | apply pw_below_drewN | apply below_drew1 | refine below_set ?_ GE110.out) | exact HB.out)) hb); clear BK110; clear HB; have BK110 := n0_; have HB := n1_; clear n0_ n1_; (try clear hb); (try clear hb2); (try clear hk); (try clear hi)) | ((with_reducible refine gate_callee (f := 91) rfl ?_); refine goesL_ (some 21) rfl rfl Tryz.func91 (by kernel_rfl) rfl #[.string (a0.extract (t112 : Int).toNat a0.size)] rfl (by (try simp only [List.map_toArray, List.map_cons, List.map_nil]); first | done | rfl | (simp only [List.length_drop, List.length_take]; rfl)) ?_; (with_reducible refine (tag_text.calls (a0.extract (t112 : Int).toNat a0.size) t114 t115 _ A6.out).mono ?_); rintro e w10 ⟨rfl, hb⟩; refine ⟨_, rfl, ?_⟩; have n0_ := Aside0.mk (blk_below (g := gb110) (o := .cells #[.int .i64 0, .string (⟨#[]⟩ : ByteArray)] 74 (0, 0)) (by (with_reducible repeat (first | refine blk_drewN ?_ _ | refine blk_drew ?_ | refine blk_alloc ?_ _)); exact BK110.out) hb); have n1_ := Aside0.mk (below_step (by repeat (first | (with_reducible first | exact HB.out | apply below_alloc | apply pw_below_drewN | apply below_drew1 | refine below_set ?_ GE110.out) | exact HB.out)) hb); clear BK110; clear HB; have BK110 := n0_; have HB := n1_; clear n0_ n1_; (try clear hb); (try clear hb2); (try clear hk); (try clear hi); have hcz11_0 : w10.cell? ⟨gb110, 0, none⟩ = some (.int .i64 0) := (blk_cell BK110.out 0).trans rfl; have hcz11_1 : w10.cell? ⟨gb110, 1, none⟩ = some (.string (⟨#[]⟩ : ByteArray)) := (blk_cell BK110.out 1).trans rfl; have hfz11_0 := blk_frozen BK110.out 0; have hfz11_1 := blk_frozen BK110.out 1))
          refine bodyPost_ret (results_ctt rfl _ _ gb110 74 #[.int .i64 t111, .string t114] (0, 0) _ rfl (by (with_reducible repeat (first | refine blk_drewN ?_ _ | refine blk_drew ?_ | refine blk_alloc ?_ _)); refine blk_put (cs := #[.int .i64 t111, .string (⟨#[]⟩ : ByteArray)]) ?_ 1 _ rfl; (with_reducible repeat (first | refine blk_drewN ?_ _ | refine blk_drew ?_ | refine blk_alloc ?_ _)); refine blk_put (cs := #[.int .i64 0, .string (⟨#[]⟩ : ByteArray)]) ?_ 0 _ rfl; (with_reducible repeat (first | refine blk_drewN ?_ _ | refine blk_drew ?_ | refine blk_alloc ?_ _)); exact BK110.out) Tryz.underlying74 rfl (by kernel_rfl)) rfl ?_
          exact ⟨by first | rfl | (simp [errW_none, errW_some] <;> rfl) | (simp [*, errW_none, errW_some] <;> rfl), by repeat (first | (with_reducible first | exact HB.out | apply below_alloc | apply pw_below_drewN | apply below_drew1 | refine below_set ?_ GE110.out) | exact HB.out)⟩
        · rw [if_neg c7] at H
          have c7b0 : (t115 == 0) = false := beq_eq_false_iff_ne.mpr c7
          have c7b1 : (t115 != 0) = true := bne_iff_ne.mpr c7
          simp only [Option.some.injEq, Prod.mk.injEq] at H
          obtain ⟨rfl, rfl, rfl, rfl⟩ := H
          go_enter Tryz.func71, Tryz.ntmps71
          go_wp2_with (first | ((with_reducible refine gate_dst (N := 2) rfl ?_); refine box_event ?hg (N := 2) ?hd (cs := #[.int .i64 0, .string (⟨#[]⟩ : ByteArray)]) (t := 74) ?hr ?_; (case hd => rfl); (case hg => rfl); (case hr => first | (go_simp; done) | (go_simp; rfl)); intro gb110 hg w12 hbox hb; have n0_ := Aside0.mk (below_step (by repeat (first | (with_reducible first | exact HB.out | apply below_alloc | apply pw_below_drewN | apply below_drew1) | exact HB.out)) hb); have n1_ := Aside0.mk (hbox); have n2_ := Aside0.mk ((by rw [hg]; exact (below_size (by repeat (first | (with_reducible first | exact HB.out | apply below_alloc | apply pw_below_drewN | apply below_drew1) | exact HB.out))) : w.heap.size ≤ gb110)); have n3_ := Aside0.mk ((by rw [hg]; exact (below_size (by repeat (first | (with_reducible first | exact HB.out | apply below_alloc | apply pw_below_drewN | apply below_drew1) | exact HB.out))) : w.heap.size ≤ gb110)); clear HB; have HB := n0_; have BK110 := n1_; have GW110 := n2_; have GE110 := n3_; clear n0_ n1_ n2_ n3_; clear hb hbox hg) | ((with_reducible refine gate_callee (f := 90) rfl ?_); refine goesL_ (some 9) rfl rfl Tryz.func90 (by kernel_rfl) rfl #[.string a0] rfl (by (try simp only [List.map_toArray, List.map_cons, List.map_nil]); first | done | rfl | (simp only [List.length_drop, List.length_take]; rfl)) ?_; (with_reducible refine (tag_number.calls a0 t111 t112 t113 _ A2.out).mono ?_); rintro e w13 ⟨rfl, hb⟩; refine ⟨_, rfl, ?_⟩; have n0_ := Aside0.mk (blk_below (g := gb110) (o := .cells #[.int .i64 0, .string (⟨#[]⟩ : ByteArray)] 74 (0, 0)) (by (with_reducible repeat (first | refine blk_drewN ?_ _ | refine blk_drew ?_ | refine blk_alloc ?_ _)); exact BK110.out) hb); have n1_ := Aside0.mk (below_step (by repeat (first | (with_reducible first | exact HB.out | apply below_alloc | apply pw_below_drewN | apply below_drew1 | refine below_set ?_ GE110.out) | exact HB.out)) hb); clear BK110; clear HB; have BK110 := n0_; have HB := n1_; clear n0_ n1_; (try clear hb); (try clear hb2); (try clear hk); (try clear hi)) | ((with_reducible refine gate_callee (f := 91) rfl ?_); refine goesL_ (some 21) rfl rfl Tryz.func91 (by kernel_rfl) rfl #[.string (a0.extract (t112 : Int).toNat a0.size)] rfl (by (try simp only [List.map_toArray, List.map_cons, List.map_nil]); first | done | rfl | (simp only [List.length_drop, List.length_take]; rfl)) ?_; (with_reducible refine (tag_text.calls (a0.extract (t112 : Int).toNat a0.size) t114 t115 _ A6.out).mono ?_); rintro e w14 ⟨rfl, hb⟩; refine ⟨_, rfl, ?_⟩; have n0_ := Aside0.mk (blk_below (g := gb110) (o := .cells #[.int .i64 0, .string (⟨#[]⟩ : ByteArray)] 74 (0, 0)) (by (with_reducible repeat (first | refine blk_drewN ?_ _ | refine blk_drew ?_ | refine blk_alloc ?_ _)); exact BK110.out) hb); have n1_ := Aside0.mk (below_step (by repeat (first | (with_reducible first | exact HB.out | apply below_alloc | apply pw_below_drewN | apply below_drew1 | refine below_set ?_ GE110.out) | exact HB.out)) hb); clear BK110; clear HB; have BK110 := n0_; have HB := n1_; clear n0_ n1_; (try clear hb); (try clear hb2); (try clear hk); (try clear hi); have hcz15_0 : w14.cell? ⟨gb110, 0, none⟩ = some (.int .i64 0) := (blk_cell BK110.out 0).trans rfl; have hcz15_1 : w14.cell? ⟨gb110, 1, none⟩ = some (.string (⟨#[]⟩ : ByteArray)) := (blk_cell BK110.out 1).trans rfl; have hfz15_0 := blk_frozen BK110.out 0; have hfz15_1 := blk_frozen BK110.out 1))
          refine bodyPost_ret (results_ctt rfl _ _ gb110 74 #[.int .i64 0, .string (⟨#[]⟩ : ByteArray)] (0, 0) _ rfl (by (with_reducible repeat (first | refine blk_drewN ?_ _ | refine blk_drew ?_ | refine blk_alloc ?_ _)); refine blk_put (cs := #[.int .i64 0, .string (⟨#[]⟩ : ByteArray)]) ?_ 1 _ rfl; (with_reducible repeat (first | refine blk_drewN ?_ _ | refine blk_drew ?_ | refine blk_alloc ?_ _)); refine blk_put (cs := #[.int .i64 0, .string (⟨#[]⟩ : ByteArray)]) ?_ 0 _ rfl; (with_reducible repeat (first | refine blk_drewN ?_ _ | refine blk_drew ?_ | refine blk_alloc ?_ _)); exact BK110.out) Tryz.underlying74 rfl (by kernel_rfl)) rfl ?_
          exact ⟨by first | rfl | (simp [errW_none, errW_some] <;> rfl) | (simp [*, errW_none, errW_some] <;> rfl), by repeat (first | (with_reducible first | exact HB.out | apply below_alloc | apply pw_below_drewN | apply below_drew1 | refine below_set ?_ GE110.out) | exact HB.out)⟩
      · rw [if_neg c5] at H
        exact absurd H (by simp)
    · rw [if_neg c4] at H
      exact absurd H (by simp)
  · rw [if_neg c3] at H
    have c3b0 : (t113 == 0) = false := beq_eq_false_iff_ne.mpr c3
    have c3b1 : (t113 != 0) = true := bne_iff_ne.mpr c3
    simp only [Option.some.injEq, Prod.mk.injEq] at H
    obtain ⟨rfl, rfl, rfl, rfl⟩ := H
    go_enter Tryz.func71, Tryz.ntmps71
    go_wp2_with (first | ((with_reducible refine gate_dst (N := 2) rfl ?_); refine box_event ?hg (N := 2) ?hd (cs := #[.int .i64 0, .string (⟨#[]⟩ : ByteArray)]) (t := 74) ?hr ?_; (case hd => rfl); (case hg => rfl); (case hr => first | (go_simp; done) | (go_simp; rfl)); intro gb110 hg w16 hbox hb; have n0_ := Aside0.mk (below_step (by repeat (first | (with_reducible first | exact HB.out | apply below_alloc | apply pw_below_drewN | apply below_drew1) | exact HB.out)) hb); have n1_ := Aside0.mk (hbox); have n2_ := Aside0.mk ((by rw [hg]; exact (below_size (by repeat (first | (with_reducible first | exact HB.out | apply below_alloc | apply pw_below_drewN | apply below_drew1) | exact HB.out))) : w.heap.size ≤ gb110)); have n3_ := Aside0.mk ((by rw [hg]; exact (below_size (by repeat (first | (with_reducible first | exact HB.out | apply below_alloc | apply pw_below_drewN | apply below_drew1) | exact HB.out))) : w.heap.size ≤ gb110)); clear HB; have HB := n0_; have BK110 := n1_; have GW110 := n2_; have GE110 := n3_; clear n0_ n1_ n2_ n3_; clear hb hbox hg) | ((with_reducible refine gate_callee (f := 90) rfl ?_); refine goesL_ (some 9) rfl rfl Tryz.func90 (by kernel_rfl) rfl #[.string a0] rfl (by (try simp only [List.map_toArray, List.map_cons, List.map_nil]); first | done | rfl | (simp only [List.length_drop, List.length_take]; rfl)) ?_; (with_reducible refine (tag_number.calls a0 t111 t112 t113 _ A2.out).mono ?_); rintro e w17 ⟨rfl, hb⟩; refine ⟨_, rfl, ?_⟩; have n0_ := Aside0.mk (blk_below (g := gb110) (o := .cells #[.int .i64 0, .string (⟨#[]⟩ : ByteArray)] 74 (0, 0)) (by (with_reducible repeat (first | refine blk_drewN ?_ _ | refine blk_drew ?_ | refine blk_alloc ?_ _)); exact BK110.out) hb); have n1_ := Aside0.mk (below_step (by repeat (first | (with_reducible first | exact HB.out | apply below_alloc | apply pw_below_drewN | apply below_drew1 | refine below_set ?_ GE110.out) | exact HB.out)) hb); clear BK110; clear HB; have BK110 := n0_; have HB := n1_; clear n0_ n1_; (try clear hb); (try clear hb2); (try clear hk); (try clear hi); have hcz18_0 : w17.cell? ⟨gb110, 0, none⟩ = some (.int .i64 0) := (blk_cell BK110.out 0).trans rfl; have hcz18_1 : w17.cell? ⟨gb110, 1, none⟩ = some (.string (⟨#[]⟩ : ByteArray)) := (blk_cell BK110.out 1).trans rfl; have hfz18_0 := blk_frozen BK110.out 0; have hfz18_1 := blk_frozen BK110.out 1))
    refine bodyPost_ret (results_ctt rfl _ _ gb110 74 #[.int .i64 0, .string (⟨#[]⟩ : ByteArray)] (0, 0) _ rfl (by (with_reducible repeat (first | refine blk_drewN ?_ _ | refine blk_drew ?_ | refine blk_alloc ?_ _)); refine blk_put (cs := #[.int .i64 0, .string (⟨#[]⟩ : ByteArray)]) ?_ 1 _ rfl; (with_reducible repeat (first | refine blk_drewN ?_ _ | refine blk_drew ?_ | refine blk_alloc ?_ _)); refine blk_put (cs := #[.int .i64 0, .string (⟨#[]⟩ : ByteArray)]) ?_ 0 _ rfl; (with_reducible repeat (first | refine blk_drewN ?_ _ | refine blk_drew ?_ | refine blk_alloc ?_ _)); exact BK110.out) Tryz.underlying74 rfl (by kernel_rfl)) rfl ?_
    exact ⟨by first | rfl | (simp [errW_none, errW_some] <;> rfl) | (simp [*, errW_none, errW_some] <;> rfl), by repeat (first | (with_reducible first | exact HB.out | apply below_alloc | apply pw_below_drewN | apply below_drew1 | refine below_set ?_ GE110.out) | exact HB.out)⟩
theorem nextL_numerr (l : List UInt8) (h : (numL l 0 0).2.2 ≠ 0) : nextL l = ((0, []), 0, (numL l 0 0).2.2) := by unfold nextL; simp only; rw [if_pos h]
theorem nextL_texterr (l : List UInt8) (h : (numL l 0 0).2.2 = 0) (h2 : (textL (l.drop (numL l 0 0).2.1) 0).2 ≠ 0) : nextL l = ((0, []), 0, (textL (l.drop (numL l 0 0).2.1) 0).2) := by
  unfold nextL; simp only; rw [if_neg (by simpa using h), if_pos h2]
theorem nextL_ok (l : List UInt8) (h : (numL l 0 0).2.2 = 0) (h2 : (textL (l.drop (numL l 0 0).2.1) 0).2 = 0) : nextL l = (((numL l 0 0).1, (l.drop (numL l 0 0).2.1).take (textL (l.drop (numL l 0 0).2.1) 0).1), (numL l 0 0).2.1 + (textL (l.drop (numL l 0 0).2.1) 0).1 + 1, 0) := by
  unfold nextL; simp only; rw [if_neg (by simpa using h), if_neg (by simpa using h2)]
theorem drop_list (s : ByteArray) (n : Nat) : (s.extract n s.size).data.toList = s.data.toList.drop n := by
  rw [ByteArray.data_extract, Array.toList_extract, List.extract_eq_take_drop]; exact List.take_of_length_le (by rw [List.length_drop, size_list]; omega)
theorem extract_list (s : ByteArray) (a b : Nat) : (s.extract a b).data.toList = (s.data.toList.drop a).take (b - a) := by
  rw [ByteArray.data_extract, Array.toList_extract, List.extract_eq_take_drop]
def tag_Next.f (a0 : ByteArray) : Option (Int × ByteArray × Int × Int) := if a0.size ≤ big then some (((nextL a0.data.toList).1.1 : Int), ⟨(nextL a0.data.toList).1.2.toArray⟩, ((nextL a0.data.toList).2.1 : Int), ((nextL a0.data.toList).2.2 : Int)) else none
theorem tag_Next_eq (s : ByteArray) (hs : s.size ≤ big) : tag_Next_p.f s = tag_Next.f s := by
  unfold tag_Next.f tag_Next_p.f tag_number.f
  rw [if_pos hs, if_pos hs]
  simp only [Option.bind_some]
  by_cases h1 : (numL s.data.toList 0 0).2.2 = 0
  · have hn := numL_le s.data.toList 0 0 h1
    rw [size_list] at hn
    rw [if_pos (by omega), if_pos (by omega), if_pos (by omega), Int.toNat_natCast]
    have hz : (s.extract (numL s.data.toList 0 0).2.1 s.size).size ≤ big := by rw [ByteArray.size_extract]; omega
    unfold tag_text.f
    rw [if_pos hz]
    simp only [Option.bind_some]
    rw [drop_list]
    by_cases h2 : (textL (s.data.toList.drop (numL s.data.toList 0 0).2.1) 0).2 = 0
    · rw [if_pos (by omega), nextL_ok _ h1 h2, if_pos h2]
      have ht := textL_le _ (s.data.toList.drop (numL s.data.toList 0 0).2.1) 0 (Nat.le_refl _) h2
      rw [List.length_drop, size_list] at ht
      have e1 : (⟨((s.data.toList.drop (numL s.data.toList 0 0).2.1).take (textL (s.data.toList.drop (numL s.data.toList 0 0).2.1) 0).1).toArray⟩ : ByteArray) = (s.extract (numL s.data.toList 0 0).2.1 s.size).extract 0 (textL (s.data.toList.drop (numL s.data.toList 0 0).2.1) 0).1 := by
        apply ba_ext; rw [take_list, drop_list]
      have e2 : ((s.extract (numL s.data.toList 0 0).2.1 s.size).extract 0 (textL (s.data.toList.drop (numL s.data.toList 0 0).2.1) 0).1).size = (textL (s.data.toList.drop (numL s.data.toList 0 0).2.1) 0).1 := by
        rw [ByteArray.size_extract, ByteArray.size_extract]; omega
      rw [e1, e2]
      unfold big at hs
      rw [w64_sum1 _ _ (by omega)]
      simp
    · rw [if_neg (by omega), nextL_texterr _ h1 h2]; simp
  · rw [if_neg (by omega), nextL_numerr _ h1]; simp
theorem tag_Next.calls (a0 : ByteArray) (r1 : Int) (r2 : ByteArray) (r3 : Int) (r4 : Int) (w : World) (h : tag_Next.f a0 = some (r1, r2, r3, r4)) :
    Calls Tryz.prog 71 #[.string a0] w fun e w' => e = .returned (.tuple #[.agg #[.int .i64 r1, .string r2], .int .i64 r3, .int .i64 r4]) ∧ Below w.heap.size w w' := by
  by_cases c : a0.size ≤ big
  · exact tag_Next_p.calls a0 r1 r2 r3 r4 w ((tag_Next_eq a0 c).trans h)
  · unfold tag_Next.f at h; rw [if_neg c] at h; cases h
end Go.Proofs.YtgfigkfcmkdjdaaGreatDoor.B
end
section
namespace Go.Proofs.YtgfigkfcmkdjdaaGreatDoor.B
open Go.RowKit Go.Proofs.YtgfigkfcmkdjdaaGreatDoorW.PrintWords Go.Proofs.YtgfigkfcmkdjdaaGreatDoorW.PrintLast Go.Proofs.YtgfigkfcmkdjdaaGreatDoorW.PrintMore
attribute [local go_sem] max2_int min2_int max_two min_two max_three min_three max_four min_four   -- for this text's walks alone
set_option linter.unusedVariables false
set_option linter.unusedSimpArgs false
def tag_Fields_p.l0 : Nat → ByteArray → List (S74) → Int → Option ((List (S74)) × Int × Int)
  | 0, _, _, _ => none
  | k + 1, x0, x2, x3 => if x3 < (x0.size : Int) then (if (x2.length : Int) = 64 then (some (x2, x3, 3)) else (if 0 ≤ x3 then (if x3 ≤ (x0.size : Int) then ((tag_Next.f (x0.extract (x3 : Int).toNat x0.size)).bind fun bt116 => (if bt116.2.2.2 = 0 then (if x2.length < 5864062014805 then (tag_Fields_p.l0 k x0 (x2 ++ [(⟨bt116.1, bt116.2.1⟩ : S74)]) (wrap64 (x3 + bt116.2.2.1))) else (none)) else (some (x2, x3, bt116.2.2.2)))) else (none)) else (none))) else (some (x2, x3, 0))
def tag_Fields_p.f (k : Nat) (a0 : ByteArray) : Option ((List (S74)) × Int × Int) := tag_Fields_p.l0 k a0 ([] : List (S74)) 0
theorem tag_Fields_p.mono_l : ∀ k, (∀ y0 y1 y2, LeO (tag_Fields_p.l0 k y0 y1 y2) (tag_Fields_p.l0 (k + 1) y0 y1 y2))
  | 0 => fun _ _ _ r h => by simp [tag_Fields_p.l0] at h
  | k + 1 => by
    have ih0 := tag_Fields_p.mono_l k
    · intro y0 y1 y2
      unfold tag_Fields_p.l0
      repeat' first
      | (with_reducible exact ih0 _ _ _)
      | (with_reducible exact LeO.refl _)
      | (with_reducible exact LeO.none _)
      | (with_reducible refine LeO.ite ?_ ?_)
      | (with_reducible refine LeO.bind ?_ (fun _ => ?_))
      | exact ih0 _ _ _
      | exact LeO.none _
      | refine LeO.ite ?_ ?_
      | refine LeO.bind ?_ (fun _ => ?_)
theorem tag_Fields_p.mono : ∀ a0 k, LeO (tag_Fields_p.f k a0) (tag_Fields_p.f (k + 1) a0) := by
  intro a0 k
  have ih0 := tag_Fields_p.mono_l k
  unfold tag_Fields_p.f
  repeat' first
      | (with_reducible exact ih0 _ _ _)
      | (with_reducible exact LeO.refl _)
      | (with_reducible exact LeO.none _)
      | (with_reducible refine LeO.ite ?_ ?_)
      | (with_reducible refine LeO.bind ?_ (fun _ => ?_))
      | exact ih0 _ _ _
      | exact LeO.none _
      | refine LeO.ite ?_ ?_
      | refine LeO.bind ?_ (fun _ => ?_)
set_option maxHeartbeats 8000000 in
set_option maxRecDepth 100000 in
theorem tag_Fields_p.calls (k : Nat) (a0 : ByteArray) (r1 : List (S74)) (r2 : Int) (r3 : Int) (w : World) (h : tag_Fields_p.f k a0 = some (r1, r2, r3)) :
    Calls Tryz.prog 55 #[.string a0] w fun e w' => ∃ v0_ : Value, e = .returned (.tuple #[v0_, .int .i64 r2, .int .i64 r3]) ∧ Kd.R k74 74 w' w.heap.size (fun _ => True) v0_ r1 ∧ Below w.heap.size w w' := by
  have hu74 := Tryz.underlying74
  have HB := Aside0.mk (Below.refl w.heap.size w)
  have H : (tag_Fields_p.l0 k a0 ([] : List (S74)) 0) = some (r1, r2, r3) := h
  clear h
  have H' := Aside0.mk H
  clear H
  go_enter Tryz.func55, Tryz.ntmps55
  go_wp2
  go_loopg [2, 3] k (fun kq v2 v3 w' => ∃ (x2_1 : List (S74)) (x3_1 : Int), v3 = .int .i64 x3_1 ∧ Aside0 (tag_Fields_p.l0 kq a0 x2_1 x3_1 = some (r1, r2, r3)) ∧ Aside0 (kq ≤ k) ∧ Aside0 (Kd.R k74 74 w' w.heap.size (fun _ => True) v2 x2_1) ∧ Aside0 (Below w.heap.size w w'))
  case atStart => exact ⟨(([] : List (S74))), (0), (by first | rfl | (simp; done) | (simp [*]; done)), H', ⟨Nat.le_refl _⟩, ⟨by first | exact Kd.R_nil _ _ _ _ _ | exact Kd.N_nil _ _ _ _ _ | exact Kd.V_nil _ _ _ _ _ | exact Kd.Q_nil _ _ _ _ _ | exact Kd.S_nil _ _ _ _ _⟩, ⟨by repeat (first | (with_reducible first | exact HB.out | apply below_alloc | apply pw_below_drewN | apply below_drew1) | exact HB.out)⟩⟩
  case round =>
    clear H'
    obtain ⟨x2_1, x3_1, rfl, HA, HK1, HO_2, HB⟩ := hrel
    cases gk with
    | zero => exact absurd HA.out (by simp [tag_Fields_p.l0])
    | succ k1 =>
      have H := HA.out
      clear HA
      simp only [tag_Fields_p.l0] at H
      by_cases c2 : x3_1 < (a0.size : Int)
      · rw [if_pos c2] at H
        have c2b0 : decide (x3_1 < (a0.size : Int)) = true := decide_eq_true c2
        clear c2
        by_cases c3 : (x2_1.length : Int) = 64
        · rw [if_pos c3] at H
          have c3b0 : ((x2_1.length : Int) == 64) = true := beq_iff_eq.mpr c3
          have c3b1 : ((x2_1.length : Int) != 64) = false := bne_eq_false_iff_eq.mpr c3
          clear c3
          simp only [Option.some.injEq, Prod.mk.injEq] at H
          obtain ⟨rfl, rfl, rfl⟩ := H
          obtain ⟨Ao4, co4, eo4⟩ := Kd.R_slice HO_2.out
          subst eo4
          go_wp2
          go_ret3
          exact ⟨_, by first | rfl | (simp [errW_none, errW_some] <;> rfl) | (simp [*, errW_none, errW_some] <;> rfl), by (with_reducible repeat (first | apply Kd.R_alloc | apply Kd.R_drewN | apply Kd.R_drew)); exact HO_2.out, by repeat (first | (with_reducible first | exact HB.out | apply below_alloc | apply pw_below_drewN | apply below_drew1) | exact HB.out)⟩
        · rw [if_neg c3] at H
          have c3b0 : ((x2_1.length : Int) == 64) = false := beq_eq_false_iff_ne.mpr c3
          have c3b1 : ((x2_1.length : Int) != 64) = true := bne_iff_ne.mpr c3
          by_cases c5 : 0 ≤ x3_1
          · rw [if_pos c5] at H
            have c5b0 := eq_true c5
            have c5b1 : decide (0 ≤ x3_1) = true := decide_eq_true c5
            clear c5
            by_cases c6 : x3_1 ≤ (a0.size : Int)
            · rw [if_pos c6] at H
              have c6b0 := eq_true c6
              have c6b1 : decide (x3_1 ≤ (a0.size : Int)) = true := decide_eq_true c6
              clear c6
              replace H := Option.bind_eq_some_iff.mp H
              obtain ⟨⟨t116, t117, t118, t119⟩, A70, H⟩ := H
              replace H : (if t119 = 0 then (if x2_1.length < 5864062014805 then (tag_Fields_p.l0 k1 a0 (x2_1 ++ [(⟨t116, t117⟩ : S74)]) (wrap64 (x3_1 + t118))) else (none)) else (some (x2_1, x3_1, t119))) = some (r1, r2, r3) := H
              have A7 := Aside0.mk A70
              clear A70
              by_cases c8 : t119 = 0
              · rw [if_pos c8] at H
                have c8b0 : (t119 == 0) = true := beq_iff_eq.mpr c8
                have c8b1 : (t119 != 0) = false := bne_eq_false_iff_eq.mpr c8
                clear c8
                by_cases c9 : x2_1.length < 5864062014805
                · rw [if_pos c9] at H
                  have LMc9 := Aside0.mk c9
                  clear c9
                  obtain ⟨y121, hy121⟩ : ∃ y_ : List (S74), y_ = (x2_1 ++ [(⟨t116, t117⟩ : S74)]) := ⟨_, rfl⟩
                  replace H : (tag_Fields_p.l0 k1 a0 y121 (wrap64 (x3_1 + t118))) = some (r1, r2, r3) := by first | (rw [hy121]; with_reducible exact H) | (have H2_ := (Option.bind_some _ _).symm.trans H; rw [hy121]; with_reducible exact H2_) | (have H2_ := (Option.bind_some _ _).symm.trans H; with_reducible exact H2_) | with_reducible exact H | (rw [hy121]; exact H) | exact H
                  have Ny121 := Aside0.mk hy121
                  clear hy121
                  have H' := Aside0.mk H
                  clear H
                  obtain ⟨Ao10, co10, eo10⟩ := Kd.R_slice HO_2.out
                  subst eo10
                  go_wp2_with (first | ((with_reducible refine gate_callee (f := 71) rfl ?_); refine goesL_ (some 21) rfl rfl Tryz.func71 (by kernel_rfl) rfl #[.string (a0.extract (x3_1 : Int).toNat a0.size)] rfl (by (try simp only [List.map_toArray, List.map_cons, List.map_nil]); first | done | rfl | (simp only [List.length_drop, List.length_take]; rfl)) ?_; (with_reducible refine (tag_Next.calls (a0.extract (x3_1 : Int).toNat a0.size) t116 t117 t118 t119 _ A7.out).mono ?_); rintro e w11 ⟨rfl, hb⟩; refine ⟨_, rfl, ?_⟩; have n0_ := Aside0.mk (Kd.R_below (by (with_reducible repeat (first | apply Kd.R_alloc | apply Kd.R_drewN | apply Kd.R_drew)); exact HO_2.out) hb); have n1_ := Aside0.mk (below_step (by repeat (first | (with_reducible first | exact HB.out | apply below_alloc | apply pw_below_drewN | apply below_drew1) | exact HB.out)) hb); clear HO_2; clear HB; have HO_2 := n0_; have HB := n1_; clear n0_ n1_; (try clear hb); (try clear hb2); (try clear hk); (try clear hi)) | ((with_reducible refine gate_dst (N := 5) rfl ?_); refine box_event ?hg (N := 5) ?hd (cs := #[.int .i64 0, .string (⟨#[]⟩ : ByteArray)]) (t := 74) ?hr ?_; (case hd => rfl); (case hg => rfl); (case hr => first | (go_simp; done) | (go_simp; rfl)); intro gb120 hg w12 hbox hb; have n0_ := Aside0.mk (Kd.R_below (Kd.R_elderB (by (with_reducible repeat (first | apply Kd.R_alloc | apply Kd.R_drewN | apply Kd.R_drew)); exact HO_2.out) gb120 (Nat.le_of_eq hg.symm)) hb); have n1_ := Aside0.mk (below_step (by repeat (first | (with_reducible first | exact HB.out | apply below_alloc | apply pw_below_drewN | apply below_drew1) | exact HB.out)) hb); have n2_ := Aside0.mk (hbox); have n3_ := Aside0.mk ((by rw [hg]; exact (below_size (by repeat (first | (with_reducible first | exact HB.out | apply below_alloc | apply pw_below_drewN | apply below_drew1) | exact HB.out))) : w.heap.size ≤ gb120)); have n4_ := Aside0.mk ((by rw [hg]; exact (below_size (by repeat (first | (with_reducible first | exact HB.out | apply below_alloc | apply pw_below_drewN | apply below_drew1) | exact HB.out))) : w.heap.size ≤ gb120)); clear HO_2; clear HB; have HO_2 := n0_; have HB := n1_; have BK120 := n2_; have GW120 := n3_; have GE120 := n4_; clear n0_ n1_ n2_ n3_ n4_; clear hb hbox hg; have hcz13_0 : w12.cell? ⟨gb120, 0, none⟩ = some (.int .i64 0) := (blk_cell BK120.out 0).trans rfl; have hcz13_1 : w12.cell? ⟨gb120, 1, none⟩ = some (.string (⟨#[]⟩ : ByteArray)) := (blk_cell BK120.out 1).trans rfl; have hfz13_0 := blk_frozen BK120.out 0; have hfz13_1 := blk_frozen BK120.out 1) | ((with_reducible refine gate_builtin (b := .append) (xs := #[.tmp 30, .tmp 32]) rfl ?_); at_builtin; refine Kd.R_append k74 (w0 := w) w.heap.size rfl (.tmp 30) (.tmp 32) 42 74 (.agg #[(.int .i64 0), (.string ⟨#[]⟩)]) 24 rfl Tryz.underlying42 info74 rfl (by decide) (by omega) (.slice Ao10 x2_1.length co10) x2_1 (⟨t116, t117⟩ : S74) [.int .i64 t116, .string t117] (fun k_ => k_ ≠ gb120) (fun _ => False) rfl (by first | (go_simp; done) | (go_simp; rfl)) ?aP (fun _ hk => hk.elim) ?aF ?aO ?aB ?aS ?aL ?_; (case aP => exact k74_mkM _ _ _ (⟨t116, t117⟩ : S74)); (case aB => exact (by repeat (first | (with_reducible first | exact HB.out | apply below_alloc | apply pw_below_drewN | apply below_drew1 | refine below_set ?_ GE120.out) | exact HB.out))); (case aF => exact (fun k_ hk => Kd.freshB (g := gb120) (o := .cells #[.int .i64 t116, .string t117] 74 (0, 0)) (by (with_reducible repeat (first | refine blk_drewN ?_ _ | refine blk_drew ?_ | refine blk_alloc ?_ _)); refine blk_put (cs := #[.int .i64 t116, .string (⟨#[]⟩ : ByteArray)]) ?_ 1 _ rfl; (with_reducible repeat (first | refine blk_drewN ?_ _ | refine blk_drew ?_ | refine blk_alloc ?_ _)); refine blk_put (cs := #[.int .i64 0, .string (⟨#[]⟩ : ByteArray)]) ?_ 0 _ rfl; (with_reducible repeat (first | refine blk_drewN ?_ _ | refine blk_drew ?_ | refine blk_alloc ?_ _)); exact BK120.out) k_ hk)); (case aO => exact (by (with_reducible repeat (first | apply Kd.R_alloc | apply Kd.R_drewN | apply Kd.R_drew)); exact Kd.R_mono (Kd.R_far (p := ⟨gb120, 1, none⟩) (Kd.R_far (p := ⟨gb120, 0, none⟩) (Kd.R_mono HO_2.out (fun k_ hk => (⟨hk, hk.2⟩ : _ ∧ k_ ≠ gb120))) (fun _ hk => hk.2) (.int .i64 t116)) (fun _ hk => hk.2) (.string t117)) (fun _ hk => hk.1.2))); (case aS => exact (below_size (by repeat (first | (with_reducible first | exact HB.out | apply below_alloc | apply pw_below_drewN | apply below_drew1 | refine below_set ?_ GE120.out) | exact HB.out)))); (case aL => have := LMc9.out; omega); intro v122 w14 ho hb hg hat; rw [← Ny121.out] at ho; have n0_ := Aside0.mk (blk_grown (g := gb120) (o := .cells #[.int .i64 t116, .string t117] 74 (0, 0)) (by (with_reducible repeat (first | refine blk_drewN ?_ _ | refine blk_drew ?_ | refine blk_alloc ?_ _)); refine blk_put (cs := #[.int .i64 t116, .string (⟨#[]⟩ : ByteArray)]) ?_ 1 _ rfl; (with_reducible repeat (first | refine blk_drewN ?_ _ | refine blk_drew ?_ | refine blk_alloc ?_ _)); refine blk_put (cs := #[.int .i64 0, .string (⟨#[]⟩ : ByteArray)]) ?_ 0 _ rfl; (with_reducible repeat (first | refine blk_drewN ?_ _ | refine blk_drew ?_ | refine blk_alloc ?_ _)); exact BK120.out) hg (Kd.R_away HO_2.out (fun _ hk => hk.2))); have n1_ := Aside0.mk (hb); have n2_ := Aside0.mk (ho); clear BK120; clear HB; clear HO_2; have BK120 := n0_; have HB := n1_; have HO123 := n2_; clear n0_ n1_ n2_; clear ho hb hg hat))
                  go_roundg k1
                  case measure => have := HK1.out; omega
                  case rel => exact ⟨(y121), (wrap64 (x3_1 + t118)), (by first | rfl | (simp; done) | (simp [*]; done)), H', ⟨by have := HK1.out; omega⟩, ⟨by (with_reducible repeat (first | apply Kd.R_alloc | apply Kd.R_drewN | apply Kd.R_drew)); exact Kd.R_mono HO123.out (fun _ hk => trivial)⟩, ⟨by repeat (first | (with_reducible first | exact HB.out | apply below_alloc | apply pw_below_drewN | apply below_drew1 | refine below_set ?_ GE120.out) | exact HB.out)⟩⟩
                · rw [if_neg c9] at H
                  exact absurd H (by simp)
              · rw [if_neg c8] at H
                have c8b0 : (t119 == 0) = false := beq_eq_false_iff_ne.mpr c8
                have c8b1 : (t119 != 0) = true := bne_iff_ne.mpr c8
                simp only [Option.some.injEq, Prod.mk.injEq] at H
                obtain ⟨rfl, rfl, rfl⟩ := H
                obtain ⟨Ao15, co15, eo15⟩ := Kd.R_slice HO_2.out
                subst eo15
                go_wp2_with (first | ((with_reducible refine gate_callee (f := 71) rfl ?_); refine goesL_ (some 21) rfl rfl Tryz.func71 (by kernel_rfl) rfl #[.string (a0.extract (x3_1 : Int).toNat a0.size)] rfl (by (try simp only [List.map_toArray, List.map_cons, List.map_nil]); first | done | rfl | (simp only [List.length_drop, List.length_take]; rfl)) ?_; (with_reducible refine (tag_Next.calls (a0.extract (x3_1 : Int).toNat a0.size) t116 t117 t118 t119 _ A7.out).mono ?_); rintro e w16 ⟨rfl, hb⟩; refine ⟨_, rfl, ?_⟩; have n0_ := Aside0.mk (Kd.R_below (by (with_reducible repeat (first | apply Kd.R_alloc | apply Kd.R_drewN | apply Kd.R_drew)); exact HO_2.out) hb); have n1_ := Aside0.mk (below_step (by repeat (first | (with_reducible first | exact HB.out | apply below_alloc | apply pw_below_drewN | apply below_drew1) | exact HB.out)) hb); clear HO_2; clear HB; have HO_2 := n0_; have HB := n1_; clear n0_ n1_; (try clear hb); (try clear hb2); (try clear hk); (try clear hi)) | ((with_reducible refine gate_dst (N := 5) rfl ?_); refine box_event ?hg (N := 5) ?hd (cs := #[.int .i64 0, .string (⟨#[]⟩ : ByteArray)]) (t := 74) ?hr ?_; (case hd => rfl); (case hg => rfl); (case hr => first | (go_simp; done) | (go_simp; rfl)); intro gb120 hg w17 hbox hb; have n0_ := Aside0.mk (Kd.R_below (Kd.R_elderB (by (with_reducible repeat (first | apply Kd.R_alloc | apply Kd.R_drewN | apply Kd.R_drew)); exact HO_2.out) gb120 (Nat.le_of_eq hg.symm)) hb); have n1_ := Aside0.mk (below_step (by repeat (first | (with_reducible first | exact HB.out | apply below_alloc | apply pw_below_drewN | apply below_drew1) | exact HB.out)) hb); have n2_ := Aside0.mk (hbox); have n3_ := Aside0.mk ((by rw [hg]; exact (below_size (by repeat (first | (with_reducible first | exact HB.out | apply below_alloc | apply pw_below_drewN | apply below_drew1) | exact HB.out))) : w.heap.size ≤ gb120)); have n4_ := Aside0.mk ((by rw [hg]; exact (below_size (by repeat (first | (with_reducible first | exact HB.out | apply below_alloc | apply pw_below_drewN | apply below_drew1) | exact HB.out))) : w.heap.size ≤ gb120)); clear HO_2; clear HB; have HO_2 := n0_; have HB := n1_; have BK120 := n2_; have GW120 := n3_; have GE120 := n4_; clear n0_ n1_ n2_ n3_ n4_; clear hb hbox hg; have hcz18_0 : w17.cell? ⟨gb120, 0, none⟩ = some (.int .i64 0) := (blk_cell BK120.out 0).trans rfl; have hcz18_1 : w17.cell? ⟨gb120, 1, none⟩ = some (.string (⟨#[]⟩ : ByteArray)) := (blk_cell BK120.out 1).trans rfl; have hfz18_0 := blk_frozen BK120.out 0; have hfz18_1 := blk_frozen BK120.out 1))
                go_ret3
                exact ⟨_, by first | rfl | (simp [errW_none, errW_some] <;> rfl) | (simp [*, errW_none, errW_some] <;> rfl), by (with_reducible repeat (first | apply Kd.R_alloc | apply Kd.R_drewN | apply Kd.R_drew)); exact Kd.R_mono (Kd.R_far (p := ⟨gb120, 1, none⟩) (Kd.R_far (p := ⟨gb120, 0, none⟩) (Kd.R_mono HO_2.out (fun k_ hk => (⟨hk, hk.2⟩ : _ ∧ k_ ≠ gb120))) (fun _ hk => hk.2) (.int .i64 t116)) (fun _ hk => hk.2) (.string t117)) (fun _ hk => trivial), by repeat (first | (with_reducible first | exact HB.out | apply below_alloc | apply pw_below_drewN | apply below_drew1 | refine below_set ?_ GE120.out) | exact HB.out)⟩
            · rw [if_neg c6] at H
              exact absurd H (by simp)
          · rw [if_neg c5] at H
            exact absurd H (by simp)
      · rw [if_neg c2] at H
        have c2b0 : decide (x3_1 < (a0.size : Int)) = false := decide_eq_false c2
        clear c2
        simp only [Option.some.injEq, Prod.mk.injEq] at H
        obtain ⟨rfl, rfl, rfl⟩ := H
        go_wp2
        go_ret3
        exact ⟨_, by first | rfl | (simp [errW_none, errW_some] <;> rfl) | (simp [*, errW_none, errW_some] <;> rfl), by (with_reducible repeat (first | apply Kd.R_alloc | apply Kd.R_drewN | apply Kd.R_drew)); exact HO_2.out, by repeat (first | (with_reducible first | exact HB.out | apply below_alloc | apply pw_below_drewN | apply below_drew1) | exact HB.out)⟩
def mkF (p : Nat × List UInt8) : S74 := ⟨(p.1 : Int), ⟨p.2.toArray⟩⟩
theorem tag_Fields_loop (s : ByteArray) (hs : s.size ≤ big) (d : Nat) : ∀ (k pos : Nat) (xs : List S74), pos ≤ s.size → s.size - pos ≤ d → d < k → xs.length ≤ 64 →
    tag_Fields_p.l0 k s xs (pos : Int) = some (xs ++ (fieldsL (s.data.toList.drop pos) xs.length pos).1.map mkF, ((fieldsL (s.data.toList.drop pos) xs.length pos).2.1 : Int), ((fieldsL (s.data.toList.drop pos) xs.length pos).2.2 : Int)) := by
  induction d with
  | zero =>
    intro k pos xs hp hd hk hx
    obtain ⟨k, rfl⟩ : ∃ m, k = m + 1 := ⟨k - 1, by omega⟩
    simp only [tag_Fields_p.l0]
    rw [if_neg (by omega), drop_nil_of s pos (by omega), fieldsL_nil]
    simp
  | succ d ih =>
    intro k pos xs hp hd hk hx
    obtain ⟨k, rfl⟩ : ∃ m, k = m + 1 := ⟨k - 1, by omega⟩
    by_cases hlt : pos < s.size
    · have hne := drop_ne_nil s pos hlt
      simp only [tag_Fields_p.l0]
      rw [if_pos (by omega)]
      by_cases h64 : xs.length = 64
      · rw [if_pos (by omega), fieldsL_full _ hne _ _ (by omega)]; simp
      · rw [if_neg (by omega), if_pos (by omega), if_pos (by omega), Int.toNat_natCast]
        unfold tag_Next.f
        rw [if_pos (by rw [ByteArray.size_extract]; omega), drop_list]
        simp only [Option.bind_some]
        by_cases he : (nextL (s.data.toList.drop pos)).2.2 = 0
        · have h1 := nextL_pos _ he
          have h2 := nextL_le _ he
          rw [List.length_drop, size_list] at h2
          unfold big at hs
          rw [if_pos (by omega), if_pos (by omega), fieldsL_next _ hne _ _ (by omega) he, w64 (by omega) (by omega), ← Int.natCast_add, ih k (pos + (nextL (s.data.toList.drop pos)).2.1) _ (by omega) (by omega) (by omega) (by simp; omega)]
          simp [List.drop_drop, mkF]
        · rw [if_neg (by omega), fieldsL_err _ hne _ _ (by omega) he]; simp
    · obtain ⟨k, rfl⟩ : ∃ m, k = m + 0 := ⟨k, rfl⟩
      simp only [tag_Fields_p.l0]
      rw [if_neg (by omega), drop_nil_of s pos hlt, fieldsL_nil]
      simp
def tag_Fields.f (a0 : ByteArray) : Option ((List S74) × Int × Int) := if a0.size ≤ big then some ((fieldsL a0.data.toList 0 0).1.map mkF, ((fieldsL a0.data.toList 0 0).2.1 : Int), ((fieldsL a0.data.toList 0 0).2.2 : Int)) else none
theorem tag_Fields.calls (a0 : ByteArray) (r1 : List S74) (r2 : Int) (r3 : Int) (w : World) (h : tag_Fields.f a0 = some (r1, r2, r3)) :
    Calls Tryz.prog 55 #[.string a0] w fun e w' => ∃ v0_ : Value, e = .returned (.tuple #[v0_, .int .i64 r2, .int .i64 r3]) ∧ Kd.R k74 74 w' w.heap.size (fun _ => True) v0_ r1 ∧ Below w.heap.size w w' := by
  unfold tag_Fields.f at h
  by_cases c : a0.size ≤ big
  · rw [if_pos c] at h
    refine tag_Fields_p.calls (a0.size + 1) a0 r1 r2 r3 w (Eq.trans ?_ h)
    have := tag_Fields_loop a0 c a0.size (a0.size + 1) 0 [] (by omega) (by omega) (by omega) (by simp)
    simpa [tag_Fields_p.f] using this
  · rw [if_neg c] at h; cases h
end Go.Proofs.YtgfigkfcmkdjdaaGreatDoor.B
end
