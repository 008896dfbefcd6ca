/- Each Go function that the laws of this seat reach, as a plain Lean function, and its contract: the machine's call does what that function says. -/
import Derived.Test.YtbkpkfbdpmjgoaaDoorQx0
import Derived.Test.YtbkpkfbdpmjgoaaDoorQx1
import Derived.Test.YtbkpkfbdpmjgoaaDoorQx8
namespace Go.Proofs.YtbkpkfbdpmjgoaaDoor.Q
open Go.RowKit Go.Proofs.YtbkpkfbdpmjgoaaDoorW.PrintWords Go.Proofs.YtbkpkfbdpmjgoaaDoorW.PrintLast Go.Proofs.YtbkpkfbdpmjgoaaDoorW.PrintMore
attribute [local go_sem] max2_int min2_int max_two min_two max_three min_three max_four min_four   -- for this text's walks alone
set_option linter.unusedVariables false
set_option linter.unusedSimpArgs false

--PART
/-! ### tag_text: function 57 -/
--needs 53
def tag_text.f (a0 : ByteArray) : Option (ByteArray × Int) := if a0.size ≤ big then some (if (textL a0.data.toList 0).2 = 0 then a0.extract 0 (textL a0.data.toList 0).1 else ⟨#[]⟩, ((textL a0.data.toList 0).2 : Int)) else none
def TextIs (s : ByteArray) (w : World) (e : Ending) (w' : World) : Prop := e = .returned (.tuple #[.string (if (textL s.data.toList 0).2 = 0 then s.extract 0 (textL s.data.toList 0).1 else ⟨#[]⟩), .int .i64 ((textL s.data.toList 0).2 : Int)]) ∧ Below w.heap.size w w'
theorem TextIs.ok {s : ByteArray} {w w' : World} {p : Nat} {t : ByteArray} (h : (p, 0) = textL s.data.toList 0) (ht : t = s.extract 0 p) (hw : Below w.heap.size w w') : TextIs s w (.returned (.tuple #[.string t, .int .i64 0])) w' := by
  subst ht; unfold TextIs; rw [← h]; exact ⟨rfl, hw⟩
theorem TextIs.no {s : ByteArray} {w w' : World} {p e : Nat} (h : (p, e) = textL s.data.toList 0) (he : e ≠ 0) (hw : Below w.heap.size w w') : TextIs s w (.returned (.tuple #[.string ⟨#[]⟩, .int .i64 (e : Int)])) w' := by
  unfold TextIs; rw [← h]; simp only; rw [if_neg he]; exact ⟨rfl, hw⟩
set_option maxHeartbeats 1000000 in
theorem tag_text_walk (s : ByteArray) (w : World) (hs : s.size ≤ big) :
    Calls Tryd.prog 57 #[.string s] w (TextIs s w) := by
  unfold big at hs
  have HB : Aside0 (∀ p, Below w.heap.size w (w.iter s p)) := ⟨fun p => (Below.refl _ _).alloc (Nat.le_refl _) _⟩
  go_enter Tryd.func57, Tryd.ntmps57
  go_wp2
  go_step3
  go_wp2
  go_step3
  go_wp2
  go_loopw [4, 5] (fun e4 v5 w' => ∃ pos at_ : Nat, w' = w.iter s pos ∧ e4 = .int .i64 82 ∧ v5 = .int .i64 (at_ : Int) ∧ pos ≤ s.size ∧ Aside0 (textL (s.data.toList.drop pos) pos = textL s.data.toList 0)) (fun _ _ w' => s.size - w'.iterPos w.heap.size)
  case atStart => exact ⟨0, 0, rfl, rfl, rfl, Nat.zero_le _, ⟨rfl⟩⟩
  case round =>
    obtain ⟨pos, at_, rfl, rfl, rfl, hpos, hA⟩ := hrel
    by_cases hp : pos < s.size
    · have hnx : ∀ ty, (Instr.next (.pointer (some ⟨w.heap.size, 0, none⟩)) true ty).run Tryd.prog (w.iter s pos) = _ := fun ty => run_next_any w s pos ty hp
      have hle := decode_le s pos
      have hne := drop_ne_nil s pos hp
      have hst := hA.out
      have hwd := dec_width (s.data.toList.drop pos)
      have hwl := dec_width_le _ hne
      have hw4 := dec_width4 (s.data.toList.drop pos)
      have hen := dec_encode_size (s.data.toList.drop pos) hne
      rw [textL_cons _ hne, dec_drop, List.drop_drop] at hst
      rw [dec_drop] at hwd hwl hw4 hen
      rw [List.length_drop, size_list] at hwl
      clear hA
      generalize (Utf8.decode s pos).1 = r at *
      generalize (Utf8.decode s pos).2 = wd at *
      by_cases c1 : r = 1 ∧ 0 < pos
      · rw [if_pos c1] at hst
        have HS := Aside0.mk hst
        obtain ⟨rfl, c1⟩ := c1
        clear hst hen hle
        go_wp2
        go_ret2
        exact TextIs.ok HS.out (by simp) (HB.out _)
      · rw [if_neg c1] at hst
        have HM : Aside0 (∀ w, Calls Tryd.prog 53 #[.int .i32 (r : Int)] w fun e w' => e = .returned (.bool (mayB r)) ∧ w = w') := ⟨fun w => tag_may_same r hle w⟩
        cases hm : mayB r with
        | false =>
          rw [hm] at hst HM
          rw [if_neg (by simp)] at hst
          have HS := Aside0.mk hst
          clear hst hm hen hle
          by_cases c2 : r = 1
          · obtain rfl : pos = 0 := by omega
            subst c2
            clear c1
            go_wp2_with (go_at_call 53; refine (HM.out _).mono ?_; rintro e w1 ⟨rfl, rfl⟩)
            go_ret2
            exact TextIs.no HS.out (by decide) (HB.out _)
          · have t1 : ((r : Int) == 1) = false := by rw [beq_eq_false_iff_ne]; omega
            clear c1 c2
            go_wp2_with (go_at_call 53; refine (HM.out _).mono ?_; rintro e w1 ⟨rfl, rfl⟩)
            go_ret2
            exact TextIs.no HS.out (by decide) (HB.out _)
        | true =>
          rw [hm] at hst HM
          have hm2 := (mayB_eq r).1 hm
          have hsz := hen (by omega)
          have t1 : ((r : Int) == 1) = false := by rw [beq_eq_false_iff_ne]; omega
          clear hm hen c1 hle
          by_cases c3 : pos + wd ≤ 512
          · rw [if_pos ⟨rfl, c3⟩] at hst
            have HS := Aside0.mk hst
            have t2 : decide ((512 : Int) < (pos : Int) + (wd : Int)) = false := by rw [decide_eq_false_iff_not]; omega
            clear hst
            go_wp2_with (go_at_call 53; refine (HM.out _).mono ?_; rintro e w1 ⟨rfl, rfl⟩)
            go_roundw
            case rel => exact ⟨pos + wd, pos, rfl, rfl, rfl, by omega, HS⟩
            case measure => simp; omega
          · rw [if_neg (by simp [c3])] at hst
            have HS := Aside0.mk hst
            have t2 : decide ((512 : Int) < (pos : Int) + (wd : Int)) = true := by rw [decide_eq_true_eq]; omega
            clear hst
            go_wp2_with (go_at_call 53; refine (HM.out _).mono ?_; rintro e w1 ⟨rfl, rfl⟩)
            go_ret2
            exact TextIs.no HS.out (by decide) (HB.out _)
    · have hnx : ∀ ty, (Instr.next (.pointer (some ⟨w.heap.size, 0, none⟩)) true ty).run Tryd.prog (w.iter s pos) = _ := fun ty => run_next_end w s pos ty hp
      have HS := Aside0.mk (show (0, 82) = textL s.data.toList 0 by rw [← hA.out, drop_nil_of s pos hp, textL_nil])
      clear hA
      go_wp2
      go_ret2
      exact TextIs.no HS.out (by decide) (HB.out _)
theorem tag_text.calls (a0 : ByteArray) (r1 : ByteArray) (r2 : Int) (w : World) (h : tag_text.f a0 = some (r1, r2)) :
    Calls Tryd.prog 57 #[.string a0] w fun e w' => e = .returned (.tuple #[.string r1, .int .i64 r2]) ∧ Below w.heap.size w w' := by
  unfold tag_text.f at h
  by_cases c : a0.size ≤ big
  · rw [if_pos c] at h
    simp only [Option.some.injEq, Prod.mk.injEq] at h
    obtain ⟨rfl, rfl⟩ := h
    exact tag_text_walk a0 w c
  · rw [if_neg c] at h; cases h

end Go.Proofs.YtbkpkfbdpmjgoaaDoor.Q
