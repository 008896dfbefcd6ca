/- The functions that the law reaches, as plain Lean functions, and their contracts: texts merged. -/
import Derived.Laws.StructEq
import Derived.Test.YtgfigkfcmkdjdaaDoorzAskBack2
import Derived.Test.YtgfigkfcmkdjdaaDoorzAskBack0
import Derived.Test.YtgfigkfcmkdjdaaDoorzAskBack1
import Derived.Test.YtgfigkfcmkdjdaaDoorzAskBack3
section
namespace Go.Proofs.YtgfigkfcmkdjdaaDoor.B
open Go.RowKit Go.Proofs.YtgfigkfcmkdjdaaDoorW.PrintWords Go.Proofs.YtgfigkfcmkdjdaaDoorW.PrintLast Go.Proofs.YtgfigkfcmkdjdaaDoorW.PrintMore
attribute [local go_sem] max2_int min2_int max_two min_two max_three min_three max_four min_four   -- for this text's walks alone
set_option linter.unusedVariables false
set_option linter.unusedSimpArgs false
def mayN (r : Nat) : Bool := decide (33 ≤ r) && (r != 127 && (r != 61 && r != 65533))
theorem mayN_eq (r : Nat) : mayN r = true ↔ 33 ≤ r ∧ r ≠ 127 ∧ r ≠ 61 ∧ r ≠ 65533 := by simp [mayN]
def nameL (l : List UInt8) (n : Nat) : Bool := if _h : l = [] then decide (0 < n) else if 20 ≤ n then false else if mayN (dec l).1 = true then nameL (l.drop (dec l).2) (n + 1) else false
termination_by l.length
decreasing_by all_goals (have := dec_width l; have := List.length_pos_iff.2 _h; simp only [List.length_drop]; omega)
theorem nameL_nil (n : Nat) : nameL [] n = decide (0 < n) := by rw [nameL]; rfl
theorem nameL_full (l : List UInt8) (h : l ≠ []) (n : Nat) (hn : 20 ≤ n) : nameL l n = false := by rw [nameL, dif_neg h, if_pos hn]
theorem nameL_bad (l : List UInt8) (h : l ≠ []) (n : Nat) (hm : mayN (dec l).1 = false) : nameL l n = false := by
  rw [nameL, dif_neg h]
  split
  · rfl
  · rw [if_neg (by rw [hm]; decide)]
theorem nameL_go (l : List UInt8) (h : l ≠ []) (n : Nat) (hn : n < 20) (hm : mayN (dec l).1 = true) : nameL l n = nameL (l.drop (dec l).2) (n + 1) := by
  conv => lhs; rw [nameL]
  rw [dif_neg h, if_neg (by omega), if_pos hm]
theorem roster_may_same (r : Nat) (hr : r ≤ 2147483647) (w : World) :
    Calls Tryd.prog 99 #[.int .i32 (r : Int)] w fun e w' => e = .returned (.bool (mayN r)) ∧ w = w' := by
  by_cases c1 : r < 33
  · have hv : mayN r = false := by unfold mayN; simp; omega
    have t1 : decide ((33 : Int) ≤ (r : Int)) = false := by rw [decide_eq_false_iff_not]; omega
    rw [hv]
    clear hv c1
    go_enter Tryd.func99, Tryd.ntmps99
    go_wp2
    go_ret
    exact ⟨rfl, rfl⟩
  have t1 : decide ((33 : Int) ≤ (r : Int)) = true := by rw [decide_eq_true_eq]; omega
  by_cases c2 : r = 127
  · subst c2
    go_enter Tryd.func99, Tryd.ntmps99
    go_wp2
    go_ret
    exact ⟨rfl, rfl⟩
  by_cases c4 : r = 61
  · subst c4
    go_enter Tryd.func99, Tryd.ntmps99
    go_wp2
    go_ret
    exact ⟨rfl, rfl⟩
  by_cases c3 : r = 65533
  · subst c3
    go_enter Tryd.func99, Tryd.ntmps99
    go_wp2
    go_ret
    exact ⟨rfl, rfl⟩
  have hv : mayN r = true := by rw [mayN_eq]; omega
  have t2 : ((r : Int) == 127) = false := by rw [beq_eq_false_iff_ne]; omega
  have t3 : ((r : Int) != 127) = true := by rw [bne_iff_ne]; omega
  have t4 : ((r : Int) == 65533) = false := by rw [beq_eq_false_iff_ne]; omega
  have t5 : ((r : Int) != 65533) = true := by rw [bne_iff_ne]; omega
  have t6 : ((r : Int) == 61) = false := by rw [beq_eq_false_iff_ne]; omega
  have t7 : ((r : Int) != 61) = true := by rw [bne_iff_ne]; omega
  rw [hv]
  clear hv c1 c2 c3 c4
  go_enter Tryd.func99, Tryd.ntmps99
  go_wp2
  go_ret
  exact ⟨rfl, rfl⟩
def NameIs (b : Bool) (w : World) (e : Ending) (w' : World) : Prop := e = .returned (.bool b) ∧ Below w.heap.size w w'
theorem NameIs.mk_ {a b : Bool} {w w' : World} (h : a = b) (hw : Below w.heap.size w w') : NameIs b w (.returned (.bool a)) w' := by subst h; exact ⟨rfl, hw⟩
set_option maxRecDepth 100000 in
set_option maxHeartbeats 1000000 in
theorem roster_Valid_walk (s : ByteArray) (w : World) (hs : s.size ≤ 9223372036854775807) :
    Calls Tryd.prog 54 #[.string s] w (NameIs (nameL s.data.toList 0) w) := by
  have HB : Aside0 (∀ p, Below w.heap.size w (w.iter s p)) := ⟨fun p => (Below.refl _ _).alloc (Nat.le_refl _) _⟩
  go_enter Tryd.func54, Tryd.ntmps54
  go_wp2
  go_loopw [3] (fun v3 w' => ∃ pos n : Nat, w' = w.iter s pos ∧ v3 = .int .i64 (n : Int) ∧ n ≤ 20 ∧ Aside0 (nameL (s.data.toList.drop pos) n = nameL s.data.toList 0)) (fun _ w' => s.size - w'.iterPos w.heap.size)
  case atStart => exact ⟨0, 0, rfl, rfl, by omega, ⟨rfl⟩⟩
  case round =>
    obtain ⟨pos, n, rfl, rfl, hn, hA⟩ := hrel
    by_cases hp : pos < s.size
    · have hnx : ∀ ty, (Instr.next (.pointer (some ⟨w.heap.size, 0, none⟩)) true ty).run Tryd.prog (w.iter s pos) = _ := fun ty => run_next_any w s pos ty hp
      have hle := decode_le s pos
      have hne := drop_ne_nil s pos hp
      have hwd := dec_width (s.data.toList.drop pos)
      by_cases c20 : 20 ≤ n
      · have hn20 : n = 20 := by omega
        subst hn20
        have HS := Aside0.mk ((nameL_full _ hne 20 (by omega)).symm.trans hA.out)
        clear hA hne hwd c20
        generalize (Utf8.decode s pos).1 = r at *
        generalize (Utf8.decode s pos).2 = wd at *
        go_wp2
        go_ret
        exact NameIs.mk_ HS.out (HB.out _)
      · have t1 : decide ((20 : Int) < (n : Int) + 1) = false := by rw [decide_eq_false_iff_not]; omega
        have t1' : decide (20 < n + 1) = false := by rw [decide_eq_false_iff_not]; omega
        cases hm : mayN (dec (s.data.toList.drop pos)).1 with
        | false =>
          have HS := Aside0.mk ((nameL_bad _ hne n hm).symm.trans hA.out)
          rw [dec_drop] at hm
          clear hA hne hwd
          generalize (Utf8.decode s pos).1 = r at *
          generalize (Utf8.decode s pos).2 = wd at *
          have HM : Aside0 (∀ w, Calls Tryd.prog 99 #[.int .i32 (r : Int)] w fun e w' => e = .returned (.bool false) ∧ w = w') := ⟨fun w => by rw [← hm]; exact roster_may_same r hle w⟩
          clear hm
          go_wp2_with (go_at_call 99; refine (HM.out _).mono ?_; rintro e w1 ⟨rfl, rfl⟩)
          go_ret
          exact NameIs.mk_ HS.out (HB.out _)
        | true =>
          have HS := Aside0.mk ((nameL_go _ hne n (by omega) hm).symm.trans hA.out)
          rw [dec_drop] at hm hwd
          rw [dec_drop, List.drop_drop] at HS
          clear hA hne
          generalize (Utf8.decode s pos).1 = r at *
          generalize (Utf8.decode s pos).2 = wd at *
          have HM : Aside0 (∀ w, Calls Tryd.prog 99 #[.int .i32 (r : Int)] w fun e w' => e = .returned (.bool true) ∧ w = w') := ⟨fun w => by rw [← hm]; exact roster_may_same r hle w⟩
          clear hm
          go_wp2_with (go_at_call 99; refine (HM.out _).mono ?_; rintro e w1 ⟨rfl, rfl⟩)
          go_roundw
          case rel => exact ⟨pos + wd, n + 1, rfl, by rw [show ((n + 1 : Nat) : Int) = (n : Int) + 1 by omega], by omega, HS⟩
          case measure => simp; omega
    · have hnx : ∀ ty, (Instr.next (.pointer (some ⟨w.heap.size, 0, none⟩)) true ty).run Tryd.prog (w.iter s pos) = _ := fun ty => run_next_end w s pos ty hp
      have HS := Aside0.mk (hA.out.symm.trans (by rw [drop_nil_of s pos hp, nameL_nil]))
      clear hA
      go_wp2
      go_ret
      exact NameIs.mk_ (by rw [HS.out]) (HB.out _)
def roster_Valid.f (a0 : ByteArray) : Option Bool := if a0.size ≤ 9223372036854775807 then some (nameL a0.data.toList 0) else none
theorem roster_Valid.calls (a0 : ByteArray) (r : Bool) (w : World) (h : roster_Valid.f a0 = some r) :
    Calls Tryd.prog 54 #[.string a0] w fun e w' => e = .returned (.bool r) ∧ Below w.heap.size w w' := by
  unfold roster_Valid.f at h
  by_cases c : a0.size ≤ 9223372036854775807
  · rw [if_pos c] at h
    obtain rfl := Option.some.inj h
    exact roster_Valid_walk a0 w c
  · rw [if_neg c] at h; cases h
end Go.Proofs.YtgfigkfcmkdjdaaDoor.B
end
