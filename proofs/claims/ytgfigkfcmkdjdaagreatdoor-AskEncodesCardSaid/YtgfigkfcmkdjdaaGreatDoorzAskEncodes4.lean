/- The functions that the law reaches, as plain Lean functions, and their contracts: texts merged. -/
import Derived.Laws.StructEq
import Derived.Test.YtgfigkfcmkdjdaaGreatDoorzAskEncodes2
import Derived.Test.YtgfigkfcmkdjdaaGreatDoorzAskEncodes0
import Derived.Test.YtgfigkfcmkdjdaaGreatDoorzAskEncodes1
import Derived.Test.YtgfigkfcmkdjdaaGreatDoorzAskEncodes3
section
namespace Go.Proofs.YtgfigkfcmkdjdaaGreatDoor.B
open Go.RowKit Go.Proofs.YtgfigkfcmkdjdaaGreatDoorW.PrintWords Go.Proofs.YtgfigkfcmkdjdaaGreatDoorW.PrintLast Go.Proofs.YtgfigkfcmkdjdaaGreatDoorW.PrintMore
attribute [local go_sem] max2_int min2_int max_two min_two max_three min_three max_four min_four   -- for this text's walks alone
set_option linter.unusedVariables false
set_option linter.unusedSimpArgs false
theorem tag_may_same (r : Nat) (hr : r ≤ 2147483647) (w : World) :
    Calls Tryz.prog 85 #[.int .i32 (r : Int)] w fun e w' => e = .returned (.bool (mayB r)) ∧ w = w' := by
  by_cases c1 : r < 32
  · have hv : mayB r = false := by unfold mayB; simp; omega
    have t1 : decide ((32 : Int) ≤ (r : Int)) = false := by rw [decide_eq_false_iff_not]; omega
    rw [hv]
    clear hv c1
    go_enter Tryz.func85, Tryz.ntmps85
    go_wp2
    go_ret
    exact ⟨rfl, rfl⟩
  have t1 : decide ((32 : Int) ≤ (r : Int)) = true := by rw [decide_eq_true_eq]; omega
  by_cases c2 : r = 127
  · subst c2
    go_enter Tryz.func85, Tryz.ntmps85
    go_wp2
    go_ret
    exact ⟨rfl, rfl⟩
  by_cases c3 : r = 65533
  · subst c3
    go_enter Tryz.func85, Tryz.ntmps85
    go_wp2
    go_ret
    exact ⟨rfl, rfl⟩
  have hv : mayB r = true := by rw [mayB_eq]; omega
  have t2 : ((r : Int) == 127) = false := by rw [beq_eq_false_iff_ne]; omega
  have t3 : ((r : Int) != 127) = true := by rw [bne_iff_ne]; omega
  have t4 : ((r : Int) == 65533) = false := by rw [beq_eq_false_iff_ne]; omega
  have t5 : ((r : Int) != 65533) = true := by rw [bne_iff_ne]; omega
  rw [hv]
  clear hv c1 c2 c3
  go_enter Tryz.func85, Tryz.ntmps85
  go_wp2
  go_ret
  exact ⟨rfl, rfl⟩
end Go.Proofs.YtgfigkfcmkdjdaaGreatDoor.B
end
section
namespace Go.Proofs.YtgfigkfcmkdjdaaGreatDoor.B
open Go.RowKit Go.Proofs.YtgfigkfcmkdjdaaGreatDoorW.PrintWords Go.Proofs.YtgfigkfcmkdjdaaGreatDoorW.PrintLast Go.Proofs.YtgfigkfcmkdjdaaGreatDoorW.PrintMore
attribute [local go_sem] max2_int min2_int max_two min_two max_three min_three max_four min_four   -- for this text's walks alone
set_option linter.unusedVariables false
set_option linter.unusedSimpArgs false
def tag_value.f (a0 : ByteArray) : Option Bool := if a0.size ≤ 9223372036854775807 then some (valueL a0.data.toList) else none
def BoolIs (b : Bool) (w : World) (e : Ending) (w' : World) : Prop := e = .returned (.bool b) ∧ Below w.heap.size w w'
theorem BoolIs.mk_ {a b : Bool} {w w' : World} (h : a = b) (hw : Below w.heap.size w w') : BoolIs b w (.returned (.bool a)) w' := by subst h; exact ⟨rfl, hw⟩
set_option maxHeartbeats 1000000 in
theorem tag_value_walk (s : ByteArray) (w : World) (hs : s.size ≤ 9223372036854775807) :
    Calls Tryz.prog 66 #[.string s] w (BoolIs (valueL s.data.toList) w) := by
  have hV : valueL s.data.toList = (decide (1 ≤ s.size) && (decide (s.size ≤ 512) && allMay s.data.toList)) := rfl
  by_cases c1 : s.size < 1
  · have HF := Aside0.mk (show false = valueL s.data.toList by rw [hV, decide_eq_false (by omega)]; rfl)
    have t1 : decide ((s.size : Int) < 1) = true := by rw [decide_eq_true_eq]; omega
    clear hV
    go_enter Tryz.func66, Tryz.ntmps66
    go_wp2
    go_ret
    exact BoolIs.mk_ HF.out (Below.refl _ _)
  have t1 : decide ((s.size : Int) < 1) = false := by rw [decide_eq_false_iff_not]; omega
  by_cases c2 : 512 < s.size
  · have HF := Aside0.mk (show false = valueL s.data.toList by rw [hV, decide_eq_false (p := s.size ≤ 512) (by omega)]; simp)
    have t2 : decide ((512 : Int) < (s.size : Int)) = true := by rw [decide_eq_true_eq]; omega
    clear hV
    go_enter Tryz.func66, Tryz.ntmps66
    go_wp2
    go_ret
    exact BoolIs.mk_ HF.out (Below.refl _ _)
  have t2 : decide ((512 : Int) < (s.size : Int)) = false := by rw [decide_eq_false_iff_not]; omega
  have HF := Aside0.mk (show valueL s.data.toList = allMay s.data.toList by rw [hV, decide_eq_true (by omega), decide_eq_true (by omega)]; simp)
  have HB : Aside0 (∀ p, Below w.heap.size w (w.iter s p)) := ⟨fun p => (Below.refl _ _).alloc (Nat.le_refl _) _⟩
  clear hV
  go_enter Tryz.func66, Tryz.ntmps66
  go_wp2
  go_loopw [4] (fun _ w' => ∃ pos : Nat, w' = w.iter s pos ∧ Aside0 (allMay (s.data.toList.drop pos) = allMay s.data.toList)) (fun _ w' => s.size - w'.iterPos w.heap.size)
  case atStart => exact ⟨0, rfl, ⟨rfl⟩⟩
  case round =>
    obtain ⟨pos, rfl, hA⟩ := hrel
    by_cases hp : pos < s.size
    · have hnx : ∀ ty, (Instr.next (.pointer (some ⟨w.heap.size, 0, none⟩)) true ty).run Tryz.prog (w.iter s pos) = _ := fun ty => run_next_any w s pos ty hp
      have hle := decode_le s pos
      have hst := hA.out
      rw [allMay_cons _ (drop_ne_nil s pos hp), dec_drop, List.drop_drop] at hst
      have hwd := dec_width (s.data.toList.drop pos)
      rw [dec_drop] at hwd
      clear hA
      generalize (Utf8.decode s pos).1 = r at *
      generalize (Utf8.decode s pos).2 = wd at *
      have HM : Aside0 (∀ w, Calls Tryz.prog 85 #[.int .i32 (r : Int)] w fun e w' => e = .returned (.bool (mayB r)) ∧ w = w') := ⟨fun w => tag_may_same r hle w⟩
      cases hm : mayB r with
      | false =>
        rw [hm] at hst HM
        have HS := Aside0.mk hst
        clear hst hm
        go_wp2_with (go_at_call 85; refine (HM.out _).mono ?_; rintro e w1 ⟨rfl, rfl⟩)
        go_ret
        exact BoolIs.mk_ (by rw [HF.out, ← HS.out]; rfl) (HB.out _)
      | true =>
        rw [hm] at hst HM
        have HS := Aside0.mk hst
        clear hst hm
        go_wp2_with (go_at_call 85; refine (HM.out _).mono ?_; rintro e w1 ⟨rfl, rfl⟩)
        go_roundw
        case rel => exact ⟨pos + wd, rfl, ⟨by have := HS.out; simpa using this⟩⟩
        case measure => simp; omega
    · have hnx : ∀ ty, (Instr.next (.pointer (some ⟨w.heap.size, 0, none⟩)) true ty).run Tryz.prog (w.iter s pos) = _ := fun ty => run_next_end w s pos ty hp
      have HS := Aside0.mk (show true = allMay s.data.toList by rw [← hA.out, drop_nil_of s pos hp, allMay_nil])
      clear hA
      go_wp2
      go_ret
      exact BoolIs.mk_ (by rw [HF.out]; exact HS.out) (HB.out _)
theorem tag_value.calls (a0 : ByteArray) (r : Bool) (w : World) (h : tag_value.f a0 = some r) :
    Calls Tryz.prog 66 #[.string a0] w fun e w' => e = .returned (.bool r) ∧ Below w.heap.size w w' := by
  unfold tag_value.f at h
  by_cases c : a0.size ≤ 9223372036854775807
  · rw [if_pos c] at h
    obtain rfl := Option.some.inj h
    exact tag_value_walk a0 w c
  · rw [if_neg c] at h; cases h
end Go.Proofs.YtgfigkfcmkdjdaaGreatDoor.B
end
section
namespace Go.Proofs.YtgfigkfcmkdjdaaGreatDoor.B
open Go.RowKit Go.Proofs.YtgfigkfcmkdjdaaGreatDoorW.PrintWords Go.Proofs.YtgfigkfcmkdjdaaGreatDoorW.PrintLast Go.Proofs.YtgfigkfcmkdjdaaGreatDoorW.PrintMore
attribute [local go_sem] max2_int min2_int max_two min_two max_three min_three max_four min_four   -- for this text's walks alone
set_option linter.unusedVariables false
set_option linter.unusedSimpArgs false
def strconv_Itoa.f (a0 : Int) : Option ByteArray := if 0 ≤ a0 ∧ a0 ≤ 9223372036854775807 then some (digitsB a0) else none
theorem strconv_Itoa.calls (a0 : Int) (r : ByteArray) (w : World) (hT_ : Aside0 (Tabs_ w)) (h : strconv_Itoa.f a0 = some r) :
    Calls Tryz.prog 67 #[.int .i64 a0] w fun e w' => e = .returned (.string r) ∧ Below w.heap.size w w' := by
  unfold strconv_Itoa.f at h
  by_cases c : 0 ≤ a0 ∧ a0 ≤ 9223372036854775807
  · rw [if_pos c] at h
    obtain rfl := Option.some.inj h
    refine (Tryz.strconv_Itoa a0 (by omega) c.2 w hT_.out.tab).mono ?_
    rintro e w' ⟨rfl, k, os, rfl⟩
    refine ⟨?_, Lib.below_grow _ w (Nat.le_refl _) k os⟩
    obtain ⟨n, rfl⟩ := Int.eq_ofNat_of_zero_le c.1
    unfold digitsB
    rw [Lib.itoa_nonneg, decDigits_digitsN, Int.toNat_natCast]
  · rw [if_neg c] at h; cases h
end Go.Proofs.YtgfigkfcmkdjdaaGreatDoor.B
end
section
namespace Go.Proofs.YtgfigkfcmkdjdaaGreatDoor.B
open Go.RowKit Go.Proofs.YtgfigkfcmkdjdaaGreatDoorW.PrintWords Go.Proofs.YtgfigkfcmkdjdaaGreatDoorW.PrintLast Go.Proofs.YtgfigkfcmkdjdaaGreatDoorW.PrintMore
attribute [local go_sem] max2_int min2_int max_two min_two max_three min_three max_four min_four   -- for this text's walks alone
set_option linter.unusedVariables false
set_option linter.unusedSimpArgs false
def tag_Form_p.j0 : Nat → Bool → Int → ByteArray → Option (ByteArray × Int)
  | 0, _, _, _ => none
  | k + 1, x4, x102000, x102001 => if x4 = true then (some ((⟨#[]⟩ : ByteArray), 80)) else ((tag_value.f x102001).bind fun t102 => (if t102 = true then ((strconv_Itoa.f x102000).bind fun t103 => (if t103.size + 1 ≤ 9223372036854775807 then (if (t103 ++ (⟨#[61]⟩ : ByteArray)).size + x102001.size ≤ 9223372036854775807 then (if ((t103 ++ (⟨#[61]⟩ : ByteArray)) ++ x102001).size + 1 ≤ 9223372036854775807 then (some (((t103 ++ (⟨#[61]⟩ : ByteArray)) ++ x102001) ++ (⟨#[1]⟩ : ByteArray), 0)) else (none)) else (none)) else (none))) else (some ((⟨#[]⟩ : ByteArray), 81))))
def tag_Form_p.f (k : Nat) (a0_0 : Int) (a0_1 : ByteArray) : Option (ByteArray × Int) := if a0_0 < 1 then (tag_Form_p.j0 k true a0_0 a0_1) else (tag_Form_p.j0 k (decide (a0_0 > 99999)) a0_0 a0_1)
theorem tag_Form_p.mono_l : ∀ k, (∀ y0 y1 y2, LeO (tag_Form_p.j0 k y0 y1 y2) (tag_Form_p.j0 (k + 1) y0 y1 y2))
  | 0 => fun _ _ _ r h => by simp [tag_Form_p.j0] at h
  | k + 1 => by
    have ih0 := tag_Form_p.mono_l k
    · intro y0 y1 y2
      unfold tag_Form_p.j0
      repeat' first
      | (with_reducible exact ih0 _ _ _)
      | (with_reducible exact LeO.refl _)
      | (with_reducible exact LeO.none _)
      | (with_reducible refine LeO.ite ?_ ?_)
      | (with_reducible refine LeO.bind ?_ (fun _ => ?_))
      | exact ih0 _ _ _
      | exact LeO.none _
      | refine LeO.ite ?_ ?_
      | refine LeO.bind ?_ (fun _ => ?_)
theorem tag_Form_p.mono : ∀ a0 a1 k, LeO (tag_Form_p.f k a0 a1) (tag_Form_p.f (k + 1) a0 a1) := by
  intro a0 a1 k
  have ih0 := tag_Form_p.mono_l k
  unfold tag_Form_p.f
  repeat' first
      | (with_reducible exact ih0 _ _ _)
      | (with_reducible exact LeO.refl _)
      | (with_reducible exact LeO.none _)
      | (with_reducible refine LeO.ite ?_ ?_)
      | (with_reducible refine LeO.bind ?_ (fun _ => ?_))
      | exact ih0 _ _ _
      | exact LeO.none _
      | refine LeO.ite ?_ ?_
      | refine LeO.bind ?_ (fun _ => ?_)
def tag_Form_p.T5 : Bool × List (List Nat × List Nat) := (true, [([], []), ([0], [0]), ([1], [1]), ([2], [2]), ([], []), ([4], [4]), ([3, 5], [3, 5]), ([6], [6]), ([7, 2, 0, 1, 2, 3, 4, 5, 6, 7], [7]), ([8, 0, 1, 2, 3, 4, 5, 6, 7, 8], [])])
def tag_Form_p.B5 : List Nat := [0, 1, 3, 7, 0, 16, 63, 127, 255, 511]
theorem tag_Form_p.tab5 : rtab .any (opsOf Tryz.f41 5) = tag_Form_p.T5 := by kernel_rfl
theorem tag_Form_p.bits5 : waitsOk tag_Form_p.T5.2 tag_Form_p.B5 = true := by kernel_rfl
set_option maxHeartbeats 8000000 in
set_option maxRecDepth 100000 in
theorem tag_Form_p.calls (k : Nat) (a0_0 : Int) (a0_1 : ByteArray) (r1 : ByteArray) (r2 : Int) (w : World) (hT_ : Aside0 (Tabs_ w)) (h : tag_Form_p.f k a0_0 a0_1 = some (r1, r2)) :
    Calls Tryz.prog 41 #[.agg #[.int .i64 a0_0, .string a0_1]] w fun e w' => e = .returned (.tuple #[.string r1, .int .i64 r2]) ∧ Below w.heap.size w w' := by
  have hu74 := Tryz.underlying74
  have HB := Aside0.mk (Below.refl w.heap.size w)
  have H : (if a0_0 < 1 then (tag_Form_p.j0 k true a0_0 a0_1) else (tag_Form_p.j0 k (decide (a0_0 > 99999)) a0_0 a0_1)) = some (r1, r2) := h
  clear h
  have HC2 := Aside0.mk H
  clear H
  go_enter Tryz.func41, Tryz.ntmps41
  go_upto_region 1 with (first | ((with_reducible refine gate_dst (N := 1) rfl ?_); refine box_event ?hg (N := 1) ?hd (cs := #[.int .i64 a0_0, .string a0_1]) (t := 74) ?hr ?_; (case hd => rfl); (case hg => rfl); (case hr => first | (go_simp; done) | (go_simp; rfl)); intro gb101 hg w3 hbox hb; have n0_ := Aside0.mk (below_step (by repeat (first | (with_reducible first | exact HB.out | apply below_alloc | apply pw_below_drewN | apply below_drew1) | exact HB.out)) hb); have n1_ := Aside0.mk (hbox); have n2_ := Aside0.mk ((by rw [hg]; exact (below_size (by repeat (first | (with_reducible first | exact HB.out | apply below_alloc | apply pw_below_drewN | apply below_drew1) | exact HB.out))) : w.heap.size ≤ gb101)); have n3_ := Aside0.mk ((by rw [hg]; exact (below_size (by repeat (first | (with_reducible first | exact HB.out | apply below_alloc | apply pw_below_drewN | apply below_drew1) | exact HB.out))) : w.heap.size ≤ gb101)); clear HB; have HB := n0_; have BK101 := n1_; have GW101 := n2_; have GE101 := n3_; clear n0_ n1_ n2_ n3_; clear hb hbox hg))
  (try simp only [Act.put, List.setIfInBounds_toArray, List.set_cons_zero, List.set_cons_succ])
  go_cut [4] (fun v4 wc => ∃ (kq : Nat) (x4_1 : Bool), v4 = .bool x4_1 ∧ Aside0 (tag_Form_p.j0 kq x4_1 a0_0 a0_1 = some (r1, r2)) ∧ Aside0 (kq ≤ k) ∧ Aside0 (wc.heap[gb101]? = some (.cells #[.int .i64 a0_0, .string a0_1] 74 (0, 0))) ∧ Aside0 (Below w.heap.size w wc))
  case first =>
    have H := HC2.out
    clear HC2
    by_cases c4 : a0_0 < 1
    · rw [if_pos c4] at H
      have c4b0 : decide (a0_0 < 1) = true := decide_eq_true c4
      clear c4
      (first | rw [c4b0] | (simp only [i64_w, i32_w]; rw [c4b0]) | skip)
      have H' := Aside0.mk H
      clear H
      have hcz5_0 : w3.cell? ⟨gb101, 0, none⟩ = some (.int .i64 a0_0) := (blk_cell BK101.out 0).trans rfl
      have hcz5_1 : w3.cell? ⟨gb101, 1, none⟩ = some (.string a0_1) := (blk_cell BK101.out 1).trans rfl
      have hfz5_0 := blk_frozen BK101.out 0
      have hfz5_1 := blk_frozen BK101.out 1
      go_wp2
      go_meet
      case rel => exact ⟨_, (true), (by first | rfl | (simp; done) | (simp [*]; done)), H', ⟨by first | omega | exact Nat.le_refl _⟩, ⟨by (with_reducible repeat (first | refine blk_drewN ?_ _ | refine blk_drew ?_ | refine blk_alloc ?_ _)); exact BK101.out⟩, ⟨by repeat (first | (with_reducible first | exact HB.out | apply below_alloc | apply pw_below_drewN | apply below_drew1 | refine below_set ?_ GE101.out) | exact HB.out)⟩⟩
    · rw [if_neg c4] at H
      have c4b0 : decide (a0_0 < 1) = false := decide_eq_false c4
      clear c4
      (first | rw [c4b0] | (simp only [i64_w, i32_w]; rw [c4b0]) | skip)
      have H' := Aside0.mk H
      clear H
      have hcz6_0 : w3.cell? ⟨gb101, 0, none⟩ = some (.int .i64 a0_0) := (blk_cell BK101.out 0).trans rfl
      have hcz6_1 : w3.cell? ⟨gb101, 1, none⟩ = some (.string a0_1) := (blk_cell BK101.out 1).trans rfl
      have hfz6_0 := blk_frozen BK101.out 0
      have hfz6_1 := blk_frozen BK101.out 1
      go_wp2
      go_meet
      case rel => exact ⟨_, (decide (a0_0 > 99999)), (by first | rfl | (simp; done) | (simp [*]; done)), H', ⟨by first | omega | exact Nat.le_refl _⟩, ⟨by (with_reducible repeat (first | refine blk_drewN ?_ _ | refine blk_drew ?_ | refine blk_alloc ?_ _)); exact BK101.out⟩, ⟨by repeat (first | (with_reducible first | exact HB.out | apply below_alloc | apply pw_below_drewN | apply below_drew1 | refine below_set ?_ GE101.out) | exact HB.out)⟩⟩
  case rest =>
    clear HC2
    try clear p2
    try clear c4
    try clear c4b0
    try clear hcz5_0
    try clear hcz5_1
    try clear hcz6_0
    try clear hcz6_1
    try clear hfz5_0
    try clear hfz5_1
    try clear hfz6_0
    try clear hfz6_1
    obtain ⟨kq, x4_1, rfl, HA, HJ1, BK101, HB⟩ := hcut
    cases kq with
    | zero => exact absurd HA.out (by simp [tag_Form_p.j0])
    | succ kj1 =>
      have H := HA.out
      clear HA
      simp only [tag_Form_p.j0] at H
      by_cases c7 : x4_1 = true
      · subst c7
        have H1 : (some ((⟨#[]⟩ : ByteArray), 80)) = some (r1, r2) := by rw [if_pos rfl] at H; exact H
        clear H
        have H := H1
        clear H1
        simp only [Option.some.injEq, Prod.mk.injEq] at H
        obtain ⟨rfl, rfl⟩ := H
        go_wp2
        go_ret2
        exact ⟨by first | rfl | (simp [errW_none, errW_some] <;> rfl) | (simp [*, errW_none, errW_some] <;> rfl), by repeat (first | (with_reducible first | exact HB.out | apply below_alloc | apply pw_below_drewN | apply below_drew1 | refine below_set ?_ GE101.out) | exact HB.out)⟩
      · replace c7 := Bool.eq_false_iff.mpr c7
        subst c7
        have H1 : ((tag_value.f a0_1).bind fun t102 => (if t102 = true then ((strconv_Itoa.f a0_0).bind fun t103 => (if t103.size + 1 ≤ 9223372036854775807 then (if (t103 ++ (⟨#[61]⟩ : ByteArray)).size + a0_1.size ≤ 9223372036854775807 then (if ((t103 ++ (⟨#[61]⟩ : ByteArray)) ++ a0_1).size + 1 ≤ 9223372036854775807 then (some (((t103 ++ (⟨#[61]⟩ : ByteArray)) ++ a0_1) ++ (⟨#[1]⟩ : ByteArray), 0)) else (none)) else (none)) else (none))) else (some ((⟨#[]⟩ : ByteArray), 81)))) = some (r1, r2) := by rw [if_neg (show ¬ (false = true) by decide)] at H; exact H
        clear H
        have H := H1
        clear H1
        replace H := Option.bind_eq_some_iff.mp H
        obtain ⟨t102, A80, H⟩ := H
        replace H : (if t102 = true then ((strconv_Itoa.f a0_0).bind fun t103 => (if t103.size + 1 ≤ 9223372036854775807 then (if (t103 ++ (⟨#[61]⟩ : ByteArray)).size + a0_1.size ≤ 9223372036854775807 then (if ((t103 ++ (⟨#[61]⟩ : ByteArray)) ++ a0_1).size + 1 ≤ 9223372036854775807 then (some (((t103 ++ (⟨#[61]⟩ : ByteArray)) ++ a0_1) ++ (⟨#[1]⟩ : ByteArray), 0)) else (none)) else (none)) else (none))) else (some ((⟨#[]⟩ : ByteArray), 81))) = some (r1, r2) := H
        have A8 := Aside0.mk A80
        clear A80
        by_cases c9 : t102 = true
        · subst c9
          have H1 : ((strconv_Itoa.f a0_0).bind fun t103 => (if t103.size + 1 ≤ 9223372036854775807 then (if (t103 ++ (⟨#[61]⟩ : ByteArray)).size + a0_1.size ≤ 9223372036854775807 then (if ((t103 ++ (⟨#[61]⟩ : ByteArray)) ++ a0_1).size + 1 ≤ 9223372036854775807 then (some (((t103 ++ (⟨#[61]⟩ : ByteArray)) ++ a0_1) ++ (⟨#[1]⟩ : ByteArray), 0)) else (none)) else (none)) else (none))) = some (r1, r2) := by rw [if_pos rfl] at H; exact H
          clear H
          have H := H1
          clear H1
          replace H := Option.bind_eq_some_iff.mp H
          obtain ⟨t103, A100, H⟩ := H
          replace H : (if t103.size + 1 ≤ 9223372036854775807 then (if (t103 ++ (⟨#[61]⟩ : ByteArray)).size + a0_1.size ≤ 9223372036854775807 then (if ((t103 ++ (⟨#[61]⟩ : ByteArray)) ++ a0_1).size + 1 ≤ 9223372036854775807 then (some (((t103 ++ (⟨#[61]⟩ : ByteArray)) ++ a0_1) ++ (⟨#[1]⟩ : ByteArray), 0)) else (none)) else (none)) else (none)) = some (r1, r2) := H
          have A10 := Aside0.mk A100
          clear A100
          by_cases c11 : t103.size + 1 ≤ 9223372036854775807
          · rw [if_pos c11] at H
            have c11b0 := eq_true c11
            have c11b1 : decide (t103.size + 1 ≤ 9223372036854775807) = true := decide_eq_true c11
            try have c11b2 : (9223372036854775807 < t103.size + 1) = False := eq_false (Nat.not_lt.2 c11)
            try (have c11b3 := c11; simp only [ByteArray.size_append, sz_lit, List.length_cons, List.length_nil, Nat.zero_add] at c11b3; have c11b4 := eq_false (Nat.not_lt.2 c11b3))
            by_cases c12 : (t103 ++ (⟨#[61]⟩ : ByteArray)).size + a0_1.size ≤ 9223372036854775807
            · rw [if_pos c12] at H
              have c12b0 := eq_true c12
              have c12b1 : decide ((t103 ++ (⟨#[61]⟩ : ByteArray)).size + a0_1.size ≤ 9223372036854775807) = true := decide_eq_true c12
              try have c12b2 : (9223372036854775807 < (t103 ++ (⟨#[61]⟩ : ByteArray)).size + a0_1.size) = False := eq_false (Nat.not_lt.2 c12)
              try (have c12b3 := c12; simp only [ByteArray.size_append, sz_lit, List.length_cons, List.length_nil, Nat.zero_add] at c12b3; have c12b4 := eq_false (Nat.not_lt.2 c12b3))
              by_cases c13 : ((t103 ++ (⟨#[61]⟩ : ByteArray)) ++ a0_1).size + 1 ≤ 9223372036854775807
              · rw [if_pos c13] at H
                have c13b0 := eq_true c13
                have c13b1 : decide (((t103 ++ (⟨#[61]⟩ : ByteArray)) ++ a0_1).size + 1 ≤ 9223372036854775807) = true := decide_eq_true c13
                try have c13b2 : (9223372036854775807 < ((t103 ++ (⟨#[61]⟩ : ByteArray)) ++ a0_1).size + 1) = False := eq_false (Nat.not_lt.2 c13)
                try (have c13b3 := c13; simp only [ByteArray.size_append, sz_lit, List.length_cons, List.length_nil, Nat.zero_add] at c13b3; have c13b4 := eq_false (Nat.not_lt.2 c13b3))
                simp only [Option.some.injEq, Prod.mk.injEq] at H
                obtain ⟨rfl, rfl⟩ := H
                have hcz14_0 : wc.cell? ⟨gb101, 0, none⟩ = some (.int .i64 a0_0) := (blk_cell BK101.out 0).trans rfl
                have hcz14_1 : wc.cell? ⟨gb101, 1, none⟩ = some (.string a0_1) := (blk_cell BK101.out 1).trans rfl
                have hfz14_0 := blk_frozen BK101.out 0
                have hfz14_1 := blk_frozen BK101.out 1
                try go_wp2_with (first | ((with_reducible refine gate_callee (f := 66) rfl ?_); refine goesL_ (some 16) rfl rfl Tryz.func66 (by kernel_rfl) rfl #[.string a0_1] rfl (by (try simp only [List.map_toArray, List.map_cons, List.map_nil]); first | done | rfl | (simp only [List.length_drop, List.length_take]; rfl)) ?_; (with_reducible refine (tag_value.calls a0_1 true _ A8.out).mono ?_); rintro e w15 ⟨rfl, hb⟩; refine ⟨_, rfl, ?_⟩; have n0_ := Aside0.mk (blk_below (g := gb101) (o := .cells #[.int .i64 a0_0, .string a0_1] 74 (0, 0)) (by (with_reducible repeat (first | refine blk_drewN ?_ _ | refine blk_drew ?_ | refine blk_alloc ?_ _)); exact BK101.out) hb); have n1_ := Aside0.mk (below_step (by repeat (first | (with_reducible first | exact HB.out | apply below_alloc | apply pw_below_drewN | apply below_drew1 | refine below_set ?_ GE101.out) | exact HB.out)) hb); clear BK101; clear HB; have BK101 := n0_; have HB := n1_; clear n0_ n1_; (try clear hb); (try clear hb2); (try clear hk); (try clear hi)))
                have n0_ := Aside0.mk (blk_drew BK101.out)
                have n1_ := Aside0.mk (below_drew1 HB.out)
                clear BK101
                clear HB
                have BK101 := n0_
                have HB := n1_
                clear n0_ n1_
                refine start_ (n := 10) (S := fun w' => w'.cell? ⟨gb101, 0, none⟩ = some (.int .i64 a0_0) ∧ w'.cell? ⟨gb101, 1, none⟩ = some (.string a0_1)) (ds := []) #[false, false, false, false, false, false, false, false, false, false] (by kernel_rfl) rfl rfl ⟨(blk_cell BK101.out 0).trans rfl, (blk_cell BK101.out 1).trans rfl⟩ (fun hHeld => ?_); refine with_tabW tag_Form_p.tab5 tag_Form_p.bits5 (fun HT_ HW_ => ?_)
                generalize w15.drew = w16 at BK101 HB hHeld ⊢
                refine pure_ (i := 0) (N := some 18) (v := ?_) (a' := ?_) #[true, false, false, false, false, false, false, false, false, false] rfl rfl (any_of HT_.out (by kernel_rfl)) (fun _ _ _ h => h) (Or.inl ⟨by rfl, ?_⟩) ?_ ?_
                rotate_left
                · intro w'
                  go_simp
                  with_reducible rfl
                rotate_left
                · simp only [Act.put, List.setIfInBounds_toArray, List.set_cons_zero, List.set_cons_succ, i64_w, i32_w]
                  rfl
                refine pure_ (i := 4) (N := some 22) (v := ?_) (a' := ?_) #[true, false, false, false, true, false, false, false, false, false] rfl rfl (any_of HT_.out (by kernel_rfl)) (fun _ _ _ h => h) (Or.inl ⟨by rfl, ?_⟩) ?_ ?_
                rotate_left
                · intro w'
                  go_simp
                  with_reducible rfl
                rotate_left
                · simp only [Act.put, List.setIfInBounds_toArray, List.set_cons_zero, List.set_cons_succ, i64_w, i32_w]
                  rfl
                refine take_ (i := 1) (N := some 19) (v := ?_) (a' := ?_) #[true, true, false, false, true, false, false, false, false, false] rfl rfl (take_ofW HT_.out HW_.out (by kernel_rfl)) (fun _ _ _ h => h) (Or.inl ⟨by rfl, ?_⟩) hHeld ?_ ?_
                rotate_left
                · rintro w' ⟨s0, s1⟩
                  go_simp
                  with_reducible rfl
                rotate_left
                · simp only [Act.put, List.setIfInBounds_toArray, List.set_cons_zero, List.set_cons_succ, i64_w, i32_w]
                  rfl
                refine take_ (i := 5) (N := some 23) (v := ?_) (a' := ?_) #[true, true, false, false, true, true, false, false, false, false] rfl rfl (take_ofW HT_.out HW_.out (by kernel_rfl)) (fun _ _ _ h => h) (Or.inl ⟨by rfl, ?_⟩) hHeld ?_ ?_
                rotate_left
                · rintro w' ⟨s0, s1⟩
                  go_simp
                  with_reducible rfl
                rotate_left
                · simp only [Act.put, List.setIfInBounds_toArray, List.set_cons_zero, List.set_cons_succ, i64_w, i32_w]
                  rfl
                refine one_ (i := 2) (N := some 20) #[true, true, true, false, true, true, false, false, false, false] rfl rfl (one_of HT_.out (by kernel_rfl)) (by decide) (fun K hK => ?_)
                refine goes_ Tryz.func67 (by kernel_rfl) rfl #[.int .i64 a0_0] (by rfl) rfl rfl (by (try simp only [List.map_toArray, List.map_cons, List.map_nil]); first | done | rfl | (simp only [List.length_drop, List.length_take]; rfl)) ?_
                with_reducible refine (strconv_Itoa.calls a0_0 t103 _ ?side1 A10.out).mono ?_
                (case side1 => exact Aside0.mk (Tabs_.below hT_.out (by repeat (first | (with_reducible first | exact HB.out | apply below_alloc | apply pw_below_drewN | apply below_drew1 | refine below_set ?_ GE101.out) | exact HB.out))))
                rintro e w17 ⟨rfl, hb⟩
                refine ⟨_, rfl, ?_⟩
                have n0_ := Aside0.mk (blk_below (g := gb101) (o := .cells #[.int .i64 a0_0, .string a0_1] 74 (0, 0)) (by (with_reducible repeat (first | refine blk_drewN ?_ _ | refine blk_drew ?_ | refine blk_alloc ?_ _)); exact BK101.out) hb)
                have n1_ := Aside0.mk (below_step (by repeat (first | (with_reducible first | exact HB.out | apply below_alloc | apply pw_below_drewN | apply below_drew1 | refine below_set ?_ GE101.out) | exact HB.out)) hb)
                clear BK101
                clear HB
                have BK101 := n0_
                have HB := n1_
                clear n0_ n1_
                (try clear hb)
                (try clear hb2)
                (try clear hk)
                (try clear hi)
                refine hK.out _ _ ⟨(blk_cell BK101.out 0).trans rfl, (blk_cell BK101.out 1).trans rfl⟩ (fun hHeld => ?_)
                clear hK K
                refine norm_ (a' := ?_) ?_ ?_
                rotate_left
                · show Act.put _ (some 20) _ = _
                  simp only [Act.put, List.setIfInBounds_toArray, List.set_cons_zero, List.set_cons_succ, i64_w, i32_w]
                  rfl
                refine pure_ (i := 3) (N := some 21) (v := ?_) (a' := ?_) #[true, true, true, true, true, true, false, false, false, false] rfl rfl (any_of HT_.out (by kernel_rfl)) (fun _ _ _ h => h) (Or.inl ⟨by rfl, ?_⟩) ?_ ?_
                rotate_left
                · intro w'
                  go_simp
                  with_reducible rfl
                rotate_left
                · simp only [Act.put, List.setIfInBounds_toArray, List.set_cons_zero, List.set_cons_succ, i64_w, i32_w]
                  rfl
                refine pure_ (i := 6) (N := some 24) (v := ?_) (a' := ?_) #[true, true, true, true, true, true, true, false, false, false] rfl rfl (any_of HT_.out (by kernel_rfl)) (fun _ _ _ h => h) (Or.inl ⟨by rfl, ?_⟩) ?_ ?_
                rotate_left
                · intro w'
                  go_simp
                  with_reducible rfl
                rotate_left
                · simp only [Act.put, List.setIfInBounds_toArray, List.set_cons_zero, List.set_cons_succ, i64_w, i32_w]
                  rfl
                refine pure_ (i := 7) (N := some 25) (v := ?_) (a' := ?_) #[true, true, true, true, true, true, true, true, false, false] rfl rfl (any_of HT_.out (by kernel_rfl)) (fun _ _ _ h => h) (Or.inl ⟨by rfl, ?_⟩) ?_ ?_
                rotate_left
                · intro w'
                  go_simp
                  with_reducible rfl
                rotate_left
                · simp only [Act.put, List.setIfInBounds_toArray, List.set_cons_zero, List.set_cons_succ, i64_w, i32_w]
                  rfl
                refine pure_ (i := 8) (N := some 2) (v := ?_) (a' := ?_) #[true, true, true, true, true, true, true, true, true, false] rfl rfl (any_of HT_.out (by kernel_rfl)) (fun _ _ _ h => h) (Or.inl ⟨by rfl, ?_⟩) ?_ ?_
                rotate_left
                · intro w'
                  go_simp
                  with_reducible rfl
                rotate_left
                · simp only [Act.put, List.setIfInBounds_toArray, List.set_cons_zero, List.set_cons_succ, i64_w, i32_w]
                  rfl
                refine pure_ (i := 9) (N := some 3) (v := ?_) (a' := ?_) #[true, true, true, true, true, true, true, true, true, true] rfl rfl (any_of HT_.out (by kernel_rfl)) (fun _ _ _ h => h) (Or.inl ⟨by rfl, ?_⟩) ?_ ?_
                rotate_left
                · intro w'
                  go_simp
                  with_reducible rfl
                rotate_left
                · simp only [Act.put, List.setIfInBounds_toArray, List.set_cons_zero, List.set_cons_succ, i64_w, i32_w]
                  rfl
                refine done_ (done_of HT_.out (by kernel_rfl)) ?_
                try go_wp2
                go_ret2
                exact ⟨by first | rfl | (simp [errW_none, errW_some] <;> rfl) | (simp [*, errW_none, errW_some] <;> rfl), by repeat (first | (with_reducible first | exact HB.out | apply below_alloc | apply pw_below_drewN | apply below_drew1 | refine below_set ?_ GE101.out) | exact HB.out)⟩
              · rw [if_neg c13] at H
                exact absurd H (by simp)
            · rw [if_neg c12] at H
              exact absurd H (by simp)
          · rw [if_neg c11] at H
            exact absurd H (by simp)
        · replace c9 := Bool.eq_false_iff.mpr c9
          subst c9
          have H1 : (some ((⟨#[]⟩ : ByteArray), 81)) = some (r1, r2) := by rw [if_neg (show ¬ (false = true) by decide)] at H; exact H
          clear H
          have H := H1
          clear H1
          simp only [Option.some.injEq, Prod.mk.injEq] at H
          obtain ⟨rfl, rfl⟩ := H
          have hcz18_0 : wc.cell? ⟨gb101, 0, none⟩ = some (.int .i64 a0_0) := (blk_cell BK101.out 0).trans rfl
          have hcz18_1 : wc.cell? ⟨gb101, 1, none⟩ = some (.string a0_1) := (blk_cell BK101.out 1).trans rfl
          have hfz18_0 := blk_frozen BK101.out 0
          have hfz18_1 := blk_frozen BK101.out 1
          go_wp2_with (first | ((with_reducible refine gate_callee (f := 66) rfl ?_); refine goesL_ (some 16) rfl rfl Tryz.func66 (by kernel_rfl) rfl #[.string a0_1] rfl (by (try simp only [List.map_toArray, List.map_cons, List.map_nil]); first | done | rfl | (simp only [List.length_drop, List.length_take]; rfl)) ?_; (with_reducible refine (tag_value.calls a0_1 false _ A8.out).mono ?_); rintro e w19 ⟨rfl, hb⟩; refine ⟨_, rfl, ?_⟩; have n0_ := Aside0.mk (blk_below (g := gb101) (o := .cells #[.int .i64 a0_0, .string a0_1] 74 (0, 0)) (by (with_reducible repeat (first | refine blk_drewN ?_ _ | refine blk_drew ?_ | refine blk_alloc ?_ _)); exact BK101.out) hb); have n1_ := Aside0.mk (below_step (by repeat (first | (with_reducible first | exact HB.out | apply below_alloc | apply pw_below_drewN | apply below_drew1 | refine below_set ?_ GE101.out) | exact HB.out)) hb); clear BK101; clear HB; have BK101 := n0_; have HB := n1_; clear n0_ n1_; (try clear hb); (try clear hb2); (try clear hk); (try clear hi)))
          go_ret2
          exact ⟨by first | rfl | (simp [errW_none, errW_some] <;> rfl) | (simp [*, errW_none, errW_some] <;> rfl), by repeat (first | (with_reducible first | exact HB.out | apply below_alloc | apply pw_below_drewN | apply below_drew1 | refine below_set ?_ GE101.out) | exact HB.out)⟩
def tag_Form.f (a0_0 : Int) (a0_1 : ByteArray) : Option (ByteArray × Int) := if a0_1.size ≤ 9223372036854775807 then some (⟨(formL a0_0 a0_1.data.toList).1.toArray⟩, ((formL a0_0 a0_1.data.toList).2 : Int)) else none
theorem form_bytes (n : Int) (v : ByteArray) : ((digitsB n ++ (⟨#[61]⟩ : ByteArray)) ++ v) ++ (⟨#[1]⟩ : ByteArray) = ⟨(digitsN n.toNat ++ 61 :: (v.data.toList ++ [1])).toArray⟩ := by
  apply ba_ext
  simp [digitsB]
theorem tag_Form_eq (n : Int) (v : ByteArray) (hv : v.size ≤ 9223372036854775807) : tag_Form_p.f 1 n v = tag_Form.f n v := by
  unfold tag_Form_p.f tag_Form.f formL
  rw [if_pos hv]
  simp only [tag_Form_p.j0]
  by_cases c1 : n < 1
  · rw [if_pos c1]; simp [c1]
  rw [if_neg c1]
  by_cases c2 : n > 99999
  · rw [decide_eq_true c2]; simp [c2]
  rw [decide_eq_false c2, if_neg (show ¬ (n < 1 ∨ 99999 < n) by omega), if_neg (show ¬ (false = true) by simp)]
  unfold tag_value.f
  rw [if_pos hv]
  simp only [Option.bind_some]
  by_cases c3 : valueL v.data.toList = true
  · rw [if_pos c3, if_pos c3]
    unfold strconv_Itoa.f
    rw [if_pos (by omega)]
    simp only [Option.bind_some]
    have h20 := digitsB_20 n (by omega)
    have h512 : v.size ≤ 512 := by
      have g2 := c3
      unfold valueL at g2
      simp only [Bool.and_eq_true, decide_eq_true_eq] at g2
      exact g2.2.1
    have z1 : (⟨#[61]⟩ : ByteArray).size = 1 := rfl
    rw [if_pos (by omega), if_pos (by rw [ByteArray.size_append]; omega), if_pos (by rw [ByteArray.size_append, ByteArray.size_append]; omega), form_bytes]
    rfl
  · rw [if_neg c3, if_neg c3]; rfl
theorem tag_Form.calls (a0_0 : Int) (a0_1 : ByteArray) (r1 : ByteArray) (r2 : Int) (w : World) (hT_ : Aside0 (Tabs_ w)) (h : tag_Form.f a0_0 a0_1 = some (r1, r2)) :
    Calls Tryz.prog 41 #[.agg #[.int .i64 a0_0, .string a0_1]] w fun e w' => e = .returned (.tuple #[.string r1, .int .i64 r2]) ∧ Below w.heap.size w w' := by
  by_cases c : a0_1.size ≤ 9223372036854775807
  · exact tag_Form_p.calls 1 a0_0 a0_1 r1 r2 w hT_ ((tag_Form_eq a0_0 a0_1 c).trans h)
  · unfold tag_Form.f at h; rw [if_neg c] at h; cases h
end Go.Proofs.YtgfigkfcmkdjdaaGreatDoor.B
end
section
namespace Go.Proofs.YtgfigkfcmkdjdaaGreatDoor.B
open Go.RowKit Go.Proofs.YtgfigkfcmkdjdaaGreatDoorW.PrintWords Go.Proofs.YtgfigkfcmkdjdaaGreatDoorW.PrintLast Go.Proofs.YtgfigkfcmkdjdaaGreatDoorW.PrintMore
attribute [local go_sem] max2_int min2_int max_two min_two max_three min_three max_four min_four   -- for this text's walks alone
set_option linter.unusedVariables false
set_option linter.unusedSimpArgs false
def pairF (x : S74) : Int × List UInt8 := (x.f0, x.f1.data.toList)
def smallF (l : List S74) : Bool := l.all fun x => decide (x.f1.size ≤ 9223372036854775807)
def tag_Forms.f (l0 : List S74) : Option (ByteArray × Int) := if smallF l0 = true then some (⟨(allFormsL (l0.map pairF)).1.toArray⟩, ((allFormsL (l0.map pairF)).2 : Int)) else none
def FormsIs (r : List UInt8 × Nat) (w : World) (e : Ending) (w' : World) : Prop := e = .returned (.tuple #[.string ⟨r.1.toArray⟩, .int .i64 (r.2 : Int)]) ∧ Below w.heap.size w w'
theorem FormsIs.mk_ {r : List UInt8 × Nat} {w w' : World} {b : ByteArray} {e : Nat} (h1 : b.data.toList = r.1) (h2 : e = r.2) (hw : Below w.heap.size w w') : FormsIs r w (.returned (.tuple #[.string b, .int .i64 (e : Int)])) w' := by
  subst h2; unfold FormsIs; rw [← h1]; exact ⟨rfl, hw⟩
theorem byteCells_append (a b : List UInt8) : Lib.byteCells (a ++ b) = Lib.byteCells a ++ Lib.byteCells b := by simp [Lib.byteCells]
theorem byteCells_len (a : List UInt8) : (Lib.byteCells a).length = a.length := by simp [Lib.byteCells]
theorem rdFF (l : List S74) (k : Nat) (h : k < l.length) : rd_T74 l (k : Int) = l[k] := by simp [rd_T74, h]
theorem BuilderAt.keep_ {T e : TypeId} {B b : Nat} {p : Value} {bs : List Value} {w w1 : World} {o : Obj} (h : Lib.BuilderAt T e B b p bs w) (hb : Below (w.alloc o).heap.size (w.alloc o) w1) : Lib.BuilderAt T e B b p bs w1 := by
  have hlt := h.lt
  obtain ⟨hB, v, hbk, hown, hne⟩ := h
  refine ⟨hB, v, ?_, ?_, hne⟩
  · rw [hb.block b (by rw [World.size_alloc]; omega), Below.heap_alloc _ _ _ hlt]; exact hbk
  · exact pw_own_below (own_alloc hown o) hb
set_option maxHeartbeats 4000000 in
set_option maxRecDepth 100000 in
theorem tag_Forms_walk (A0 : Option Addr) (c0 : Nat) (l0 : List S74) (w : World) (hT_ : Aside0 (Tabs_ w)) (hr0 : Kd.C k74 w A0 l0.length l0) (hc0 : l0.length ≤ c0) (hz : smallF l0 = true) :
    Calls Tryz.prog 15 #[.slice A0 l0.length c0] w (FormsIs (allFormsL (l0.map pairF)) w) := by
  have HR := Aside0.mk hr0
  clear hr0
  by_cases h64 : 64 < l0.length
  · have HF := Aside0.mk (show allFormsL (l0.map pairF) = ([], 3) by unfold allFormsL; rw [if_pos (by simpa using h64)])
    have t1 : decide ((64 : Int) < (l0.length : Int)) = true := by rw [decide_eq_true_eq]; omega
    have t2 : decide (64 < l0.length) = true := decide_eq_true h64
    clear hz
    go_enter Tryz.func15, Tryz.ntmps15
    go_wp2
    go_ret2
    rw [HF.out]
    exact FormsIs.mk_ (e := 3) rfl rfl (Below.refl _ _)
  · have HF := Aside0.mk (show allFormsL (l0.map pairF) = formsL (l0.map pairF) by unfold allFormsL; rw [if_neg (by simpa using h64)])
    have t1 : decide ((64 : Int) < (l0.length : Int)) = false := by rw [decide_eq_false_iff_not]; omega
    have t2 : decide (64 < l0.length) = false := decide_eq_false h64
    have HZ := Aside0.mk hz
    have hn64 : l0.length ≤ 64 := by omega
    clear hz h64
    go_enter Tryz.func15, Tryz.ntmps15
    go_wp2
    go_loopw [14] (fun v14 wr => ∃ (k : Nat) (acc : List UInt8), v14 = .int .i64 (k : Int) ∧ k ≤ l0.length ∧ Aside0 (acc.length ≤ 519 * k) ∧ Aside0 (Lib.IsBuilder 72 5 w.heap.size w.heap.size (Lib.byteCells acc) wr) ∧ Aside0 (Below w.heap.size w wr) ∧ Aside0 (formsAcc acc ((l0.map pairF).drop k) = formsL (l0.map pairF))) (fun v14 _ => l0.length - (intOf v14).toNat)
    case atStart => exact ⟨0, [], rfl, Nat.zero_le _, ⟨by simp⟩, ⟨Lib.fresh_isBuilder _ _ _⟩, ⟨(Below.refl _ _).alloc (Nat.le_refl _) _⟩, ⟨formsAcc_nil _⟩⟩
    case round =>
      obtain ⟨k, acc, rfl, hk, hacc, HB, HW, HA⟩ := hrel
      have hsz := HW.out.size
      by_cases hlt : k < l0.length
      · have t3 : decide (k < l0.length) = true := decide_eq_true hlt
        obtain ⟨ad, e144, hx0, hx1⟩ := at_T74 HR.out (k : Int) (by omega) (by omega)
        cases e144
        replace hx0 := (HW.out.cell (World.block_lt_of_cell? w _ hx0)).trans hx0
        replace hx1 := (HW.out.cell (World.block_lt_of_cell? w _ hx1)).trans hx1
        rw [rdFF l0 k hlt] at hx0 hx1
        rw [Int.toNat_natCast] at hx0 hx1
        have hsm : l0[k].f1.size ≤ 9223372036854775807 := by
          have := List.all_eq_true.1 HZ.out l0[k] (List.getElem_mem hlt); simpa using this
        have hdr : (l0.map pairF).drop k = pairF l0[k] :: (l0.map pairF).drop (k + 1) := by
          rw [List.drop_eq_getElem_cons (by simpa using hlt)]; simp
        rw [hdr] at HA
        have hcall : ∀ W, Aside0 (Tabs_ W) → Calls Tryz.prog 41 #[.agg #[.int .i64 l0[k].f0, .string l0[k].f1]] W fun e w' => e = .returned (.tuple #[.string ⟨(formL l0[k].f0 l0[k].f1.data.toList).1.toArray⟩, .int .i64 ((formL l0[k].f0 l0[k].f1.data.toList).2 : Int)]) ∧ Below W.heap.size W w' :=
          fun W hT => tag_Form.calls l0[k].f0 l0[k].f1 _ _ W hT (by unfold tag_Form.f; rw [if_pos hsm])
        have HC := Aside0.mk hcall
        clear hcall hdr hsm
        have hpf : pairF l0[k] = (l0[k].f0, l0[k].f1.data.toList) := rfl
        rw [hpf] at HA
        clear hpf
        have hfl := formL_len l0[k].f0 l0[k].f1.data.toList
        generalize l0[k].f0 = tg at *
        generalize l0[k].f1 = vl at *
        by_cases he : (formL tg vl.data.toList).2 = 0
        · have HA2 := Aside0.mk ((formsAcc_step acc (tg, vl.data.toList) _ he).symm.trans HA.out)
          have HE := Aside0.mk he
          clear HA he
          go_wp2_with (go_at_call 41; refine (HC.out _ ⟨hT_.out.below (HW.out.alloc hsz _)⟩).mono ?_; rintro e w1 ⟨rfl, hb1⟩; rw [HE.out]; have HB1 := Aside0.mk hb1; clear hb1)
          have HW1 := Aside0.mk ((HW.out.alloc hsz _).trans (HB1.out.mono (by rw [World.size_alloc]; omega)))
          have HBld := Aside0.mk (HB.out.imp (fun h => BuilderAt.keep_ h HB1.out) (fun h => BuilderAt.keep_ h HB1.out))
          clear HB HB1 HC
          have hsz1 := HW1.out.size
          generalize (formL tg vl.data.toList).1 = fl at *
          go_wp2_with (go_at_call 42; refine (Bld_WriteString w.heap.size w.heap.size (Lib.byteCells acc) ⟨fl.toArray⟩ _ HBld.out (by rw [byteCells_len, sz_lit]; have := hacc.out; omega) hsz1).mono ?_; rintro e w2 ⟨rfl, hb2, hb3⟩; have HB2 := Aside0.mk hb2; have HW2 := Aside0.mk hb3; clear hb2 hb3)
          go_roundw
          case rel => exact ⟨k + 1, acc ++ fl, by simp, by omega, ⟨by rw [List.length_append]; have := hacc.out; omega⟩, ⟨.inr (by rw [byteCells_append]; exact HB2.out)⟩, ⟨HW1.out.trans HW2.out⟩, HA2⟩
          case measure => simp [intOf]; omega
        · have HG := Aside0.mk ((formsAcc_bad acc (tg, vl.data.toList) _ he).symm.trans HA.out)
          have t4 : ((((formL tg vl.data.toList).2 : Nat) : Int) != 0) = true := by rw [bne_iff_ne]; omega
          clear HA he
          generalize (formL tg vl.data.toList).1 = fl at *
          generalize (formL tg vl.data.toList).2 = er at *
          go_wp2_with (go_at_call 41; refine (HC.out _ ⟨hT_.out.below (HW.out.alloc hsz _)⟩).mono ?_; rintro e w1 ⟨rfl, hb1⟩; have HB1 := Aside0.mk hb1; clear hb1)
          go_ret2
          rw [HF.out]
          exact FormsIs.mk_ (by rw [← HG.out]) (by rw [← HG.out]) ((HW.out.alloc hsz _).trans (HB1.out.mono (by rw [World.size_alloc]; omega)))
      · have t3 : decide (k < l0.length) = false := decide_eq_false hlt
        have HG := Aside0.mk (show (acc, 0) = formsL (l0.map pairF) by rw [← HA.out, List.drop_eq_nil_of_le (by simpa using hlt), formsAcc_end])
        clear HA
        go_wp2_with (go_at_call 43; refine (Tryz.Builder_String_any w.heap.size w.heap.size acc _ HB.out hsz).mono ?_; rintro e w1 ⟨rfl, hb1⟩; have HB1 := Aside0.mk hb1; clear hb1)
        go_ret2
        rw [HF.out]
        exact FormsIs.mk_ (e := 0) (by rw [← HG.out]) (by rw [← HG.out]) (HW.out.trans HB1.out)
theorem tag_Forms.calls (A0 : Option Addr) (c0 : Nat) (l0 : List S74) (r1 : ByteArray) (r2 : Int) (w : World) (hT_ : Aside0 (Tabs_ w)) (hr0 : Kd.C k74 w A0 l0.length l0) (hc0 : l0.length ≤ c0) (h : tag_Forms.f l0 = some (r1, r2)) :
    Calls Tryz.prog 15 #[.slice A0 l0.length c0] w fun e w' => e = .returned (.tuple #[.string r1, .int .i64 r2]) ∧ Below w.heap.size w w' := by
  unfold tag_Forms.f at h
  by_cases c : smallF l0 = true
  · rw [if_pos c] at h
    simp only [Option.some.injEq, Prod.mk.injEq] at h
    obtain ⟨rfl, rfl⟩ := h
    exact tag_Forms_walk A0 c0 l0 w hT_ hr0 hc0 c
  · rw [if_neg c] at h; cases h
end Go.Proofs.YtgfigkfcmkdjdaaGreatDoor.B
end
section
namespace Go.Proofs.YtgfigkfcmkdjdaaGreatDoor.B
open Go.RowKit Go.Proofs.YtgfigkfcmkdjdaaGreatDoorW.PrintWords Go.Proofs.YtgfigkfcmkdjdaaGreatDoorW.PrintLast Go.Proofs.YtgfigkfcmkdjdaaGreatDoorW.PrintMore
attribute [local go_sem] max2_int min2_int max_two min_two max_three min_three max_four min_four   -- for this text's walks alone
set_option linter.unusedVariables false
set_option linter.unusedSimpArgs false
theorem spot_of_cell {w : World} {a : Addr} {v : Value} (h : w.cell? a = some v) : a = ⟨a.block, a.off, none⟩ := by
  obtain ⟨b, o, s⟩ := a
  cases s with
  | none => rfl
  | some x =>
    unfold World.cell? at h
    split at h
    · simp at h
    · cases h
def joinB (l : List ByteArray) (sep : ByteArray) : ByteArray := ⟨(Lib.join (l.map (·.data.toList)) sep.data.toList).toArray⟩
def strings_Join.f (l0 : List ByteArray) (a1 : ByteArray) : Option ByteArray := if l0.length ≤ 140737488355328 ∧ (Lib.join (l0.map (·.data.toList)) a1.data.toList).length ≤ 140737488355328 then some (joinB l0 a1) else none
theorem strings_Join.calls (A0 : Option Addr) (c0 : Nat) (l0 : List ByteArray) (a1 : ByteArray) (r : ByteArray) (w : World) (hr0 : Kd.C Kd.string w A0 l0.length l0) (hc0 : l0.length ≤ c0) (h : strings_Join.f l0 a1 = some r) :
    Calls Tryz.prog 88 #[.slice A0 l0.length c0, .string a1] w fun e w' => e = .returned (.string r) ∧ Below w.heap.size w w' := by
  unfold strings_Join.f at h
  by_cases c : l0.length ≤ 140737488355328 ∧ (Lib.join (l0.map (·.data.toList)) a1.data.toList).length ≤ 140737488355328
  · rw [if_pos c] at h
    obtain rfl := Option.some.inj h
    by_cases hn : l0 = []
    · subst hn
      refine (Tryz.strings_Join_none A0 c0 a1 w).mono ?_
      rintro e w' ⟨rfl, rfl⟩
      exact ⟨rfl, Below.refl _ _⟩
    · have hpos := List.length_pos_iff.2 hn
      have hat : ∀ j : Nat, (hj : j < l0.length) → ∃ ad, A0 = some ad ∧ w.cell? (ad.add j) = some (.string l0[j]) := fun j hj => by
        obtain ⟨ad, cs, e, _, hK, hc⟩ := Kd.C_get hr0 ByteArray.empty (j : Int) (by omega) (by omega)
        refine ⟨ad, e, ?_⟩
        have hcs : cs = [.string (l0.getD ((j : Int)).toNat ByteArray.empty)] := hK
        have h1 := hc 0 (.string (l0.getD ((j : Int)).toNat ByteArray.empty)) (by rw [hcs]; rfl)
        have e1 : ((j : Int)).toNat * Kd.string.sz + 0 = j := by rw [Int.toNat_natCast]; show j * 1 + 0 = j; omega
        rw [e1] at h1
        rw [h1, Int.toNat_natCast, List.getD_eq_getElem?_getD, List.getElem?_eq_getElem hj]; rfl
      obtain ⟨ad, rfl, h0⟩ := hat 0 hpos
      have hsp := spot_of_cell (a := ad) h0
      have hcells : ∀ (j : Nat) x, l0[j]? = some x → w.cell? ⟨ad.block, ad.off + j, none⟩ = some (.string x) := fun j x hx => by
        obtain ⟨hj, rfl⟩ := List.getElem?_eq_some_iff.1 hx
        obtain ⟨ad2, e2, h2⟩ := hat j hj
        obtain rfl : ad = ad2 := Option.some.inj e2
        rw [← h2]
        unfold Addr.add
        split
        · rename_i hz; subst hz; rw [Nat.add_zero, ← hsp]
        · rfl
      have hlt : ad.block < w.heap.size := World.block_lt_of_cell? w _ h0
      have := Tryz.strings_Join ad.block ad.off c0 l0 a1 w hcells hlt (by omega) hc0 (by omega)
      rw [← hsp] at this
      exact this
  · rw [if_neg c] at h; cases h
end Go.Proofs.YtgfigkfcmkdjdaaGreatDoor.B
end
section
namespace Go.Proofs.YtgfigkfcmkdjdaaGreatDoor.B
open Go.RowKit Go.Proofs.YtgfigkfcmkdjdaaGreatDoorW.PrintWords Go.Proofs.YtgfigkfcmkdjdaaGreatDoorW.PrintLast Go.Proofs.YtgfigkfcmkdjdaaGreatDoorW.PrintMore
attribute [local go_sem] max2_int min2_int max_two min_two max_three min_three max_four min_four   -- for this text's walks alone
set_option linter.unusedVariables false
set_option linter.unusedSimpArgs false
theorem i64_35 : i64ok 35 := i64ok_of (by decide) (by decide)
set_option maxRecDepth 100000 in
theorem form_is (g : Nat) (p : PlS) (F : FormS) (k : Nat) (w : World) (h : FormIs g p F k w) :
    Calls Tryz.prog 57 #[.pointer (some ⟨g, 0, none⟩)] w fun e w' => e = .returned (.bool true) ∧ w' = w := by
  have h1 := h.c1
  have hm := map_ne p.v w
  go_enter Tryz.func57, Tryz.ntmps57
  go_wp2
  go_ret
  exact ⟨rfl, rfl⟩
theorem form_has (g : Nat) (p : PlS) (F : FormS) (k : Nat) (w : World) (h : FormIs g p F k w) (t : Int) (ht : i64ok t) :
    Calls Tryz.prog 56 #[.pointer (some ⟨g, 0, none⟩), .int .i64 t] w fun e w' => e = .returned (.bool (F.vals t).isSome) ∧ w' = w := by
  have h1 := h.c1
  have hl := h.vals.has t ht
  go_enter Tryz.func56, Tryz.ntmps56
  go_wp2
  go_ret
  exact ⟨rfl, rfl⟩
set_option maxRecDepth 100000 in
theorem form_kind (g : Nat) (p : PlS) (F : FormS) (k : Nat) (w : World) (h : FormIs g p F k w) (hk : k < 9223372036854775807) :
    Calls Tryz.prog 29 #[.pointer (some ⟨g, 0, none⟩)] w fun e w' => e = .returned (.string ((F.vals 35).getD ⟨#[]⟩)) ∧
      (F.e ≠ 0 → w' = w) ∧ (F.e = 0 → FormIs g p { F with asked := fun x => if x = 35 then true else F.asked x } (k + 1) w' ∧ Turned (FormB g p) w w') := by
  have h1 := h.c1
  have h2 := h.c2
  have h4 := h.c4
  have hl := h.vals.look 35 i64_35
  have HF := Aside0.mk h
  have HIs := Aside0.mk (form_is g p F k w h)
  by_cases c : F.e = 0
  · have t1 : (F.e == 0) = true := by rw [c]; rfl
    obtain ⟨w1, hrun, hA, hgr⟩ := h.asked.put 35 i64_35 hk
    have HT : Aside0 (Turned (FormB g p) w w1) := ⟨Turned.of_grown hgr (.inr rfl)⟩
    have HF1 := Aside0.mk (h.ask hA hgr)
    have hv1 := HF1.out.vals.look 35 i64_35
    have h11 := HF1.out.c1
    clear hgr hA
    go_enter Tryz.func29, Tryz.ntmps29
    go_wp2_with (go_at_call 57; refine HIs.out.mono ?_; rintro e w' ⟨rfl, rfl⟩)
    go_ret
    exact ⟨rfl, fun e => absurd c e, fun _ => ⟨HF1.out, HT.out⟩⟩
  · have t1 : (F.e == 0) = false := by rw [beq_eq_false_iff_ne]; exact c
    go_enter Tryz.func29, Tryz.ntmps29
    go_wp2_with (go_at_call 57; refine HIs.out.mono ?_; rintro e w' ⟨rfl, rfl⟩)
    go_ret
    exact ⟨rfl, fun _ => rfl, fun e => absurd e c⟩
set_option maxRecDepth 100000 in
theorem form_done_e (g : Nat) (p : PlS) (F : FormS) (k : Nat) (w : World) (h : FormIs g p F k w) (he : F.e ≠ 0) :
    Calls Tryz.prog 31 #[.pointer (some ⟨g, 0, none⟩)] w fun e w' => e = .returned (.tuple #[.int .i64 F.tag, .int .i64 F.e]) ∧ ∃ q, w' = w.drewN q := by
  have h3 := h.c3
  have h4 := h.c4
  have HIs := Aside0.mk (form_is g p F k w h)
  have t1 : (F.e == 0) = false := by rw [beq_eq_false_iff_ne]; exact he
  have t2 : (F.e != 0) = true := by rw [bne_iff_ne]; exact he
  go_enter Tryz.func31, Tryz.ntmps31
  go_wp2_with (go_at_call 57; refine HIs.out.mono ?_; rintro e w' ⟨rfl, rfl⟩)
  go_quiet (fail)
  go_wp2
  go_ret2
  exact ⟨rfl, _, rfl⟩
def spareL (asked : Int → Bool) : List Int → Int × Int
  | [] => (0, 0)
  | t :: r => if asked t then spareL asked r else (t, 113)
theorem spareL_cons (asked : Int → Bool) (t : Int) (r : List Int) : spareL asked (t :: r) = if asked t then spareL asked r else (t, 113) := rfl
set_option maxRecDepth 100000 in
set_option maxHeartbeats 4000000 in
theorem form_done_ok (g : Nat) (p : PlS) (F : FormS) (k : Nat) (w : World) (h : FormIs g p F k w) (he : F.e = 0) (hlen : F.order.length ≤ 4611686018427387904) :
    Calls Tryz.prog 31 #[.pointer (some ⟨g, 0, none⟩)] w fun e w' => e = .returned (.tuple #[.int .i64 (spareL F.asked F.order).1, .int .i64 (spareL F.asked F.order).2]) ∧ w' = w := by
  have h0 := h.c0
  have h2 := h.c2
  have h4 := h.c4
  have HF := Aside0.mk h
  have HIs := Aside0.mk (form_is g p F k w h)
  have t2 : (F.e != 0) = false := by rw [he]; rfl
  go_enter Tryz.func31, Tryz.ntmps31
  go_wp2_with (go_at_call 57; refine HIs.out.mono ?_; rintro e w' ⟨rfl, hh⟩; obtain rfl : w = w' := hh.symm)
  go_loopw [29] (fun v29 wr => ∃ i : Nat, v29 = .int .i64 (i : Int) ∧ i ≤ F.order.length ∧ wr = w ∧ Aside0 (spareL F.asked (F.order.drop i) = spareL F.asked F.order)) (fun v29 _ => F.order.length - (intOf v29).toNat)
  case atStart => exact ⟨0, rfl, Nat.zero_le _, rfl, ⟨rfl⟩⟩
  case round =>
    obtain ⟨i, rfl, hi, rfl, HA⟩ := hrel
    by_cases hlt : i < F.order.length
    · obtain ⟨ad, hA, hc, ht⟩ := HF.out.ord i hlt
      have t1 : decide ((i : Int) < (F.order.length : Int)) = true := by rw [decide_eq_true_eq]; omega
      have hl := HF.out.asked.look _ ht
      have hd : F.order.drop i = F.order.getD i 0 :: F.order.drop (i + 1) := by
        rw [List.drop_eq_getElem_cons hlt, List.getD_eq_getElem?_getD, List.getElem?_eq_getElem hlt]; rfl
      rw [hA] at h0
      rw [hA]
      rw [hd, spareL_cons] at HA
      generalize hx : F.order.getD i 0 = x at *
      by_cases ca : F.asked x = true
      · have HA2 : Aside0 (spareL F.asked (F.order.drop (i + 1)) = spareL F.asked F.order) := ⟨by have h1 := HA.out; rw [if_pos ca] at h1; exact h1⟩
        clear HA hd hx ht hA
        rw [ca] at hl
        go_wp2
        refine ⟨⟨i + 1, by rw [show ((i + 1 : Nat) : Int) = (i : Int) + 1 by omega], by omega, trivial, HA2⟩, ?_⟩
        show F.order.length - ((i : Int) + 1).toNat < F.order.length - ((i : Int)).toNat
        omega
      · have ca' : F.asked x = false := by simpa using ca
        have HA2 : Aside0 ((x, (113 : Int)) = spareL F.asked F.order) := ⟨by have h1 := HA.out; rw [if_neg ca] at h1; exact h1⟩
        clear HA hd hx ht hA
        rw [ca'] at hl
        go_wp2
        go_ret2
        rw [← HA2.out]
        exact ⟨rfl, rfl⟩
    · have t1 : decide ((i : Int) < (F.order.length : Int)) = false := by rw [decide_eq_false_iff_not]; omega
      have HA2 : Aside0 (((0 : Int), (0 : Int)) = spareL F.asked F.order) := ⟨by have h1 := HA.out; rw [List.drop_eq_nil_of_le (by omega)] at h1; exact h1⟩
      clear HA
      go_wp2
      go_ret2
      rw [← HA2.out]
      exact ⟨rfl, rfl⟩
def doneL (F : FormS) : Int × Int := if F.e ≠ 0 then (F.tag, F.e) else spareL F.asked F.order
end Go.Proofs.YtgfigkfcmkdjdaaGreatDoor.B
end
