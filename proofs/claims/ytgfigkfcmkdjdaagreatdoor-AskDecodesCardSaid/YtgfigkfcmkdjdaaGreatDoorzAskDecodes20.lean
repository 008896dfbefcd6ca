/- The functions that the law reaches, as plain Lean functions, and their contracts: texts merged. -/
import Derived.Laws.StructEq
import Derived.Test.YtgfigkfcmkdjdaaGreatDoorzAskDecodes2
import Derived.Test.YtgfigkfcmkdjdaaGreatDoorzAskDecodes0
import Derived.Test.YtgfigkfcmkdjdaaGreatDoorzAskDecodes1
import Derived.Test.YtgfigkfcmkdjdaaGreatDoorzAskDecodes3
import Derived.Test.YtgfigkfcmkdjdaaGreatDoorzAskDecodes16
import Derived.Test.YtgfigkfcmkdjdaaGreatDoorzAskDecodes17
import Derived.Test.YtgfigkfcmkdjdaaGreatDoorzAskDecodes18
import Derived.Test.YtgfigkfcmkdjdaaGreatDoorzAskDecodes19
section
namespace Go.Proofs.YtgfigkfcmkdjdaaGreatDoor.B
open Go.RowKit Go.Proofs.YtgfigkfcmkdjdaaGreatDoorW.PrintWords Go.Proofs.YtgfigkfcmkdjdaaGreatDoorW.PrintLast Go.Proofs.YtgfigkfcmkdjdaaGreatDoorW.PrintMore
attribute [local go_sem] max2_int min2_int max_two min_two max_three min_three max_four min_four   -- for this text's walks alone
set_option linter.unusedVariables false
set_option linter.unusedSimpArgs false
mutual
def spigotref11_Number_p.j0 : Nat → ByteArray → Bool → Option (Int)
  | 0, _, _ => none
  | k + 1, x0, x24 => if x24 = true then (some (-1)) else (spigotref11_Number_p.l0 k x0 0 false ([] : List Bool))
def spigotref11_Number_p.l0 : Nat → ByteArray → Int → Bool → List Bool → Option (Int)
  | 0, _, _, _, _ => none
  | k + 1, x0, x4, x260000, x260001 => if x4 < (x0.size : Int) then (if 0 ≤ x4 then (if (bt x0 x4) < 48 then (spigotref11_Number_p.j2 k x0 x4 true x260000 x260001) else (spigotref11_Number_p.j2 k x0 x4 (decide ((bt x0 x4) > 57)) x260000 x260001)) else (none)) else ((spigotref01_Int.f k x260000 x260001).bind fun bt260 => (if bt260.2 = true then (some bt260.1) else (some (-1))))
def spigotref11_Number_p.j2 : Nat → ByteArray → Int → Bool → Bool → List Bool → Option (Int)
  | 0, _, _, _, _, _ => none
  | k + 1, x0, x4, x41, x260000, x260001 => if x41 = true then (some (-1)) else ((spigotref01_Of.f k 10).bind fun bt262 => ((spigotref01_Mul.f k x260000 x260001 bt262.1 bt262.2).bind fun bt266 => (if 0 ≤ x4 then (if x4 < (x0.size : Int) then ((spigotref01_Of.f k (((bt x0 x4) - 48) % 256)).bind fun bt270 => ((spigotref01_Add.f k bt266.1 bt266.2 bt270.1 bt270.2).bind fun bt274 => (spigotref11_Number_p.l0 k x0 (wrap64 (x4 + 1)) bt274.1 bt274.2))) else (none)) else (none))))
end
def spigotref11_Number_p.f (k : Nat) (a0 : ByteArray) : Option (Int) := if (a0.size : Int) < 1 then (spigotref11_Number_p.j0 k a0 true) else (if (a0.size : Int) > 19 then (spigotref11_Number_p.j0 k a0 true) else (if (a0.size : Int) > 1 then (if 0 < (a0.size : Int) then (spigotref11_Number_p.j0 k a0 ((bt a0 0) == 48)) else (none)) else (spigotref11_Number_p.j0 k a0 false)))
theorem spigotref11_Number_p.mono_l : ∀ k, (∀ y0 y1, LeO (spigotref11_Number_p.j0 k y0 y1) (spigotref11_Number_p.j0 (k + 1) y0 y1)) ∧ (∀ y0 y1 y2 y3, LeO (spigotref11_Number_p.l0 k y0 y1 y2 y3) (spigotref11_Number_p.l0 (k + 1) y0 y1 y2 y3)) ∧ (∀ y0 y1 y2 y3 y4, LeO (spigotref11_Number_p.j2 k y0 y1 y2 y3 y4) (spigotref11_Number_p.j2 (k + 1) y0 y1 y2 y3 y4))
  | 0 => ⟨fun _ _ r h => by simp [spigotref11_Number_p.j0] at h, fun _ _ _ _ r h => by simp [spigotref11_Number_p.l0] at h, fun _ _ _ _ _ r h => by simp [spigotref11_Number_p.j2] at h⟩
  | k + 1 => by
    obtain ⟨ih0, ih1, ih2⟩ := spigotref11_Number_p.mono_l k
    refine ⟨?_, ?_, ?_⟩
    · intro y0 y1
      unfold spigotref11_Number_p.j0
      repeat' first
      | (with_reducible exact ih0 _ _)
      | (with_reducible exact ih1 _ _ _ _)
      | (with_reducible exact ih2 _ _ _ _ _)
      | (with_reducible exact spigotref01_Add.mono _ _ _ _ _)
      | (with_reducible exact spigotref01_Int.mono _ _ _)
      | (with_reducible exact spigotref01_Mul.mono _ _ _ _ _)
      | (with_reducible exact spigotref01_Of.mono _ _)
      | (with_reducible exact LeO.refl _)
      | (with_reducible exact LeO.none _)
      | (with_reducible refine LeO.ite ?_ ?_)
      | (with_reducible refine LeO.bind ?_ (fun _ => ?_))
      | exact ih0 _ _
      | exact ih1 _ _ _ _
      | exact ih2 _ _ _ _ _
      | exact spigotref01_Add.mono _ _ _ _ _
      | exact spigotref01_Int.mono _ _ _
      | exact spigotref01_Mul.mono _ _ _ _ _
      | exact spigotref01_Of.mono _ _
      | exact LeO.none _
      | refine LeO.ite ?_ ?_
      | refine LeO.bind ?_ (fun _ => ?_)
    · intro y0 y1 y2 y3
      unfold spigotref11_Number_p.l0
      repeat' first
      | (with_reducible exact ih0 _ _)
      | (with_reducible exact ih1 _ _ _ _)
      | (with_reducible exact ih2 _ _ _ _ _)
      | (with_reducible exact spigotref01_Add.mono _ _ _ _ _)
      | (with_reducible exact spigotref01_Int.mono _ _ _)
      | (with_reducible exact spigotref01_Mul.mono _ _ _ _ _)
      | (with_reducible exact spigotref01_Of.mono _ _)
      | (with_reducible exact LeO.refl _)
      | (with_reducible exact LeO.none _)
      | (with_reducible refine LeO.ite ?_ ?_)
      | (with_reducible refine LeO.bind ?_ (fun _ => ?_))
      | exact ih0 _ _
      | exact ih1 _ _ _ _
      | exact ih2 _ _ _ _ _
      | exact spigotref01_Add.mono _ _ _ _ _
      | exact spigotref01_Int.mono _ _ _
      | exact spigotref01_Mul.mono _ _ _ _ _
      | exact spigotref01_Of.mono _ _
      | exact LeO.none _
      | refine LeO.ite ?_ ?_
      | refine LeO.bind ?_ (fun _ => ?_)
    · intro y0 y1 y2 y3 y4
      unfold spigotref11_Number_p.j2
      repeat' first
      | (with_reducible exact ih0 _ _)
      | (with_reducible exact ih1 _ _ _ _)
      | (with_reducible exact ih2 _ _ _ _ _)
      | (with_reducible exact spigotref01_Add.mono _ _ _ _ _)
      | (with_reducible exact spigotref01_Int.mono _ _ _)
      | (with_reducible exact spigotref01_Mul.mono _ _ _ _ _)
      | (with_reducible exact spigotref01_Of.mono _ _)
      | (with_reducible exact LeO.refl _)
      | (with_reducible exact LeO.none _)
      | (with_reducible refine LeO.ite ?_ ?_)
      | (with_reducible refine LeO.bind ?_ (fun _ => ?_))
      | exact ih0 _ _
      | exact ih1 _ _ _ _
      | exact ih2 _ _ _ _ _
      | exact spigotref01_Add.mono _ _ _ _ _
      | exact spigotref01_Int.mono _ _ _
      | exact spigotref01_Mul.mono _ _ _ _ _
      | exact spigotref01_Of.mono _ _
      | exact LeO.none _
      | refine LeO.ite ?_ ?_
      | refine LeO.bind ?_ (fun _ => ?_)
theorem spigotref11_Number_p.mono : ∀ a0 k, LeO (spigotref11_Number_p.f k a0) (spigotref11_Number_p.f (k + 1) a0) := by
  intro a0 k
  obtain ⟨ih0, ih1, ih2⟩ := spigotref11_Number_p.mono_l k
  unfold spigotref11_Number_p.f
  repeat' first
      | (with_reducible exact ih0 _ _)
      | (with_reducible exact ih1 _ _ _ _)
      | (with_reducible exact ih2 _ _ _ _ _)
      | (with_reducible exact spigotref01_Add.mono _ _ _ _ _)
      | (with_reducible exact spigotref01_Int.mono _ _ _)
      | (with_reducible exact spigotref01_Mul.mono _ _ _ _ _)
      | (with_reducible exact spigotref01_Of.mono _ _)
      | (with_reducible exact LeO.refl _)
      | (with_reducible exact LeO.none _)
      | (with_reducible refine LeO.ite ?_ ?_)
      | (with_reducible refine LeO.bind ?_ (fun _ => ?_))
      | exact ih0 _ _
      | exact ih1 _ _ _ _
      | exact ih2 _ _ _ _ _
      | exact spigotref01_Add.mono _ _ _ _ _
      | exact spigotref01_Int.mono _ _ _
      | exact spigotref01_Mul.mono _ _ _ _ _
      | exact spigotref01_Of.mono _ _
      | exact LeO.none _
      | refine LeO.ite ?_ ?_
      | refine LeO.bind ?_ (fun _ => ?_)
def spigotref11_Number_p.T9 : Bool × List (List Nat × List Nat) := (true, [([], []), ([], []), ([0, 1, 1], [0, 1]), ([], []), ([], []), ([3, 4], [3, 4]), ([5], [5]), ([6], [6]), ([7, 2], [7]), ([2, 8, 8], [2, 8]), ([9, 9, 0, 1, 2, 3, 4, 5, 6, 7, 8, 9], [9])])
def spigotref11_Number_p.B9 : List Nat := [0, 0, 3, 0, 0, 24, 56, 120, 255, 511, 1023]
theorem spigotref11_Number_p.tab9 : rtab .any (opsOf Tryz.f64 9) = spigotref11_Number_p.T9 := by kernel_rfl
theorem spigotref11_Number_p.bits9 : waitsOk spigotref11_Number_p.T9.2 spigotref11_Number_p.B9 = true := by kernel_rfl
set_option maxHeartbeats 8000000 in
set_option maxRecDepth 100000 in
theorem spigotref11_Number_p.calls (k : Nat) (a0 : ByteArray) (r : Int) (w : World) (h : spigotref11_Number_p.f k a0 = some r) :
    Calls Tryz.prog 64 #[.string a0] w fun e w' => e = .returned (.int .i64 r) ∧ Below w.heap.size w w' := by
  have hu122 := Tryz.underlying122
  have HB := Aside0.mk (Below.refl w.heap.size w)
  have H : (if (a0.size : Int) < 1 then (spigotref11_Number_p.j0 k a0 true) else (if (a0.size : Int) > 19 then (spigotref11_Number_p.j0 k a0 true) else (if (a0.size : Int) > 1 then (if 0 < (a0.size : Int) then (spigotref11_Number_p.j0 k a0 ((bt a0 0) == 48)) else (none)) else (spigotref11_Number_p.j0 k a0 false)))) = some r := h
  clear h
  have HC2 := Aside0.mk H
  clear H
  go_enter Tryz.func64, Tryz.ntmps64
  go_upto_region 1 with (fail)
  go_cut [24] (fun v24 wc => ∃ (kq : Nat) (x24_1 : Bool), v24 = .bool x24_1 ∧ Aside0 (spigotref11_Number_p.j0 kq a0 x24_1 = some r) ∧ Aside0 (kq ≤ k) ∧ Aside0 (Below w.heap.size w wc))
  case first =>
    have H := HC2.out
    clear HC2
    by_cases c3 : (a0.size : Int) < 1
    · rw [if_pos c3] at H
      have c3b0 : decide ((a0.size : Int) < 1) = true := decide_eq_true c3
      have c3b1 : decide (a0.size < 1) = true := decide_eq_true (by omega)
      clear c3
      (first | rw [c3b0] | (simp only [i64_w, i32_w]; rw [c3b0]) | skip)
      have H' := Aside0.mk H
      clear H
      go_wp2
      go_meet
      case rel => exact ⟨_, (true), (by first | rfl | (simp; done) | (simp [*]; done)), H', ⟨by first | omega | exact Nat.le_refl _⟩, ⟨by repeat (first | (with_reducible first | exact HB.out | apply below_alloc | apply pw_below_drewN | apply below_drew1) | exact HB.out)⟩⟩
    · rw [if_neg c3] at H
      have c3b0 : decide ((a0.size : Int) < 1) = false := decide_eq_false c3
      have c3b1 : decide (a0.size < 1) = false := decide_eq_false (by omega)
      clear c3
      (first | rw [c3b0] | (simp only [i64_w, i32_w]; rw [c3b0]) | skip)
      by_cases c4 : (a0.size : Int) > 19
      · rw [if_pos c4] at H
        have c4b0 : decide (19 < (a0.size : Int)) = true := decide_eq_true c4
        have c4b1 : decide (19 < a0.size) = true := decide_eq_true (by omega)
        clear c4
        have H' := Aside0.mk H
        clear H
        go_wp2
        go_meet
        case rel => exact ⟨_, (true), (by first | rfl | (simp; done) | (simp [*]; done)), H', ⟨by first | omega | exact Nat.le_refl _⟩, ⟨by repeat (first | (with_reducible first | exact HB.out | apply below_alloc | apply pw_below_drewN | apply below_drew1) | exact HB.out)⟩⟩
      · rw [if_neg c4] at H
        have c4b0 : decide (19 < (a0.size : Int)) = false := decide_eq_false c4
        have c4b1 : decide (19 < a0.size) = false := decide_eq_false (by omega)
        clear c4
        by_cases c5 : (a0.size : Int) > 1
        · rw [if_pos c5] at H
          have c5b0 : decide (1 < (a0.size : Int)) = true := decide_eq_true c5
          have c5b1 : decide (1 < a0.size) = true := decide_eq_true (by omega)
          clear c5
          by_cases c6 : 0 < (a0.size : Int)
          · rw [if_pos c6] at H
            have c6b0 : decide (0 < (a0.size : Int)) = true := decide_eq_true c6
            have c6b1 : decide (0 < a0.size) = true := decide_eq_true (by omega)
            clear c6
            have H' := Aside0.mk H
            clear H
            have p7 : 0 ≤ (0 : Int) := (by omega)
            have q7 : 0 < a0.size := (by have : (0 : Int) < (a0.size : Int) := of_decide_eq_true (by first | (with_reducible assumption) | assumption); omega)
            have hx7 : ∀ h : 0 < a0.size, ((a0[0]'h).toNat : Int) = bt a0 0 := bt_at a0 0
            clear p7
            have qi7 : (0 < (a0.size : Int)) = True := eq_true (of_decide_eq_true (by first | (with_reducible assumption) | assumption))
            replace q7 := eq_true q7
            go_wp2
            go_meet
            case rel => exact ⟨_, (((bt a0 0) == 48)), (by first | rfl | (simp; done) | (simp [*]; done)), H', ⟨by first | omega | exact Nat.le_refl _⟩, ⟨by repeat (first | (with_reducible first | exact HB.out | apply below_alloc | apply pw_below_drewN | apply below_drew1) | exact HB.out)⟩⟩
          · rw [if_neg c6] at H
            exact absurd H (by simp)
        · rw [if_neg c5] at H
          have c5b0 : decide (1 < (a0.size : Int)) = false := decide_eq_false c5
          have c5b1 : decide (1 < a0.size) = false := decide_eq_false (by omega)
          clear c5
          have H' := Aside0.mk H
          clear H
          go_wp2
          go_meet
          case rel => exact ⟨_, (false), (by first | rfl | (simp; done) | (simp [*]; done)), H', ⟨by first | omega | exact Nat.le_refl _⟩, ⟨by repeat (first | (with_reducible first | exact HB.out | apply below_alloc | apply pw_below_drewN | apply below_drew1) | exact HB.out)⟩⟩
  case rest =>
    clear HC2
    try clear p2
    try clear c3
    try clear c3b0
    try clear c3b1
    try clear c4
    try clear c4b0
    try clear c4b1
    try clear c5
    try clear c5b0
    try clear c5b1
    try clear c6
    try clear c6b0
    try clear c6b1
    try clear p7
    try clear q7
    try clear hx7
    try clear qi7
    try clear p7
    try clear q7
    obtain ⟨kq, x24_1, rfl, HA, HJ1, HB⟩ := hcut
    cases kq with
    | zero => exact absurd HA.out (by simp [spigotref11_Number_p.j0])
    | succ kj1 =>
      have H := HA.out
      clear HA
      simp only [spigotref11_Number_p.j0] at H
      by_cases c8 : x24_1 = true
      · subst c8
        have H1 : (some (-1)) = some r := by rw [if_pos rfl] at H; exact H
        clear H
        have H := H1
        clear H1
        obtain rfl := Option.some.inj H
        go_wp2
        go_ret
        exact ⟨by first | rfl | (simp [errW_none, errW_some] <;> rfl) | (simp [*, errW_none, errW_some] <;> rfl), by repeat (first | (with_reducible first | exact HB.out | apply below_alloc | apply pw_below_drewN | apply below_drew1) | exact HB.out)⟩
      · replace c8 := Bool.eq_false_iff.mpr c8
        subst c8
        have H1 : (spigotref11_Number_p.l0 kj1 a0 0 false ([] : List Bool)) = some r := by rw [if_neg (show ¬ (false = true) by decide)] at H; exact H
        clear H
        have H := H1
        clear H1
        have H' := Aside0.mk H
        clear H
        go_wp2_with (first | ((with_reducible refine gate_dst (N := 3) rfl ?_); (try (refine gate_guard (by rfl) ?_; dsimp only)); refine box_event ?hg (N := 3) ?hd (cs := #[.bool false, .slice none 0 0]) (t := 122) ?hr ?_; (case hd => rfl); (case hg => rfl); (case hr => first | (go_simp; done) | (go_simp; rfl)); intro gb259 hg w9 hbox hb; have n0_ := Aside0.mk (below_step (by repeat (first | (with_reducible first | exact HB.out | apply below_alloc | apply pw_below_drewN | apply below_drew1) | exact HB.out)) hb); have n1_ := Aside0.mk (hbox); have n2_ := Aside0.mk ((by rw [hg]; exact (below_size (by repeat (first | (with_reducible first | exact HB.out | apply below_alloc | apply pw_below_drewN | apply below_drew1) | exact HB.out))) : w.heap.size ≤ gb259)); have n3_ := Aside0.mk ((by rw [hg]; exact (below_size (by repeat (first | (with_reducible first | exact HB.out | apply below_alloc | apply pw_below_drewN | apply below_drew1) | exact HB.out))) : w.heap.size ≤ gb259)); clear HB; have HB := n0_; have BK259 := n1_; have GW259 := n2_; have GE259 := n3_; clear n0_ n1_ n2_ n3_; clear hb hbox hg; have hcz10_0 : w9.cell? ⟨gb259, 0, none⟩ = some (.bool false) := (blk_cell BK259.out 0).trans rfl; have hcz10_1 : w9.cell? ⟨gb259, 1, none⟩ = some (.slice none 0 0) := (blk_cell BK259.out 1).trans rfl; have hfz10_0 := blk_frozen BK259.out 0; have hfz10_1 := blk_frozen BK259.out 1))
        go_loopg [4] kj1 (fun kq v4 w' => ∃ (x4_2 : Int) (x260000_2 : Bool) (x260001_2 : List Bool) (u260001 : Value), v4 = .int .i64 x4_2 ∧ Aside0 (spigotref11_Number_p.l0 kq a0 x4_2 x260000_2 x260001_2 = some r) ∧ Aside0 (kq ≤ kj1) ∧ Aside0 (Kd.R Kd.bool 4 w' w.heap.size (fun _ => True) u260001 x260001_2) ∧ Aside0 (w'.heap[gb259]? = some (.cells #[.bool x260000_2, u260001] 122 (0, 0))) ∧ Aside0 (Below w.heap.size w w'))
        case atStart => exact ⟨(0), (false), (([] : List Bool)), (.slice none 0 0), (by first | rfl | (simp; done) | (simp [*]; done)), H', ⟨Nat.le_refl _⟩, ⟨by first | exact Kd.R_nil _ _ _ _ _ | exact Kd.N_nil _ _ _ _ _ | exact Kd.V_nil _ _ _ _ _ | exact Kd.Q_nil _ _ _ _ _ | exact Kd.S_nil _ _ _ _ _⟩, ⟨by (with_reducible repeat (first | refine blk_drewN ?_ _ | refine blk_drew ?_ | refine blk_alloc ?_ _)); refine blk_put (cs := #[.bool false, .slice none 0 0]) ?_ 1 _ rfl; (with_reducible repeat (first | refine blk_drewN ?_ _ | refine blk_drew ?_ | refine blk_alloc ?_ _)); refine blk_put (cs := #[.bool false, .slice none 0 0]) ?_ 0 _ rfl; (with_reducible repeat (first | refine blk_drewN ?_ _ | refine blk_drew ?_ | refine blk_alloc ?_ _)); exact BK259.out⟩, ⟨by repeat (first | (with_reducible first | exact HB.out | apply below_alloc | apply pw_below_drewN | apply below_drew1 | refine below_set ?_ GE259.out) | exact HB.out)⟩⟩
        case round =>
          clear H'
          try clear p2
          try clear c3
          try clear c3b0
          try clear c3b1
          try clear c4
          try clear c4b0
          try clear c4b1
          try clear c5
          try clear c5b0
          try clear c5b1
          try clear c6
          try clear c6b0
          try clear c6b1
          try clear p7
          try clear q7
          try clear hx7
          try clear qi7
          try clear c8
          try clear hcz10_0
          try clear hcz10_1
          try clear hfz10_0
          try clear hfz10_1
          try clear p2
          try clear p7
          try clear q7
          obtain ⟨x4_2, x260000_2, x260001_2, u260001, rfl, HA, HK2, HO_260001, BK259, HB⟩ := hrel
          cases gk with
          | zero => exact absurd HA.out (by simp [spigotref11_Number_p.l0])
          | succ k2 =>
            have H := HA.out
            clear HA
            simp only [spigotref11_Number_p.l0] at H
            by_cases c11 : x4_2 < (a0.size : Int)
            · rw [if_pos c11] at H
              have c11b0 : decide (x4_2 < (a0.size : Int)) = true := decide_eq_true c11
              clear c11
              have HC12 := Aside0.mk H
              clear H
              go_upto_region 7 with (fail)
              go_cut [41] (fun v41 wc => ∃ (kq : Nat) (x41_11 : Bool), v41 = .bool x41_11 ∧ Aside0 (spigotref11_Number_p.j2 kq a0 x4_2 x41_11 x260000_2 x260001_2 = some r) ∧ Aside0 (kq ≤ k2) ∧ Aside0 (Kd.R Kd.bool 4 wc w.heap.size (fun _ => True) u260001 x260001_2) ∧ Aside0 (wc.heap[gb259]? = some (.cells #[.bool x260000_2, u260001] 122 (0, 0))) ∧ Aside0 (Below w.heap.size w wc))
              case first =>
                have H := HC12.out
                clear HC12
                by_cases c13 : 0 ≤ x4_2
                · rw [if_pos c13] at H
                  have c13b0 : decide (0 ≤ x4_2) = true := decide_eq_true c13
                  clear c13
                  (first | rw [c13b0] | (simp only [i64_w, i32_w]; rw [c13b0]) | skip)
                  by_cases c15 : (bt a0 x4_2) < 48
                  · rw [if_pos c15] at H
                    have c15b0 : decide ((bt a0 x4_2) < 48) = true := decide_eq_true c15
                    clear c15
                    have H' := Aside0.mk H
                    clear H
                    have p14 : 0 ≤ (x4_2 : Int) := of_decide_eq_true (by first | (with_reducible assumption) | assumption)
                    have q14 : x4_2 < (a0.size : Int) := of_decide_eq_true (by first | (with_reducible assumption) | assumption)
                    have hx14 := bt_at a0 x4_2
                    replace p14 := eq_true p14
                    replace q14 := eq_true q14
                    go_wp2
                    go_meet
                    case rel => exact ⟨_, (true), (by first | rfl | (simp; done) | (simp [*]; done)), H', ⟨by have := HJ1.out; have := HK2.out; first | omega | exact Nat.le_refl _⟩, ⟨by (with_reducible repeat (first | apply Kd.R_alloc | apply Kd.R_drewN | apply Kd.R_drew)); exact HO_260001.out⟩, ⟨by (with_reducible repeat (first | refine blk_drewN ?_ _ | refine blk_drew ?_ | refine blk_alloc ?_ _)); exact BK259.out⟩, ⟨by repeat (first | (with_reducible first | exact HB.out | apply below_alloc | apply pw_below_drewN | apply below_drew1 | refine below_set ?_ GE259.out) | exact HB.out)⟩⟩
                  · rw [if_neg c15] at H
                    have c15b0 : decide ((bt a0 x4_2) < 48) = false := decide_eq_false c15
                    clear c15
                    have H' := Aside0.mk H
                    clear H
                    have p14 : 0 ≤ (x4_2 : Int) := of_decide_eq_true (by first | (with_reducible assumption) | assumption)
                    have q14 : x4_2 < (a0.size : Int) := of_decide_eq_true (by first | (with_reducible assumption) | assumption)
                    have hx14 := bt_at a0 x4_2
                    replace p14 := eq_true p14
                    replace q14 := eq_true q14
                    have p16 : 0 ≤ (x4_2 : Int) := of_decide_eq_true (by first | (with_reducible assumption) | assumption)
                    have q16 : x4_2 < (a0.size : Int) := of_decide_eq_true (by first | (with_reducible assumption) | assumption)
                    have hx16 := bt_at a0 x4_2
                    replace p16 := eq_true p16
                    replace q16 := eq_true q16
                    go_wp2
                    go_meet
                    case rel => exact ⟨_, (decide ((bt a0 x4_2) > 57)), (by first | rfl | (simp; done) | (simp [*]; done)), H', ⟨by have := HJ1.out; have := HK2.out; first | omega | exact Nat.le_refl _⟩, ⟨by (with_reducible repeat (first | apply Kd.R_alloc | apply Kd.R_drewN | apply Kd.R_drew)); exact HO_260001.out⟩, ⟨by (with_reducible repeat (first | refine blk_drewN ?_ _ | refine blk_drew ?_ | refine blk_alloc ?_ _)); exact BK259.out⟩, ⟨by repeat (first | (with_reducible first | exact HB.out | apply below_alloc | apply pw_below_drewN | apply below_drew1 | refine below_set ?_ GE259.out) | exact HB.out)⟩⟩
                · rw [if_neg c13] at H
                  exact absurd H (by simp)
              case rest =>
                clear HC12
                try clear c1
                try clear p1
                try clear q1
                try clear hx1
                try clear p2
                try clear c3
                try clear c3b0
                try clear c3b1
                try clear c4
                try clear c4b0
                try clear c4b1
                try clear c5
                try clear c5b0
                try clear c5b1
                try clear c6
                try clear c6b0
                try clear c6b1
                try clear p7
                try clear q7
                try clear hx7
                try clear qi7
                try clear c8
                try clear c11
                try clear c11b0
                try clear c13
                try clear c13b0
                try clear p14
                try clear q14
                try clear hx14
                try clear c15
                try clear c15b0
                try clear p16
                try clear q16
                try clear hx16
                try clear hcz10_0
                try clear hcz10_1
                try clear hfz10_0
                try clear hfz10_1
                try clear p14
                try clear p16
                try clear p2
                try clear p7
                try clear q14
                try clear q16
                try clear q7
                obtain ⟨kq, x41_11, rfl, HA, HJ11, HO_260001, BK259, HB⟩ := hcut
                cases kq with
                | zero => exact absurd HA.out (by simp [spigotref11_Number_p.j2])
                | succ kj11 =>
                  have H := HA.out
                  clear HA
                  simp only [spigotref11_Number_p.j2] at H
                  by_cases c17 : x41_11 = true
                  · subst c17
                    have H1 : (some (-1)) = some r := by rw [if_pos rfl] at H; exact H
                    clear H
                    have H := H1
                    clear H1
                    obtain rfl := Option.some.inj H
                    go_wp2
                    go_ret
                    exact ⟨by first | rfl | (simp [errW_none, errW_some] <;> rfl) | (simp [*, errW_none, errW_some] <;> rfl), by repeat (first | (with_reducible first | exact HB.out | apply below_alloc | apply pw_below_drewN | apply below_drew1 | refine below_set ?_ GE259.out) | exact HB.out)⟩
                  · replace c17 := Bool.eq_false_iff.mpr c17
                    subst c17
                    have H1 : ((spigotref01_Of.f kj11 10).bind fun bt262 => ((spigotref01_Mul.f kj11 x260000_2 x260001_2 bt262.1 bt262.2).bind fun bt266 => (if 0 ≤ x4_2 then (if x4_2 < (a0.size : Int) then ((spigotref01_Of.f kj11 (((bt a0 x4_2) - 48) % 256)).bind fun bt270 => ((spigotref01_Add.f kj11 bt266.1 bt266.2 bt270.1 bt270.2).bind fun bt274 => (spigotref11_Number_p.l0 kj11 a0 (wrap64 (x4_2 + 1)) bt274.1 bt274.2))) else (none)) else (none)))) = some r := by rw [if_neg (show ¬ (false = true) by decide)] at H; exact H
                    clear H
                    have H := H1
                    clear H1
                    replace H := Option.bind_eq_some_iff.mp H
                    obtain ⟨⟨t262, t263⟩, A180, H⟩ := H
                    replace H : ((spigotref01_Mul.f kj11 x260000_2 x260001_2 t262 t263).bind fun bt266 => (if 0 ≤ x4_2 then (if x4_2 < (a0.size : Int) then ((spigotref01_Of.f kj11 (((bt a0 x4_2) - 48) % 256)).bind fun bt270 => ((spigotref01_Add.f kj11 bt266.1 bt266.2 bt270.1 bt270.2).bind fun bt274 => (spigotref11_Number_p.l0 kj11 a0 (wrap64 (x4_2 + 1)) bt274.1 bt274.2))) else (none)) else (none))) = some r := H
                    have A18 := Aside0.mk A180
                    clear A180
                    replace H := Option.bind_eq_some_iff.mp H
                    obtain ⟨⟨t266, t267⟩, A190, H⟩ := H
                    replace H : (if 0 ≤ x4_2 then (if x4_2 < (a0.size : Int) then ((spigotref01_Of.f kj11 (((bt a0 x4_2) - 48) % 256)).bind fun bt270 => ((spigotref01_Add.f kj11 t266 t267 bt270.1 bt270.2).bind fun bt274 => (spigotref11_Number_p.l0 kj11 a0 (wrap64 (x4_2 + 1)) bt274.1 bt274.2))) else (none)) else (none)) = some r := H
                    have A19 := Aside0.mk A190
                    clear A190
                    by_cases c20 : 0 ≤ x4_2
                    · rw [if_pos c20] at H
                      have c20b0 : decide (0 ≤ x4_2) = true := decide_eq_true c20
                      clear c20
                      by_cases c21 : x4_2 < (a0.size : Int)
                      · rw [if_pos c21] at H
                        have c21b0 : decide (x4_2 < (a0.size : Int)) = true := decide_eq_true c21
                        clear c21
                        replace H := Option.bind_eq_some_iff.mp H
                        obtain ⟨⟨t270, t271⟩, A230, H⟩ := H
                        replace H : ((spigotref01_Add.f kj11 t266 t267 t270 t271).bind fun bt274 => (spigotref11_Number_p.l0 kj11 a0 (wrap64 (x4_2 + 1)) bt274.1 bt274.2)) = some r := H
                        have A23 := Aside0.mk A230
                        clear A230
                        replace H := Option.bind_eq_some_iff.mp H
                        obtain ⟨⟨t274, t275⟩, A240, H⟩ := H
                        replace H : (spigotref11_Number_p.l0 kj11 a0 (wrap64 (x4_2 + 1)) t274 t275) = some r := H
                        have A24 := Aside0.mk A240
                        clear A240
                        have H' := Aside0.mk H
                        clear H
                        try go_wp2
                        have n0_ := Aside0.mk (Kd.R_drew HO_260001.out)
                        have n1_ := Aside0.mk (blk_drew BK259.out)
                        have n2_ := Aside0.mk (below_drew1 HB.out)
                        clear HO_260001
                        clear BK259
                        clear HB
                        have HO_260001 := n0_
                        have BK259 := n1_
                        have HB := n2_
                        clear n0_ n1_ n2_
                        have p22 : 0 ≤ (x4_2 : Int) := of_decide_eq_true (by first | (with_reducible assumption) | assumption)
                        have q22 : x4_2 < (a0.size : Int) := of_decide_eq_true (by first | (with_reducible assumption) | assumption)
                        have hx22 := bt_at a0 x4_2
                        replace p22 := eq_true p22
                        replace q22 := eq_true q22
                        have hw8_ : IntKind.i64.wrap (IntKind.u8.wrap (bt a0 x4_2 - 48)) = (bt a0 x4_2 - 48) % 256 := by
                          rw [i64_w]
                          exact w64 (Int.le_trans (by decide) (Int.emod_nonneg _ (by decide))) (Int.le_trans (Int.le_of_lt (Int.emod_lt_of_pos _ (by decide))) (by decide))
                        refine start_ (n := 11) (S := fun w' => w'.cell? ⟨gb259, 0, none⟩ = some (.bool x260000_2) ∧ w'.cell? ⟨gb259, 1, none⟩ = some (u260001)) (ds := [10]) #[false, false, false, false, false, false, false, false, false, false, false] (by kernel_rfl) rfl rfl ⟨(blk_cell BK259.out 0).trans rfl, (blk_cell BK259.out 1).trans rfl⟩ (fun hHeld => ?_); refine with_tabW spigotref11_Number_p.tab9 spigotref11_Number_p.bits9 (fun HT_ HW_ => ?_)
                        generalize wc.drew = w25 at HO_260001 BK259 HB hHeld ⊢
                        refine pure_ (i := 3) (N := some 45) (v := ?_) (a' := ?_) #[false, false, false, true, false, false, false, false, false, false, false] rfl rfl (any_of HT_.out (by kernel_rfl)) (fun _ _ _ h => h) (Or.inl ⟨by rfl, ?_⟩) ?_ ?_
                        rotate_left
                        · intro w'
                          go_simp
                          with_reducible rfl
                        rotate_left
                        · simp only [Act.put, List.setIfInBounds_toArray, List.set_cons_zero, List.set_cons_succ, i64_w, i32_w]
                          rfl
                        refine pure_ (i := 4) (N := some 46) (v := ?_) (a' := ?_) #[false, false, false, true, true, false, false, false, false, false, false] rfl rfl (any_of HT_.out (by kernel_rfl)) (fun _ _ _ h => h) (Or.inl ⟨by rfl, ?_⟩) ?_ ?_
                        rotate_left
                        · intro w'
                          go_simp
                          with_reducible rfl
                        rotate_left
                        · simp only [Act.put, List.setIfInBounds_toArray, List.set_cons_zero, List.set_cons_succ, i64_w, i32_w]
                          rfl
                        refine take_ (i := 0) (N := some 42) (v := ?_) (a' := ?_) #[true, false, false, true, true, false, false, false, false, false, false] rfl rfl (take_ofW HT_.out HW_.out (by kernel_rfl)) (fun _ _ _ h => h) (Or.inl ⟨by rfl, ?_⟩) hHeld ?_ ?_
                        rotate_left
                        · rintro w' ⟨s0, s1⟩
                          go_simp
                          with_reducible rfl
                        rotate_left
                        · simp only [Act.put, List.setIfInBounds_toArray, List.set_cons_zero, List.set_cons_succ, i64_w, i32_w]
                          rfl
                        refine take_ (i := 5) (N := some 47) (v := ?_) (a' := ?_) #[true, false, false, true, true, true, false, false, false, false, false] rfl rfl (take_ofW HT_.out HW_.out (by kernel_rfl)) (fun _ _ _ h => h) (Or.inl ⟨by rfl, ?_⟩) hHeld ?_ ?_
                        rotate_left
                        · rintro w' ⟨s0, s1⟩
                          go_simp
                          with_reducible rfl
                        rotate_left
                        · simp only [Act.put, List.setIfInBounds_toArray, List.set_cons_zero, List.set_cons_succ, i64_w, i32_w]
                          rfl
                        refine pure_ (i := 6) (N := some 48) (v := ?_) (a' := ?_) #[true, false, false, true, true, true, true, false, false, false, false] rfl rfl (any_of HT_.out (by kernel_rfl)) (fun _ _ _ h => h) (Or.inl ⟨by rfl, ?_⟩) ?_ ?_
                        rotate_left
                        · intro w'
                          go_simp
                          with_reducible rfl
                        rotate_left
                        · simp only [Act.put, List.setIfInBounds_toArray, List.set_cons_zero, List.set_cons_succ, i64_w, i32_w]
                          rfl
                        refine pure_ (i := 7) (N := some 49) (v := ?_) (a' := ?_) #[true, false, false, true, true, true, true, true, false, false, false] rfl rfl (any_of HT_.out (by kernel_rfl)) (fun _ _ _ h => h) (Or.inl ⟨by rfl, ?_⟩) ?_ ?_
                        rotate_left
                        · intro w'
                          go_simp
                          with_reducible rfl
                        rotate_left
                        · simp only [Act.put, List.setIfInBounds_toArray, List.set_cons_zero, List.set_cons_succ, i64_w, i32_w]
                          rfl
                        refine one_ (i := 1) (N := some 43) #[true, true, false, true, true, true, true, true, false, false, false] rfl rfl (one_of HT_.out (by kernel_rfl)) (by decide) (fun K hK => ?_)
                        refine goes_ Tryz.func83 (by kernel_rfl) rfl #[.int .i64 10] (by rfl) rfl rfl (by (try simp only [List.map_toArray, List.map_cons, List.map_nil]); first | done | rfl | (simp only [List.length_drop, List.length_take]; rfl)) ?_
                        with_reducible refine (spigotref01_Of.calls kj11 10 t262 t263 _ A18.out).mono ?_
                        rintro e w26 ⟨v264, rfl, ho0, hb⟩
                        refine ⟨_, rfl, ?_⟩
                        have n0_ := Aside0.mk (Kd.R_elder' (by (with_reducible repeat (first | apply Kd.R_alloc | apply Kd.R_drewN | apply Kd.R_drew)); exact HO_260001.out) (Kd.R_base ho0) hb)
                        have n1_ := Aside0.mk (Kd.R_lower (Kd.R_new' ho0 (Kd.R_lt (by (with_reducible repeat (first | apply Kd.R_alloc | apply Kd.R_drewN | apply Kd.R_drew)); exact HO_260001.out))) (below_size (by repeat (first | (with_reducible first | exact HB.out | apply below_alloc | apply pw_below_drewN | apply below_drew1 | refine below_set ?_ GE259.out) | exact HB.out))))
                        have n2_ := Aside0.mk (blk_below (g := gb259) (o := .cells #[.bool x260000_2, u260001] 122 (0, 0)) (by (with_reducible repeat (first | refine blk_drewN ?_ _ | refine blk_drew ?_ | refine blk_alloc ?_ _)); exact BK259.out) hb)
                        have n3_ := Aside0.mk (below_step (by repeat (first | (with_reducible first | exact HB.out | apply below_alloc | apply pw_below_drewN | apply below_drew1 | refine below_set ?_ GE259.out) | exact HB.out)) hb)
                        clear HO_260001
                        clear BK259
                        clear HB
                        have HO_260001 := n0_
                        have HO265 := n1_
                        have BK259 := n2_
                        have HB := n3_
                        clear n0_ n1_ n2_ n3_
                        (try clear hb)
                        (try clear hb2)
                        (try clear hk)
                        (try clear hi)
                        (try clear ho0)
                        obtain ⟨Ao27, co27, eo27⟩ := Kd.R_slice HO_260001.out
                        (first | subst eo27 | (injection eo27 with f1_ f2_ f3_; have f4_ := f1_.symm; have f5_ := f3_.symm; clear f1_ f2_ f3_; subst f4_; subst f5_))
                        obtain ⟨Ao28, co28, eo28⟩ := Kd.R_slice HO265.out
                        (first | subst eo28 | (injection eo28 with f1_ f2_ f3_; have f4_ := f1_.symm; have f5_ := f3_.symm; clear f1_ f2_ f3_; subst f4_; subst f5_))
                        refine hK.out _ _ ⟨(blk_cell BK259.out 0).trans rfl, (blk_cell BK259.out 1).trans rfl⟩ (fun hHeld => ?_)
                        clear hK K
                        refine norm_ (a' := ?_) ?_ ?_
                        rotate_left
                        · show Act.put _ (some 43) _ = _
                          simp only [Act.put, List.setIfInBounds_toArray, List.set_cons_zero, List.set_cons_succ, i64_w, i32_w]
                          rfl
                        refine one_ (i := 2) (N := some 44) #[true, true, true, true, true, true, true, true, false, false, false] rfl rfl (one_of HT_.out (by kernel_rfl)) (by decide) (fun K hK => ?_)
                        refine goes_ Tryz.func82 (by kernel_rfl) rfl #[.agg #[.bool x260000_2, .slice Ao27 x260001_2.length co27], .agg #[.bool t262, .slice Ao28 t263.length co28]] (by rfl) rfl rfl (by (try simp only [List.map_toArray, List.map_cons, List.map_nil]); first | done | rfl | (simp only [List.length_drop, List.length_take]; rfl)) ?_
                        with_reducible refine (spigotref01_Mul.calls kj11 x260000_2 _ _ x260001_2 t262 _ _ t263 t266 t267 _ ?side1 ?side2 ?side3 ?side4 A19.out).mono ?_
                        (case side1 => repeat (first | exact (Kd.R_reads' HO_260001.out).2.2 | (with_reducible refine Kd.C_alloc ?_ _) | (with_reducible refine Kd.C_drewN ?_ _) | (with_reducible refine Kd.C_drew ?_)))
                        (case side2 => exact (Kd.R_reads' HO_260001.out).2.1)
                        (case side3 => repeat (first | exact (Kd.R_reads' HO265.out).2.2 | (with_reducible refine Kd.C_alloc ?_ _) | (with_reducible refine Kd.C_drewN ?_ _) | (with_reducible refine Kd.C_drew ?_)))
                        (case side4 => exact (Kd.R_reads' HO265.out).2.1)
                        rintro e w29 ⟨v268, rfl, ho0, hb⟩
                        refine ⟨_, rfl, ?_⟩
                        have n0_ := Aside0.mk (Kd.R_elder' (by (with_reducible repeat (first | apply Kd.R_alloc | apply Kd.R_drewN | apply Kd.R_drew)); exact HO_260001.out) (Kd.R_base ho0) hb)
                        have n1_ := Aside0.mk (Kd.R_elder' (by (with_reducible repeat (first | apply Kd.R_alloc | apply Kd.R_drewN | apply Kd.R_drew)); exact HO265.out) (Kd.R_base ho0) hb)
                        have n2_ := Aside0.mk (Kd.R_lower (Kd.R_new' (Kd.R_new' ho0 (Kd.R_lt (by (with_reducible repeat (first | apply Kd.R_alloc | apply Kd.R_drewN | apply Kd.R_drew)); exact HO_260001.out))) (Kd.R_lt (by (with_reducible repeat (first | apply Kd.R_alloc | apply Kd.R_drewN | apply Kd.R_drew)); exact HO265.out))) (below_size (by repeat (first | (with_reducible first | exact HB.out | apply below_alloc | apply pw_below_drewN | apply below_drew1 | refine below_set ?_ GE259.out) | exact HB.out))))
                        have n3_ := Aside0.mk (blk_below (g := gb259) (o := .cells #[.bool x260000_2, .slice Ao27 x260001_2.length co27] 122 (0, 0)) (by (with_reducible repeat (first | refine blk_drewN ?_ _ | refine blk_drew ?_ | refine blk_alloc ?_ _)); exact BK259.out) hb)
                        have n4_ := Aside0.mk (below_step (by repeat (first | (with_reducible first | exact HB.out | apply below_alloc | apply pw_below_drewN | apply below_drew1 | refine below_set ?_ GE259.out) | exact HB.out)) hb)
                        clear HO_260001
                        clear HO265
                        clear BK259
                        clear HB
                        have HO_260001 := n0_
                        have HO265 := n1_
                        have HO269 := n2_
                        have BK259 := n3_
                        have HB := n4_
                        clear n0_ n1_ n2_ n3_ n4_
                        (try clear hb)
                        (try clear hb2)
                        (try clear hk)
                        (try clear hi)
                        (try clear ho0)
                        refine hK.out _ _ ⟨(blk_cell BK259.out 0).trans rfl, (blk_cell BK259.out 1).trans rfl⟩ (fun hHeld => ?_)
                        clear hK K
                        refine norm_ (a' := ?_) ?_ ?_
                        rotate_left
                        · show Act.put _ (some 44) _ = _
                          simp only [Act.put, List.setIfInBounds_toArray, List.set_cons_zero, List.set_cons_succ, i64_w, i32_w]
                          rfl
                        refine one_ (i := 8) (N := some 50) #[true, true, true, true, true, true, true, true, true, false, false] rfl rfl (one_of HT_.out (by kernel_rfl)) (by decide) (fun K hK => ?_)
                        refine goes_ Tryz.func83 (by kernel_rfl) rfl #[.int .i64 (((bt a0 x4_2) - 48) % 256)] (by rfl) rfl rfl (by (try simp only [List.map_toArray, List.map_cons, List.map_nil]); first | done | rfl | (simp only [List.length_drop, List.length_take]; rfl)) ?_
                        with_reducible refine (spigotref01_Of.calls kj11 (((bt a0 x4_2) - 48) % 256) t270 t271 _ A23.out).mono ?_
                        rintro e w30 ⟨v272, rfl, ho0, hb⟩
                        refine ⟨_, rfl, ?_⟩
                        have n0_ := Aside0.mk (Kd.R_elder' (by (with_reducible repeat (first | apply Kd.R_alloc | apply Kd.R_drewN | apply Kd.R_drew)); exact HO_260001.out) (Kd.R_base ho0) hb)
                        have n1_ := Aside0.mk (Kd.R_elder' (by (with_reducible repeat (first | apply Kd.R_alloc | apply Kd.R_drewN | apply Kd.R_drew)); exact HO265.out) (Kd.R_base ho0) hb)
                        have n2_ := Aside0.mk (Kd.R_elder' (by (with_reducible repeat (first | apply Kd.R_alloc | apply Kd.R_drewN | apply Kd.R_drew)); exact HO269.out) (Kd.R_base ho0) hb)
                        have n3_ := Aside0.mk (Kd.R_lower (Kd.R_new' (Kd.R_new' (Kd.R_new' ho0 (Kd.R_lt (by (with_reducible repeat (first | apply Kd.R_alloc | apply Kd.R_drewN | apply Kd.R_drew)); exact HO_260001.out))) (Kd.R_lt (by (with_reducible repeat (first | apply Kd.R_alloc | apply Kd.R_drewN | apply Kd.R_drew)); exact HO265.out))) (Kd.R_lt (by (with_reducible repeat (first | apply Kd.R_alloc | apply Kd.R_drewN | apply Kd.R_drew)); exact HO269.out))) (below_size (by repeat (first | (with_reducible first | exact HB.out | apply below_alloc | apply pw_below_drewN | apply below_drew1 | refine below_set ?_ GE259.out) | exact HB.out))))
                        have n4_ := Aside0.mk (blk_below (g := gb259) (o := .cells #[.bool x260000_2, .slice Ao27 x260001_2.length co27] 122 (0, 0)) (by (with_reducible repeat (first | refine blk_drewN ?_ _ | refine blk_drew ?_ | refine blk_alloc ?_ _)); exact BK259.out) hb)
                        have n5_ := Aside0.mk (below_step (by repeat (first | (with_reducible first | exact HB.out | apply below_alloc | apply pw_below_drewN | apply below_drew1 | refine below_set ?_ GE259.out) | exact HB.out)) hb)
                        clear HO_260001
                        clear HO265
                        clear HO269
                        clear BK259
                        clear HB
                        have HO_260001 := n0_
                        have HO265 := n1_
                        have HO269 := n2_
                        have HO273 := n3_
                        have BK259 := n4_
                        have HB := n5_
                        clear n0_ n1_ n2_ n3_ n4_ n5_
                        (try clear hb)
                        (try clear hb2)
                        (try clear hk)
                        (try clear hi)
                        (try clear ho0)
                        obtain ⟨Ao31, co31, eo31⟩ := Kd.R_slice HO269.out
                        (first | subst eo31 | (injection eo31 with f1_ f2_ f3_; have f4_ := f1_.symm; have f5_ := f3_.symm; clear f1_ f2_ f3_; subst f4_; subst f5_))
                        obtain ⟨Ao32, co32, eo32⟩ := Kd.R_slice HO273.out
                        (first | subst eo32 | (injection eo32 with f1_ f2_ f3_; have f4_ := f1_.symm; have f5_ := f3_.symm; clear f1_ f2_ f3_; subst f4_; subst f5_))
                        refine hK.out _ _ ⟨(blk_cell BK259.out 0).trans rfl, (blk_cell BK259.out 1).trans rfl⟩ (fun hHeld => ?_)
                        clear hK K
                        refine norm_ (a' := ?_) ?_ ?_
                        rotate_left
                        · show Act.put _ (some 50) _ = _
                          simp only [Act.put, List.setIfInBounds_toArray, List.set_cons_zero, List.set_cons_succ, i64_w, i32_w]
                          rfl
                        refine one_ (i := 9) (N := some 51) #[true, true, true, true, true, true, true, true, true, true, false] rfl rfl (one_of HT_.out (by kernel_rfl)) (by decide) (fun K hK => ?_)
                        refine goes_ Tryz.func81 (by kernel_rfl) rfl #[.agg #[.bool t266, .slice Ao31 t267.length co31], .agg #[.bool t270, .slice Ao32 t271.length co32]] (by rfl) rfl rfl (by (try simp only [List.map_toArray, List.map_cons, List.map_nil]); first | done | rfl | (simp only [List.length_drop, List.length_take]; rfl)) ?_
                        with_reducible refine (spigotref01_Add.calls kj11 t266 _ _ t267 t270 _ _ t271 t274 t275 _ ?side1 ?side2 ?side3 ?side4 A24.out).mono ?_
                        (case side1 => repeat (first | exact (Kd.R_reads' HO269.out).2.2 | (with_reducible refine Kd.C_alloc ?_ _) | (with_reducible refine Kd.C_drewN ?_ _) | (with_reducible refine Kd.C_drew ?_)))
                        (case side2 => exact (Kd.R_reads' HO269.out).2.1)
                        (case side3 => repeat (first | exact (Kd.R_reads' HO273.out).2.2 | (with_reducible refine Kd.C_alloc ?_ _) | (with_reducible refine Kd.C_drewN ?_ _) | (with_reducible refine Kd.C_drew ?_)))
                        (case side4 => exact (Kd.R_reads' HO273.out).2.1)
                        rintro e w33 ⟨v276, rfl, ho0, hb⟩
                        refine ⟨_, rfl, ?_⟩
                        have n0_ := Aside0.mk (Kd.R_elder' (by (with_reducible repeat (first | apply Kd.R_alloc | apply Kd.R_drewN | apply Kd.R_drew)); exact HO_260001.out) (Kd.R_base ho0) hb)
                        have n1_ := Aside0.mk (Kd.R_elder' (by (with_reducible repeat (first | apply Kd.R_alloc | apply Kd.R_drewN | apply Kd.R_drew)); exact HO265.out) (Kd.R_base ho0) hb)
                        have n2_ := Aside0.mk (Kd.R_elder' (by (with_reducible repeat (first | apply Kd.R_alloc | apply Kd.R_drewN | apply Kd.R_drew)); exact HO269.out) (Kd.R_base ho0) hb)
                        have n3_ := Aside0.mk (Kd.R_elder' (by (with_reducible repeat (first | apply Kd.R_alloc | apply Kd.R_drewN | apply Kd.R_drew)); exact HO273.out) (Kd.R_base ho0) hb)
                        have n4_ := Aside0.mk (Kd.R_lower (Kd.R_new' (Kd.R_new' (Kd.R_new' (Kd.R_new' ho0 (Kd.R_lt (by (with_reducible repeat (first | apply Kd.R_alloc | apply Kd.R_drewN | apply Kd.R_drew)); exact HO_260001.out))) (Kd.R_lt (by (with_reducible repeat (first | apply Kd.R_alloc | apply Kd.R_drewN | apply Kd.R_drew)); exact HO265.out))) (Kd.R_lt (by (with_reducible repeat (first | apply Kd.R_alloc | apply Kd.R_drewN | apply Kd.R_drew)); exact HO269.out))) (Kd.R_lt (by (with_reducible repeat (first | apply Kd.R_alloc | apply Kd.R_drewN | apply Kd.R_drew)); exact HO273.out))) (below_size (by repeat (first | (with_reducible first | exact HB.out | apply below_alloc | apply pw_below_drewN | apply below_drew1 | refine below_set ?_ GE259.out) | exact HB.out))))
                        have n5_ := Aside0.mk (blk_below (g := gb259) (o := .cells #[.bool x260000_2, .slice Ao27 x260001_2.length co27] 122 (0, 0)) (by (with_reducible repeat (first | refine blk_drewN ?_ _ | refine blk_drew ?_ | refine blk_alloc ?_ _)); exact BK259.out) hb)
                        have n6_ := Aside0.mk (below_step (by repeat (first | (with_reducible first | exact HB.out | apply below_alloc | apply pw_below_drewN | apply below_drew1 | refine below_set ?_ GE259.out) | exact HB.out)) hb)
                        clear HO_260001
                        clear HO265
                        clear HO269
                        clear HO273
                        clear BK259
                        clear HB
                        have HO_260001 := n0_
                        have HO265 := n1_
                        have HO269 := n2_
                        have HO273 := n3_
                        have HO277 := n4_
                        have BK259 := n5_
                        have HB := n6_
                        clear n0_ n1_ n2_ n3_ n4_ n5_ n6_
                        (try clear hb)
                        (try clear hb2)
                        (try clear hk)
                        (try clear hi)
                        (try clear ho0)
                        obtain ⟨Ao35, co35, eo35⟩ := Kd.R_slice HO277.out
                        (first | subst eo35 | (injection eo35 with f1_ f2_ f3_; have f4_ := f1_.symm; have f5_ := f3_.symm; clear f1_ f2_ f3_; subst f4_; subst f5_))
                        refine hK.out _ _ ⟨(blk_cell BK259.out 0).trans rfl, (blk_cell BK259.out 1).trans rfl⟩ (fun hHeld => ?_)
                        clear hK K
                        refine norm_ (a' := ?_) ?_ ?_
                        rotate_left
                        · show Act.put _ (some 51) _ = _
                          simp only [Act.put, List.setIfInBounds_toArray, List.set_cons_zero, List.set_cons_succ, i64_w, i32_w]
                          rfl
                        refine last_ (i := 10) (N := none) #[true, true, true, true, true, true, true, true, true, true, true] rfl rfl (one_of HT_.out (by kernel_rfl)) (by decide) (fun K hK => ?_)
                        have hs34 : w33.cell? ⟨gb259, 0, none⟩ = some (.bool x260000_2) := (blk_cell BK259.out 0).trans rfl
                        have hfs34 := blk_frozen BK259.out 0
                        have hs36 : w33.cell? ⟨gb259, 1, none⟩ = some (.slice Ao27 x260001_2.length co27) := (blk_cell BK259.out 1).trans rfl
                        have hfs36 := blk_frozen BK259.out 1
                        refine skip_ (w1 := ?_) (by rfl) rfl ?_ ?_
                        rotate_left
                        · go_simp
                          rfl
                        refine hK.out _ _ ?_
                        clear hK K
                        refine done_ (done_of HT_.out (by kernel_rfl)) ?_
                        try go_wp2
                        go_roundg kj11
                        case measure => have := HJ1.out; have := HK2.out; have := HJ11.out; omega
                        case rel => exact ⟨(wrap64 (x4_2 + 1)), (t274), (t275), (.slice Ao35 t275.length co35), (by first | rfl | (simp; done) | (simp [*]; done)), H', ⟨by have := HJ1.out; have := HK2.out; have := HJ11.out; omega⟩, ⟨by (with_reducible repeat (first | apply Kd.R_alloc | apply Kd.R_drewN | apply Kd.R_drew)); exact Kd.R_mono (Kd.R_far (p := ⟨gb259, 1, none⟩) (Kd.R_far (p := ⟨gb259, 0, none⟩) (Kd.R_types HO277.out BK259.out (by decide)) (fun _ hk => hk.2) (.bool t274)) (fun _ hk => hk.2) (.slice Ao35 t275.length co35)) (fun _ hk => trivial)⟩, ⟨by (with_reducible repeat (first | refine blk_drewN ?_ _ | refine blk_drew ?_ | refine blk_alloc ?_ _)); refine blk_put (cs := #[.bool t274, .slice Ao27 x260001_2.length co27]) ?_ 1 _ rfl; (with_reducible repeat (first | refine blk_drewN ?_ _ | refine blk_drew ?_ | refine blk_alloc ?_ _)); refine blk_put (cs := #[.bool x260000_2, .slice Ao27 x260001_2.length co27]) ?_ 0 _ rfl; (with_reducible repeat (first | refine blk_drewN ?_ _ | refine blk_drew ?_ | refine blk_alloc ?_ _)); exact BK259.out⟩, ⟨by repeat (first | (with_reducible first | exact HB.out | apply below_alloc | apply pw_below_drewN | apply below_drew1 | refine below_set ?_ GE259.out) | exact HB.out)⟩⟩
                      · rw [if_neg c21] at H
                        exact absurd H (by simp)
                    · rw [if_neg c20] at H
                      exact absurd H (by simp)
            · rw [if_neg c11] at H
              have c11b0 : decide (x4_2 < (a0.size : Int)) = false := decide_eq_false c11
              clear c11
              replace H := Option.bind_eq_some_iff.mp H
              obtain ⟨⟨t260, t261⟩, A370, H⟩ := H
              replace H : (if t261 = true then (some t260) else (some (-1))) = some r := H
              have A37 := Aside0.mk A370
              clear A370
              by_cases c38 : t261 = true
              · subst c38
                have H1 : (some t260) = some r := by rw [if_pos rfl] at H; exact H
                clear H
                have H := H1
                clear H1
                obtain rfl := Option.some.inj H
                have hcz39_0 : wr.cell? ⟨gb259, 0, none⟩ = some (.bool x260000_2) := (blk_cell BK259.out 0).trans rfl
                have hcz39_1 : wr.cell? ⟨gb259, 1, none⟩ = some (u260001) := (blk_cell BK259.out 1).trans rfl
                have hfz39_0 := blk_frozen BK259.out 0
                have hfz39_1 := blk_frozen BK259.out 1
                obtain ⟨Ao40, co40, eo40⟩ := Kd.R_slice HO_260001.out
                subst eo40
                go_wp2_with (first | ((with_reducible refine gate_callee (f := 84) rfl ?_); refine goesL_ (some 54) rfl rfl Tryz.func84 (by kernel_rfl) rfl #[.agg #[.bool x260000_2, .slice Ao40 x260001_2.length co40]] rfl (by (try simp only [List.map_toArray, List.map_cons, List.map_nil]); first | done | rfl | (simp only [List.length_drop, List.length_take]; rfl)) ?_; (with_reducible refine (spigotref01_Int.calls k2 x260000_2 _ _ x260001_2 t260 true _ ?side1 ?side2 A37.out).mono ?_); (case side1 => repeat (first | exact (Kd.R_reads' HO_260001.out).2.2 | (with_reducible refine Kd.C_alloc ?_ _) | (with_reducible refine Kd.C_drewN ?_ _) | (with_reducible refine Kd.C_drew ?_))); (case side2 => exact (Kd.R_reads' HO_260001.out).2.1); rintro e w41 ⟨rfl, hb⟩; refine ⟨_, rfl, ?_⟩; have n0_ := Aside0.mk (Kd.R_below (by (with_reducible repeat (first | apply Kd.R_alloc | apply Kd.R_drewN | apply Kd.R_drew)); exact HO_260001.out) hb); have n1_ := Aside0.mk (blk_below (g := gb259) (o := .cells #[.bool x260000_2, .slice Ao40 x260001_2.length co40] 122 (0, 0)) (by (with_reducible repeat (first | refine blk_drewN ?_ _ | refine blk_drew ?_ | refine blk_alloc ?_ _)); exact BK259.out) hb); have n2_ := Aside0.mk (below_step (by repeat (first | (with_reducible first | exact HB.out | apply below_alloc | apply pw_below_drewN | apply below_drew1 | refine below_set ?_ GE259.out) | exact HB.out)) hb); clear HO_260001; clear BK259; clear HB; have HO_260001 := n0_; have BK259 := n1_; have HB := n2_; clear n0_ n1_ n2_; (try clear hb); (try clear hb2); (try clear hk); (try clear hi)))
                go_ret
                exact ⟨by first | rfl | (simp [errW_none, errW_some] <;> rfl) | (simp [*, errW_none, errW_some] <;> rfl), by repeat (first | (with_reducible first | exact HB.out | apply below_alloc | apply pw_below_drewN | apply below_drew1 | refine below_set ?_ GE259.out) | exact HB.out)⟩
              · replace c38 := Bool.eq_false_iff.mpr c38
                subst c38
                have H1 : (some (-1)) = some r := by rw [if_neg (show ¬ (false = true) by decide)] at H; exact H
                clear H
                have H := H1
                clear H1
                obtain rfl := Option.some.inj H
                have hcz42_0 : wr.cell? ⟨gb259, 0, none⟩ = some (.bool x260000_2) := (blk_cell BK259.out 0).trans rfl
                have hcz42_1 : wr.cell? ⟨gb259, 1, none⟩ = some (u260001) := (blk_cell BK259.out 1).trans rfl
                have hfz42_0 := blk_frozen BK259.out 0
                have hfz42_1 := blk_frozen BK259.out 1
                obtain ⟨Ao43, co43, eo43⟩ := Kd.R_slice HO_260001.out
                subst eo43
                go_wp2_with (first | ((with_reducible refine gate_callee (f := 84) rfl ?_); refine goesL_ (some 54) rfl rfl Tryz.func84 (by kernel_rfl) rfl #[.agg #[.bool x260000_2, .slice Ao43 x260001_2.length co43]] rfl (by (try simp only [List.map_toArray, List.map_cons, List.map_nil]); first | done | rfl | (simp only [List.length_drop, List.length_take]; rfl)) ?_; (with_reducible refine (spigotref01_Int.calls k2 x260000_2 _ _ x260001_2 t260 false _ ?side1 ?side2 A37.out).mono ?_); (case side1 => repeat (first | exact (Kd.R_reads' HO_260001.out).2.2 | (with_reducible refine Kd.C_alloc ?_ _) | (with_reducible refine Kd.C_drewN ?_ _) | (with_reducible refine Kd.C_drew ?_))); (case side2 => exact (Kd.R_reads' HO_260001.out).2.1); rintro e w44 ⟨rfl, hb⟩; refine ⟨_, rfl, ?_⟩; have n0_ := Aside0.mk (Kd.R_below (by (with_reducible repeat (first | apply Kd.R_alloc | apply Kd.R_drewN | apply Kd.R_drew)); exact HO_260001.out) hb); have n1_ := Aside0.mk (blk_below (g := gb259) (o := .cells #[.bool x260000_2, .slice Ao43 x260001_2.length co43] 122 (0, 0)) (by (with_reducible repeat (first | refine blk_drewN ?_ _ | refine blk_drew ?_ | refine blk_alloc ?_ _)); exact BK259.out) hb); have n2_ := Aside0.mk (below_step (by repeat (first | (with_reducible first | exact HB.out | apply below_alloc | apply pw_below_drewN | apply below_drew1 | refine below_set ?_ GE259.out) | exact HB.out)) hb); clear HO_260001; clear BK259; clear HB; have HO_260001 := n0_; have BK259 := n1_; have HB := n2_; clear n0_ n1_ n2_; (try clear hb); (try clear hb2); (try clear hk); (try clear hi)))
                go_ret
                exact ⟨by first | rfl | (simp [errW_none, errW_some] <;> rfl) | (simp [*, errW_none, errW_some] <;> rfl), by repeat (first | (with_reducible first | exact HB.out | apply below_alloc | apply pw_below_drewN | apply below_drew1 | refine below_set ?_ GE259.out) | exact HB.out)⟩
theorem at_eq (l : List Bool) (i : Nat) : spigotref01_at.f l (i : Int) = some (l.getD i false) := by
  unfold spigotref01_at.f
  by_cases h : i < l.length
  · rw [if_pos (by omega), if_pos (by omega)]; simp [rdOf]
  · rw [if_neg (by omega), List.getD_eq_getElem?_getD, List.getElem?_eq_none (by omega)]; rfl
theorem trim_ev (l : List Bool) (hl : l.length ≤ 2000) : ∀ n : Nat, n ≤ l.length → (∀ x ∈ l.drop n, x = false) → Ev (fun k => spigotref01_trim.l0 k l (n : Int)) (natBits (bitsVal l)) := by
  intro n
  induction n with
  | zero =>
    intro _ hf
    rw [List.drop_zero] at hf
    rw [bitsVal_false l hf, natBits_zero]
    refine Ev.step (f := fun _ => some []) (fun k => ?_) (Ev.now _)
    simp only [spigotref01_trim.l0]
    rw [if_neg (by omega), if_pos (by omega), if_pos (by omega)]; simp
  | succ n ih =>
    intro hn hf
    have hlt : n < l.length := by omega
    have e1 : wrap64 (((n + 1 : Nat) : Int) - 1) = (n : Int) := by rw [w64 (by omega) (by omega)]; omega
    have e2 : rdOf false l (n : Int) = l[n] := by simp [rdOf, hlt]
    by_cases c : l[n] = true
    · have hv : natBits (bitsVal l) = l.take (n + 1) := by
        have h1 := bitsVal_append (l.take (n + 1)) (l.drop (n + 1))
        rw [List.take_append_drop, bitsVal_false _ hf, Nat.mul_zero, Nat.add_zero] at h1
        rw [h1]
        refine natBits_of _ (fun h => ?_)
        rw [List.getLast_eq_getElem]
        simp only [List.length_take, List.getElem_take]
        rw [show (l[min (n + 1) l.length - 1]'(by omega)) = l[n] by congr 1; omega]
        exact c
      rw [hv]
      refine Ev.step (f := fun _ => some (l.take (n + 1))) (fun k => ?_) (Ev.now _)
      simp only [spigotref01_trim.l0]
      rw [if_pos (by omega), e1, if_pos (by omega), if_pos (by omega), e2, if_pos c, if_pos (by omega), if_pos (by omega), Int.toNat_natCast]
    · refine Ev.step (f := fun k => spigotref01_trim.l0 k l (n : Int)) (fun k => ?_) (ih (by omega) (fun x hx => ?_))
      · simp only [spigotref01_trim.l0]
        rw [if_pos (by omega), e1, if_pos (by omega), if_pos (by omega), e2, if_neg c]
      · rw [List.drop_eq_getElem_cons hlt] at hx
        rcases List.mem_cons.1 hx with rfl | hx
        · simpa using c
        · exact hf x hx
theorem trim_f_ev (l : List Bool) (hl : l.length ≤ 2000) : Ev (fun k => spigotref01_trim.f k l) (natBits (bitsVal l)) := by
  have h := trim_ev l hl l.length (Nat.le_refl _) (by simp)
  exact Ev.congr (fun k => by unfold spigotref01_trim.f; rfl) h
theorem mx_nat (a b : Nat) : mx (a : Int) (b : Int) = ((max a b : Nat) : Int) := by unfold mx; split <;> omega
theorem plus_ev (a b : List Bool) (ha : a.length ≤ 1000) (hb : b.length ≤ 1000) (d : Nat) : ∀ (i : Nat) (x : List Bool) (c : Bool) (t : Nat), x.length = i → i ≤ max a.length b.length + 1 → (max a.length b.length + 1 - i ≤ d) → (i = max a.length b.length + 1 → c = false) →
    bitsVal x + 2 ^ i * (c.toNat + bitsVal (a.drop i) + bitsVal (b.drop i)) = t → Ev (fun k => spigotref01_plus.l0 k a b x c (i : Int)) (natBits t) := by
  have fin : ∀ (i : Nat) (x : List Bool) (t : Nat), x.length = i → i ≤ max a.length b.length + 1 → ¬ i < max a.length b.length → bitsVal x + 2 ^ i * (false.toNat + bitsVal (a.drop i) + bitsVal (b.drop i)) = t → Ev (fun k => spigotref01_plus.l0 k a b x false (i : Int)) (natBits t) := by
    intro i x t hx hi hge ht
    rw [List.drop_eq_nil_of_le (by omega), List.drop_eq_nil_of_le (by omega)] at ht
    have ht2 : bitsVal x = t := by simpa [bitsVal] using ht
    refine Ev.step (f := fun k => spigotref01_plus.j1 k a b x false (i : Int) false) (fun k => ?_) ?_
    · simp only [spigotref01_plus.l0]
      rw [mx_nat, if_neg (by omega)]
    · refine Ev.step (f := fun k => (spigotref01_trim.f k x).bind fun t => some t) (fun k => ?_) ?_
      · simp only [spigotref01_plus.j1]
        rw [if_neg (by decide)]
      · rw [← ht2]
        exact Ev.bind (trim_f_ev x (by omega)) (Ev.now _)
  induction d with
  | zero =>
    intro i x c t hx hi hd hc ht
    have hie : i = max a.length b.length + 1 := by omega
    obtain rfl := hc hie
    exact fin i x t hx hi (by omega) ht
  | succ d ih =>
    intro i x c t hx hi hd hc ht
    by_cases hgo : i < max a.length b.length ∨ c = true
    · have hi2 : i ≤ max a.length b.length := by
        rcases hgo with g | g
        · omega
        · by_cases e : i = max a.length b.length + 1
          · rw [hc e] at g; cases g
          · omega
      have hA := bitsVal_drop a i
      have hB := bitsVal_drop b i
      rw [hA, hB] at ht
      refine Ev.step (f := fun k => spigotref01_plus.j1 k a b x c (i : Int) true) (fun k => ?_) ?_
      · simp only [spigotref01_plus.l0]
        rw [mx_nat]
        by_cases g : i < max a.length b.length
        · rw [if_pos (by omega)]
        · rw [if_neg (by omega)]
          rcases hgo with g2 | g2
          · exact absurd g2 g
          · rw [g2]
      · have next : ∀ (s c' : Bool), (a.getD i false).toNat + (b.getD i false).toNat + c.toNat = s.toNat + 2 * c'.toNat → (∀ k, spigotref01_plus.j1 (k + 1) a b x c (i : Int) true = spigotref01_plus.l0 k a b (x ++ [s]) c' (wrap64 ((i : Int) + 1))) → Ev (fun k => spigotref01_plus.j1 k a b x c (i : Int) true) (natBits t) := by
          intro s c' hs hk
          refine Ev.step hk ?_
          rw [w64 (by omega) (by omega), show ((i : Int) + 1) = ((i + 1 : Nat) : Int) by omega]
          refine ih (i + 1) (x ++ [s]) c' t (by simp [hx]) (by omega) (by omega) (fun e => ?_) ?_
          · have hge : ¬ i < max a.length b.length := by omega
            have ea : a.getD i false = false := by rw [List.getD_eq_getElem?_getD, List.getElem?_eq_none (by omega)]; rfl
            have eb : b.getD i false = false := by rw [List.getD_eq_getElem?_getD, List.getElem?_eq_none (by omega)]; rfl
            rw [ea, eb] at hs
            have := toNat_le c
            have := toNat_le s
            cases c' with
            | false => rfl
            | true => exfalso; have h1 : (true : Bool).toNat = 1 := rfl; have h0 : (false : Bool).toNat = 0 := rfl; omega
          · rw [bitsVal_append, hx]
            have e1 : bitsVal [s] = s.toNat := by simp [bitsVal]
            rw [e1]
            exact bits_step _ _ _ _ _ _ _ _ _ _ hs ht
        have ea := at_eq a i
        have eb := at_eq b i
        generalize a.getD i false = p at *
        generalize b.getD i false = q at *
        cases p <;> cases q <;> cases c
        · exact next false false rfl (fun k => by simp only [spigotref01_plus.j1, ea, eb, Option.bind_some, if_true]; rw [if_pos (by omega)]; rfl)
        · exact next true false rfl (fun k => by simp only [spigotref01_plus.j1, ea, eb, Option.bind_some, if_true]; rw [if_pos (by omega)]; rfl)
        · exact next true false rfl (fun k => by simp only [spigotref01_plus.j1, ea, eb, Option.bind_some, if_true]; rw [if_pos (by omega)]; rfl)
        · exact next false true rfl (fun k => by simp only [spigotref01_plus.j1, ea, eb, Option.bind_some, if_true]; rw [if_pos (by omega)]; rfl)
        · exact next true false rfl (fun k => by simp only [spigotref01_plus.j1, ea, eb, Option.bind_some, if_true]; rw [if_pos (by omega)]; rfl)
        · exact next false true rfl (fun k => by simp only [spigotref01_plus.j1, ea, eb, Option.bind_some, if_true]; rw [if_pos (by omega)]; rfl)
        · exact next false true rfl (fun k => by simp only [spigotref01_plus.j1, ea, eb, Option.bind_some, if_true]; rw [if_pos (by omega)]; rfl)
        · exact next true true rfl (fun k => by simp only [spigotref01_plus.j1, ea, eb, Option.bind_some, if_true]; rw [if_pos (by omega)]; rfl)
    · have hcf : c = false := by
        cases c with
        | false => rfl
        | true => exact absurd (.inr rfl) hgo
      subst hcf
      exact fin i x t hx hi (fun g => hgo (.inl g)) ht
theorem plus_f_ev (a b : List Bool) (ha : a.length ≤ 1000) (hb : b.length ≤ 1000) : Ev (fun k => spigotref01_plus.f k a b) (natBits (bitsVal a + bitsVal b)) := by
  have h := plus_ev a b ha hb (max a.length b.length + 1) 0 [] false (bitsVal a + bitsVal b) rfl (by omega) (by omega) (fun e => by omega) (by simp [bitsVal])
  exact Ev.congr (fun k => by unfold spigotref01_plus.f; rfl) h
theorem mul_len (a b : List Bool) (ha : a.length ≤ 400) (i : Nat) (hi : i ≤ 400) (hb : i ≤ b.length) : (natBits (bitsVal a * bitsVal (b.take i))).length ≤ 800 := by
  have hva : bitsVal a < 2 ^ a.length := bitsVal_lt a
  have hvb : bitsVal (b.take i) < 2 ^ i := by have := bitsVal_lt (b.take i); rwa [List.length_take, Nat.min_eq_left hb] at this
  have h1 : bitsVal a * bitsVal (b.take i) < 2 ^ a.length * 2 ^ i := Nat.mul_lt_mul'' hva hvb
  rw [← Nat.pow_add] at h1
  have h2 := natBits_len _ _ h1
  clear h1 hva hvb
  omega
set_option maxHeartbeats 1000000 in
theorem mul_ev (a b : List Bool) (ha : a.length ≤ 400) (hb : b.length ≤ 400) (d : Nat) : ∀ (i : Nat) (y : List Bool), i + d = b.length → bitsVal y = bitsVal a * 2 ^ i → y.length = a.length + i →
    Ev (fun k => spigotref01_Mul.l0 k (natBits (bitsVal a * bitsVal (b.take i))) y (i : Int) false a false b) (false, natBits (bitsVal a * bitsVal b)) := by
  induction d with
  | zero =>
    intro i y hi hy hl
    refine Ev.step (f := fun _ => some (false, natBits (bitsVal a * bitsVal b))) (fun k => ?_) (Ev.now _)
    simp only [spigotref01_Mul.l0]
    rw [if_neg (by omega), if_neg (by decide), List.take_of_length_le (by omega)]
  | succ d ih =>
    intro i y hi hy hl
    have HY := Aside0.mk hy
    clear hy
    have hlt : i < b.length := by omega
    have e2 : rdOf false b (i : Int) = b.getD i false := by simp [rdOf]
    have HT := Aside0.mk (bitsVal_take_succ b i hlt)
    have hi1 : wrap64 ((i : Int) + 1) = ((i + 1 : Nat) : Int) := by rw [w64 (by omega) (by omega)]; omega
    have hlen := mul_len a b ha i (Nat.le_trans (Nat.le_of_lt hlt) hb) (Nat.le_of_lt hlt)
    have HY' : Aside0 (bitsVal ([false] ++ y) = bitsVal a * 2 ^ (i + 1)) := ⟨by
      show 0 + 2 * bitsVal y = _
      rw [HY.out, Nat.pow_succ, Nat.zero_add, Nat.mul_comm, Nat.mul_assoc]⟩
    have hl' : ([false] ++ y).length = a.length + (i + 1) := by simp [hl]; omega
    have h1 : ([false] : List Bool).length = 1 := rfl
    have hlt8 : ([false] : List Bool).length + y.length < 140737488355328 := by rw [h1]; omega
    have hyl : y.length ≤ 1000 := by omega
    have hll : (natBits (bitsVal a * bitsVal (b.take i))).length ≤ 1000 := by omega
    have GO := Aside0.mk (ih (i + 1) ([false] ++ y) (by omega) HY'.out hl')
    clear ih
    rw [HT.out] at GO
    have c1 : (i : Int) < (b.length : Int) := by omega
    have c2 : (0 : Int) ≤ (i : Int) := by omega
    cases hbi : b.getD i false with
    | true =>
      rw [hbi] at GO e2
      refine Ev.step (f := fun k => (spigotref01_plus.f k (natBits (bitsVal a * bitsVal (b.take i))) y).bind fun t162 => spigotref01_Mul.l0 k t162 ([false] ++ y) ((i + 1 : Nat) : Int) false a false b) (fun k => ?_) ?_
      · rw [spigotref01_Mul.l0, if_pos c1, if_pos c2, e2, if_pos rfl, hi1]
        simp only [Option.bind_some, if_pos hlt8]
      · have P := Aside0.mk (plus_f_ev (natBits (bitsVal a * bitsVal (b.take i))) y hll hyl)
        rw [bitsVal_natBits, HY.out, ← Nat.mul_add] at P
        rw [show (true : Bool).toNat = 1 from rfl, Nat.mul_one] at GO
        exact Ev.bind P.out GO.out
    | false =>
      rw [hbi] at GO e2
      refine Ev.step (f := fun k => spigotref01_Mul.l0 k (natBits (bitsVal a * bitsVal (b.take i))) ([false] ++ y) ((i + 1 : Nat) : Int) false a false b) (fun k => ?_) ?_
      · rw [spigotref01_Mul.l0, if_pos c1, if_pos c2, e2, if_neg (by decide), hi1]
        simp only [Option.bind_some, if_pos hlt8]
      · rw [show (false : Bool).toNat = 0 from rfl, Nat.mul_zero, Nat.add_zero] at GO
        exact GO.out
theorem mul_f_ev (a b : List Bool) (ha : a.length ≤ 400) (hb : b.length ≤ 400) : Ev (fun k => spigotref01_Mul.f k false a false b) (false, natBits (bitsVal a * bitsVal b)) := by
  have h := mul_ev a b ha hb b.length 0 a (by omega) (by simp) (by simp)
  refine Ev.congr (fun k => ?_) h
  unfold spigotref01_Mul.f
  rw [if_pos (by simp; omega)]
  simp [bitsVal, natBits_zero]
theorem of_l_ev (x : Int) (d : Nat) : ∀ (m : Nat) (acc : List Bool), m < 2 ^ d → d + acc.length ≤ 1000 → m < 18446744073709551616 → Ev (fun k => spigotref01_Of.l0 k x (m : Int) acc) (decide (x < 0), acc ++ natBits m) := by
  induction d with
  | zero =>
    intro m acc hm _ _
    obtain rfl : m = 0 := by simpa using hm
    refine Ev.step (f := fun _ => some (decide (x < 0), acc ++ natBits 0)) (fun k => ?_) (Ev.now _)
    simp only [spigotref01_Of.l0]
    rw [if_neg (by omega), natBits_zero, List.append_nil]
  | succ d ih =>
    intro m acc hm hl hu
    by_cases h0 : m = 0
    · subst h0
      refine Ev.step (f := fun _ => some (decide (x < 0), acc ++ natBits 0)) (fun k => ?_) (Ev.now _)
      simp only [spigotref01_Of.l0]
      rw [if_neg (by omega), natBits_zero, List.append_nil]
    · have hm2 : m / 2 < 2 ^ d := by rw [Nat.pow_succ] at hm; omega
      have go := ih (m / 2) (acc ++ [m % 2 == 1]) hm2 (by simp; omega) (by omega)
      rw [natBits_pos h0]
      refine Ev.step (f := fun k => spigotref01_Of.l0 k x ((m / 2 : Nat) : Int) (acc ++ [m % 2 == 1])) (fun k => ?_) (by simpa using go)
      simp only [spigotref01_Of.l0]
      have ed : IntKind.u64.wrap (Int.tdiv (m : Int) 2) = ((m / 2 : Nat) : Int) := by
        rw [Int.tdiv_eq_ediv_of_nonneg (by omega)]
        show ((m : Int) / 2) % 18446744073709551616 = _
        omega
      have em : (Int.tmod (m : Int) 2 == 1) = (m % 2 == 1) := by
        rw [Int.tmod_eq_emod_of_nonneg (by omega)]
        rcases (show m % 2 = 0 ∨ m % 2 = 1 by omega) with g | g
        · rw [g, show (m : Int) % 2 = 0 by omega]; rfl
        · rw [g, show (m : Int) % 2 = 1 by omega]; rfl
      rw [if_pos (by omega), if_pos (by omega), ed, em]
theorem of_f_ev (n : Nat) (h : n < 9223372036854775808) : Ev (fun k => spigotref01_Of.f k (n : Int)) (false, natBits n) := by
  have h1 := of_l_ev (n : Int) 64 n [] (by omega) (by simp) (by omega)
  have e0 : decide ((n : Int) < 0) = false := by rw [decide_eq_false_iff_not]; omega
  rw [e0, List.nil_append] at h1
  have hw : IntKind.u64.wrap (n : Int) = (n : Int) := by show (n : Int) % 18446744073709551616 = _; omega
  refine Ev.congr (f := fun k => spigotref01_Of.j0 k (n : Int) (n : Int)) (fun k => ?_) (Ev.step (fun k => by simp only [spigotref01_Of.j0]) h1)
  unfold spigotref01_Of.f
  rw [if_neg (by omega), hw]
theorem int_l_ev (l : List Bool) (hl : l.length ≤ 64) : ∀ n : Nat, n ≤ l.length → Ev (fun k => spigotref01_Int.l0 k (bitsVal (l.drop n) : Int) ((n : Int) - 1) false l) (wrap64 (bitsVal l : Int), decide ((bitsVal l : Int) < 9223372036854775808)) := by
  have hv : bitsVal l < 18446744073709551616 := by
    refine Nat.lt_of_lt_of_le (bitsVal_lt l) ?_
    exact Nat.le_trans (Nat.pow_le_pow_right (by omega) hl) (by decide)
  intro n
  induction n with
  | zero =>
    intro _
    rw [List.drop_zero]
    refine Ev.step (f := fun _ => some (wrap64 (bitsVal l : Int), decide ((bitsVal l : Int) < 9223372036854775808))) (fun k => ?_) (Ev.now _)
    simp only [spigotref01_Int.l0]
    rw [if_neg (by omega), if_neg (by decide)]
  | succ n ih =>
    intro hn
    have hlt : n < l.length := by omega
    have hd := bitsVal_drop l n
    have hle := bitsVal_drop_le l n
    have go := ih (by omega)
    have e1 : ((n + 1 : Nat) : Int) - 1 = (n : Int) := by omega
    have e2 : rdOf false l (n : Int) = l.getD n false := by simp [rdOf]
    have e3 : wrap64 ((n : Int) - 1) = (n : Int) - 1 := w64 (by omega) (by omega)
    rw [e1]
    refine Ev.step (f := fun k => spigotref01_Int.l0 k (bitsVal (l.drop n) : Int) ((n : Int) - 1) false l) (fun k => ?_) go
    simp only [spigotref01_Int.l0]
    rw [if_pos (by omega), if_pos (by omega), if_pos (by omega), e2, e3]
    have w0 : IntKind.u64.wrap (2 * (bitsVal (l.drop (n + 1)) : Int)) = 2 * (bitsVal (l.drop (n + 1)) : Int) := by
      show (2 * (bitsVal (l.drop (n + 1)) : Int)) % 18446744073709551616 = _
      omega
    cases hb : l.getD n false with
    | true =>
      rw [hb] at hd
      have hd2 : bitsVal (l.drop n) = 1 + 2 * bitsVal (l.drop (n + 1)) := hd
      rw [if_pos rfl, w0, hd2]
      have w1 : IntKind.u64.wrap (2 * (bitsVal (l.drop (n + 1)) : Int) + 1) = ((1 + 2 * bitsVal (l.drop (n + 1)) : Nat) : Int) := by
        show (2 * (bitsVal (l.drop (n + 1)) : Int) + 1) % 18446744073709551616 = _
        omega
      rw [w1]
    | false =>
      rw [hb] at hd
      have hd2 : bitsVal (l.drop n) = 0 + 2 * bitsVal (l.drop (n + 1)) := hd
      rw [if_neg (by decide), w0, hd2]
      congr 1
      omega
theorem int_f_ev (v : Nat) (h : v < 18446744073709551616) : Ev (fun k => spigotref01_Int.f k false (natBits v)) (wrap64 (v : Int), decide ((v : Int) < 9223372036854775808)) := by
  have hl : (natBits v).length ≤ 64 := natBits_len 64 v (by omega)
  have h1 := int_l_ev (natBits v) hl (natBits v).length (Nat.le_refl _)
  rw [bitsVal_natBits, List.drop_length] at h1
  refine Ev.congr (fun k => ?_) h1
  unfold spigotref01_Int.f
  rw [if_neg (by omega), w64 (by omega) (by omega)]
  rfl
theorem add_f_ev (a b : List Bool) (ha : a.length ≤ 1000) (hb : b.length ≤ 1000) : Ev (fun k => spigotref01_Add.f k false a false b) (false, natBits (bitsVal a + bitsVal b)) := by
  refine Ev.congr (f := fun k => (spigotref01_plus.f k a b).bind fun t => some (false, t)) (fun k => ?_) (Ev.bind (plus_f_ev a b ha hb) (Ev.now _))
  unfold spigotref01_Add.f
  rw [if_pos (by decide)]
theorem num_end_ev (v : Nat) (hv : v < 10000000000000000000) : Ev (fun k => (spigotref01_Int.f k false (natBits v)).bind fun bt => if bt.2 = true then some bt.1 else some (-1)) (if v < 9223372036854775808 then (v : Int) else -1) := by
  have hi := int_f_ev v (by omega)
  by_cases c : v < 9223372036854775808
  · rw [w64 (by omega) (by omega), decide_eq_true (by omega)] at hi
    rw [if_pos c]
    exact Ev.bind hi (Ev.now _)
  · rw [decide_eq_false (by omega)] at hi
    rw [if_neg c]
    exact Ev.bind hi (Ev.now _)
theorem num_step_ev {β : Type} {r : β} (v d : Nat) (hv : v < 10000000000000000000) (hd : d < 10) (g : Nat → Bool → List Bool → Option β) (hg : Ev (fun k => g k false (natBits (10 * v + d))) r) :
    Ev (fun k => (spigotref01_Of.f k 10).bind fun p => (spigotref01_Mul.f k false (natBits v) p.1 p.2).bind fun q => (spigotref01_Of.f k (d : Int)).bind fun t => (spigotref01_Add.f k q.1 q.2 t.1 t.2).bind fun u => g k u.1 u.2) r := by
  have hl1 : (natBits v).length ≤ 64 := natBits_len 64 v (by omega)
  have hl10 : (natBits 10).length ≤ 64 := natBits_len 64 10 (by decide)
  have hmv : bitsVal (natBits v) * bitsVal (natBits 10) = v * 10 := by rw [bitsVal_natBits, bitsVal_natBits]
  have hl2 : (natBits (v * 10)).length ≤ 100 := natBits_len 100 _ (Nat.lt_of_lt_of_le (show v * 10 < 100000000000000000000 by omega) (by decide))
  have hl3 : (natBits d).length ≤ 64 := natBits_len 64 _ (by omega)
  have hs : bitsVal (natBits (v * 10)) + bitsVal (natBits d) = 10 * v + d := by rw [bitsVal_natBits, bitsVal_natBits, Nat.mul_comm v 10]
  have h2 := mul_f_ev (natBits v) (natBits 10) (by omega) (by omega)
  rw [hmv] at h2
  have h4 := add_f_ev (natBits (v * 10)) (natBits d) (by omega) (by omega)
  rw [hs] at h4
  exact Ev.bind (of_f_ev 10 (by decide)) (Ev.bind h2 (Ev.bind (of_f_ev d (by omega)) (Ev.bind h4 hg)))
set_option maxHeartbeats 1000000 in
theorem ref_num_ev (s : ByteArray) (hs : s.size ≤ 19) (hh : ¬ (s.data.toList = [] ∨ (s.data.toList.getD 0 0 = 48 ∧ 1 < s.data.toList.length))) (d : Nat) : ∀ (i : Nat), i + d = s.size → (∀ x ∈ s.data.toList.take i, isDig x) →
    Ev (fun k => spigotref11_Number_p.l0 k s (i : Int) false (natBits (valOf (s.data.toList.take i)))) (refNo s.data.toList) := by
  have hsl : s.data.toList.length = s.size := rfl
  have hbound : ∀ i, i ≤ s.size → (∀ x ∈ s.data.toList.take i, isDig x) → valOf (s.data.toList.take i) < 10000000000000000000 := fun i hi hd => by
    have h1 := valFrom_hi (s.data.toList.take i) 0 hd
    rw [valFrom_zero, List.length_take, hsl, Nat.min_eq_left hi, Nat.zero_add, Nat.one_mul] at h1
    have h2 : (10 : Nat) ^ i ≤ 10 ^ 19 := Nat.pow_le_pow_right (by omega) (by omega)
    have h3 : (10 : Nat) ^ 19 = 10000000000000000000 := by decide
    omega
  induction d with
  | zero =>
    intro i hi hd
    have hie : i = s.size := by omega
    have hv := hbound i (by omega) hd
    have htk : s.data.toList.take i = s.data.toList := List.take_of_length_le (by omega)
    rw [htk] at hv hd ⊢
    rw [refNo_val _ hh hd]
    refine Ev.step (fun k => ?_) (num_end_ev _ hv)
    rw [spigotref11_Number_p.l0, if_neg (by omega)]
  | succ d ih =>
    intro i hi hd
    have hlt : i < s.data.toList.length := by omega
    have q1 : (i : Int) < (s.size : Int) := by omega
    have q2 : (0 : Int) ≤ (i : Int) := by omega
    have e2 : wrap64 ((i : Int) + 1) = ((i + 1 : Nat) : Int) := by rw [w64 (by omega) (by omega)]; omega
    have hbt := bt_get s i hlt
    have hv := hbound i (by omega) hd
    have hts := valOf_take_succ s.data.toList i hlt
    have htk : s.data.toList.take (i + 1) = s.data.toList.take i ++ [s.data.toList[i]] := List.take_succ_eq_append_getElem hlt
    have hmem : s.data.toList[i] ∈ s.data.toList := List.getElem_mem hlt
    have hj : ∀ k b, spigotref11_Number_p.l0 (k + 1) s (i : Int) false b = spigotref11_Number_p.j2 k s (i : Int) (decide (¬ isDig s.data.toList[i])) false b := fun k b => by
      simp only [spigotref11_Number_p.l0]
      rw [if_pos (by omega), if_pos (by omega), hbt]
      by_cases c : ((s.data.toList[i]).toNat : Int) < 48
      · rw [if_pos c, decide_eq_true (by unfold isDig; omega)]
      · rw [if_neg c]
        by_cases c2 : ((s.data.toList[i]).toNat : Int) > 57
        · rw [decide_eq_true c2, decide_eq_true (by unfold isDig; omega)]
        · rw [decide_eq_false c2, decide_eq_false (by unfold isDig; omega)]
    refine Ev.step (fun k => hj k _) ?_
    by_cases c : isDig s.data.toList[i]
    · rw [decide_eq_false (not_not_intro c)]
      have hd2 : ∀ x ∈ s.data.toList.take (i + 1), isDig x := fun x hx => by
        rw [htk] at hx
        rcases List.mem_append.1 hx with hx | hx
        · exact hd x hx
        · rw [List.mem_singleton.1 hx]; exact c
      have go := ih (i + 1) (by omega) hd2
      rw [hts] at go
      unfold isDig at c
      generalize hb : s.data.toList[i] = b at *
      generalize valOf (s.data.toList.take i) = v at *
      have h48 : b.toNat - 48 < 10 := by omega
      have e1 : ((bt s (i : Int)) - 48) % 256 = ((b.toNat - 48 : Nat) : Int) := by rw [hbt]; clear hv; omega
      refine Ev.step (fun k => ?_) (num_step_ev v (b.toNat - 48) hv h48 (fun k c l => spigotref11_Number_p.l0 k s ((i + 1 : Nat) : Int) c l) go)
      rw [spigotref11_Number_p.j2, if_neg (by decide)]
      simp only [e1, e2, if_pos q1, if_pos q2]
    · rw [decide_eq_true c, refNo_bad _ _ hmem c]
      refine Ev.step (f := fun _ => some (-1)) (fun k => ?_) (Ev.now _)
      simp only [spigotref11_Number_p.j2]
      rw [if_pos trivial]
theorem ref11_Number_ev (s : ByteArray) (hs : s.size ≤ big) : Ev (fun k => spigotref11_Number_p.f k s) (refNo s.data.toList) := by
  have hsl : s.data.toList.length = s.size := rfl
  unfold big at hs
  have no : refNo s.data.toList = -1 → Ev (fun k => spigotref11_Number_p.j0 k s true) (refNo s.data.toList) := fun h => by
    rw [h]
    refine Ev.step (f := fun _ => some (-1)) (fun k => ?_) (Ev.now _)
    simp only [spigotref11_Number_p.j0]
    rw [if_pos trivial]
  by_cases c1 : s.size < 1
  · have hnil : s.data.toList = [] := List.eq_nil_of_length_eq_zero (by omega)
    refine Ev.congr (fun k => ?_) (no (refNo_head _ (.inl hnil)))
    unfold spigotref11_Number_p.f
    rw [if_pos (by omega)]
  by_cases c2 : 19 < s.size
  · refine Ev.congr (fun k => ?_) (no (refNo_len _ (by omega)))
    unfold spigotref11_Number_p.f
    rw [if_neg (by omega), if_pos (by omega)]
  have hne : s.data.toList ≠ [] := fun e => by rw [e] at hsl; simp at hsl; omega
  have h00 : bt s 0 = ((s.data.toList.getD 0 0).toNat : Int) := by
    have := bt_get s 0 (by omega)
    rw [List.getD_eq_getElem?_getD, List.getElem?_eq_getElem (by omega : 0 < s.data.toList.length)]
    exact this
  by_cases c3 : s.data.toList.getD 0 0 = 48 ∧ 1 < s.data.toList.length
  · refine Ev.congr (fun k => ?_) (no (refNo_head _ (.inr c3)))
    unfold spigotref11_Number_p.f
    rw [if_neg (by omega), if_neg (by omega), if_pos (by omega), if_pos (by omega), h00, c3.1]
    rfl
  · have hh : ¬ (s.data.toList = [] ∨ (s.data.toList.getD 0 0 = 48 ∧ 1 < s.data.toList.length)) := fun e => e.elim hne c3
    have go := ref_num_ev s (by omega) hh s.size 0 (by omega) (by simp)
    rw [List.take_zero, valOf_nil, natBits_zero] at go
    refine Ev.congr (f := fun k => spigotref11_Number_p.j0 k s false) (fun k => ?_) (Ev.step (fun k => ?_) go)
    · unfold spigotref11_Number_p.f
      rw [if_neg (by omega), if_neg (by omega)]
      by_cases c4 : (s.size : Int) > 1
      · rw [if_pos c4, if_pos (by omega), h00, show (((s.data.toList.getD 0 0).toNat : Int) == 48) = false by rw [beq_eq_false_iff_ne]; intro e; exact c3 ⟨u8_ext (by show _ = 48; omega), by omega⟩]
      · rw [if_neg c4]
    · simp only [spigotref11_Number_p.j0]
      rw [if_neg (by decide)]
      rfl
def spigotref11_Number.f (a0 : ByteArray) : Option Int := if a0.size ≤ big then some (refNo a0.data.toList) else none
theorem spigotref11_Number.calls (a0 : ByteArray) (r : Int) (w : World) (h : spigotref11_Number.f a0 = some r) :
    Calls Tryz.prog 64 #[.string a0] w fun e w' => e = .returned (.int .i64 r) ∧ Below w.heap.size w w' := by
  unfold spigotref11_Number.f at h
  by_cases c : a0.size ≤ big
  · rw [if_pos c] at h
    obtain rfl := Option.some.inj h
    obtain ⟨k, hk⟩ := (ref11_Number_ev a0 c).rounds
    exact spigotref11_Number_p.calls k a0 _ w hk
  · rw [if_neg c] at h; cases h
end Go.Proofs.YtgfigkfcmkdjdaaGreatDoor.B
end
