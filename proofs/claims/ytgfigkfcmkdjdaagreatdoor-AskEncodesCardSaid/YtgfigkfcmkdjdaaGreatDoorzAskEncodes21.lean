/- The functions that the law reaches, as plain Lean functions, and their contracts: texts merged. -/
import Derived.Laws.StructEq
import Derived.Test.YtgfigkfcmkdjdaaGreatDoorzAskEncodes2
import Derived.Test.YtgfigkfcmkdjdaaGreatDoorzAskEncodes0
import Derived.Test.YtgfigkfcmkdjdaaGreatDoorzAskEncodes1
import Derived.Test.YtgfigkfcmkdjdaaGreatDoorzAskEncodes3
import Derived.Test.YtgfigkfcmkdjdaaGreatDoorzAskEncodes4
import Derived.Test.YtgfigkfcmkdjdaaGreatDoorzAskEncodes5
import Derived.Test.YtgfigkfcmkdjdaaGreatDoorzAskEncodes20
section
namespace Go.Proofs.YtgfigkfcmkdjdaaGreatDoor.B
open Go.RowKit Go.Proofs.YtgfigkfcmkdjdaaGreatDoorW.PrintWords Go.Proofs.YtgfigkfcmkdjdaaGreatDoorW.PrintLast Go.Proofs.YtgfigkfcmkdjdaaGreatDoorW.PrintMore
attribute [local go_sem] max2_int min2_int max_two min_two max_three min_three max_four min_four   -- for this text's walks alone
set_option linter.unusedVariables false
set_option linter.unusedSimpArgs false
mutual
def spigotref08_Next_p.l0 : Nat → ByteArray → Int → Int → Option (Int × ByteArray × Int × Int)
  | 0, _, _, _ => none
  | k + 1, x0, x5, x6 => if x6 < (x0.size : Int) then (if 0 ≤ x6 then (if (bt x0 x6) = 61 then (spigotref08_Next_p.j1 k x0 x5 x6 (x6 == 0)) else (spigotref08_Next_p.j1 k x0 x5 x6 true)) else (none)) else (spigotref08_Next_p.j1 k x0 x5 x6 false)
def spigotref08_Next_p.j1 : Nat → ByteArray → Int → Int → Bool → Option (Int × ByteArray × Int × Int)
  | 0, _, _, _, _ => none
  | k + 1, x0, x5, x6, x23 => if x23 = true then (if 0 ≤ x6 then (if x6 < (x0.size : Int) then (if (bt x0 x6) < 48 then (spigotref08_Next_p.j2 k x0 x5 x6 true) else (if (bt x0 x6) > 57 then (spigotref08_Next_p.j2 k x0 x5 x6 true) else (if x6 = 0 then (spigotref08_Next_p.j2 k x0 x5 x6 ((bt x0 x6) == 48)) else (spigotref08_Next_p.j2 k x0 x5 x6 false)))) else (none)) else (none)) else (if x6 = (x0.size : Int) then (some (0, (⟨#[]⟩ : ByteArray), 0, 82)) else (spigotref08_Next_p.l1 k x0 x5 (wrap64 (x6 + 1)) (wrap64 (x6 + 1))))
def spigotref08_Next_p.j2 : Nat → ByteArray → Int → Int → Bool → Option (Int × ByteArray × Int × Int)
  | 0, _, _, _, _ => none
  | k + 1, x0, x5, x6, x43 => if x43 = true then (some (0, (⟨#[]⟩ : ByteArray), 0, 80)) else (if 0 ≤ x6 then (if x6 < (x0.size : Int) then (if (wrap64 ((wrap64 (10 * x5)) + (((bt x0 x6) - 48) % 256))) > 99999 then (some (0, (⟨#[]⟩ : ByteArray), 0, 80)) else (spigotref08_Next_p.l0 k x0 (wrap64 ((wrap64 (10 * x5)) + (((bt x0 x6) - 48) % 256))) (wrap64 (x6 + 1)))) else (none)) else (none))
def spigotref08_Next_p.l1 : Nat → ByteArray → Int → Int → Int → Option (Int × ByteArray × Int × Int)
  | 0, _, _, _, _ => none
  | k + 1, x0, x5, x7, x8 => if x8 < (x0.size : Int) then (if 0 ≤ x8 then (if (bt x0 x8) = 1 then (spigotref08_Next_p.j4 k x0 x5 x7 x8 (decide (x8 > x7))) else (spigotref08_Next_p.j4 k x0 x5 x7 x8 false)) else (none)) else (some (0, (⟨#[]⟩ : ByteArray), 0, 82))
def spigotref08_Next_p.j4 : Nat → ByteArray → Int → Int → Int → Bool → Option (Int × ByteArray × Int × Int)
  | 0, _, _, _, _, _ => none
  | k + 1, x0, x5, x7, x8, x78 => if x78 = true then (if 0 ≤ x7 then (if x7 ≤ x8 then (if x8 ≤ (x0.size : Int) then (some (x5, x0.extract (x7 : Int).toNat (x8 : Int).toNat, wrap64 (x8 + 1), 0)) else (none)) else (none)) else (none)) else (if 0 ≤ x8 then (if x8 ≤ (x0.size : Int) then ((spigotref08_width.f (x0.extract (x8 : Int).toNat x0.size)).bind fun t202 => (if t202 = 0 then (some (0, (⟨#[]⟩ : ByteArray), 0, 81)) else (if (wrap64 ((wrap64 (x8 + t202)) - x7)) > 512 then (some (0, (⟨#[]⟩ : ByteArray), 0, 81)) else (spigotref08_Next_p.l1 k x0 x5 x7 (wrap64 (x8 + t202)))))) else (none)) else (none))
end
def spigotref08_Next_p.f (k : Nat) (a0 : ByteArray) : Option (Int × ByteArray × Int × Int) := spigotref08_Next_p.l0 k a0 0 0
theorem spigotref08_Next_p.mono_l : ∀ k, (∀ y0 y1 y2, LeO (spigotref08_Next_p.l0 k y0 y1 y2) (spigotref08_Next_p.l0 (k + 1) y0 y1 y2)) ∧ (∀ y0 y1 y2 y3, LeO (spigotref08_Next_p.j1 k y0 y1 y2 y3) (spigotref08_Next_p.j1 (k + 1) y0 y1 y2 y3)) ∧ (∀ y0 y1 y2 y3, LeO (spigotref08_Next_p.j2 k y0 y1 y2 y3) (spigotref08_Next_p.j2 (k + 1) y0 y1 y2 y3)) ∧ (∀ y0 y1 y2 y3, LeO (spigotref08_Next_p.l1 k y0 y1 y2 y3) (spigotref08_Next_p.l1 (k + 1) y0 y1 y2 y3)) ∧ (∀ y0 y1 y2 y3 y4, LeO (spigotref08_Next_p.j4 k y0 y1 y2 y3 y4) (spigotref08_Next_p.j4 (k + 1) y0 y1 y2 y3 y4))
  | 0 => ⟨fun _ _ _ r h => by simp [spigotref08_Next_p.l0] at h, fun _ _ _ _ r h => by simp [spigotref08_Next_p.j1] at h, fun _ _ _ _ r h => by simp [spigotref08_Next_p.j2] at h, fun _ _ _ _ r h => by simp [spigotref08_Next_p.l1] at h, fun _ _ _ _ _ r h => by simp [spigotref08_Next_p.j4] at h⟩
  | k + 1 => by
    obtain ⟨ih0, ih1, ih2, ih3, ih4⟩ := spigotref08_Next_p.mono_l k
    refine ⟨?_, ?_, ?_, ?_, ?_⟩
    · intro y0 y1 y2
      unfold spigotref08_Next_p.l0
      repeat' first
      | (with_reducible exact ih0 _ _ _)
      | (with_reducible exact ih1 _ _ _ _)
      | (with_reducible exact ih2 _ _ _ _)
      | (with_reducible exact ih3 _ _ _ _)
      | (with_reducible exact ih4 _ _ _ _ _)
      | (with_reducible exact LeO.refl _)
      | (with_reducible exact LeO.none _)
      | (with_reducible refine LeO.ite ?_ ?_)
      | (with_reducible refine LeO.bind ?_ (fun _ => ?_))
      | exact ih0 _ _ _
      | exact ih1 _ _ _ _
      | exact ih2 _ _ _ _
      | exact ih3 _ _ _ _
      | exact ih4 _ _ _ _ _
      | exact LeO.none _
      | refine LeO.ite ?_ ?_
      | refine LeO.bind ?_ (fun _ => ?_)
    · intro y0 y1 y2 y3
      unfold spigotref08_Next_p.j1
      repeat' first
      | (with_reducible exact ih0 _ _ _)
      | (with_reducible exact ih1 _ _ _ _)
      | (with_reducible exact ih2 _ _ _ _)
      | (with_reducible exact ih3 _ _ _ _)
      | (with_reducible exact ih4 _ _ _ _ _)
      | (with_reducible exact LeO.refl _)
      | (with_reducible exact LeO.none _)
      | (with_reducible refine LeO.ite ?_ ?_)
      | (with_reducible refine LeO.bind ?_ (fun _ => ?_))
      | exact ih0 _ _ _
      | exact ih1 _ _ _ _
      | exact ih2 _ _ _ _
      | exact ih3 _ _ _ _
      | exact ih4 _ _ _ _ _
      | exact LeO.none _
      | refine LeO.ite ?_ ?_
      | refine LeO.bind ?_ (fun _ => ?_)
    · intro y0 y1 y2 y3
      unfold spigotref08_Next_p.j2
      repeat' first
      | (with_reducible exact ih0 _ _ _)
      | (with_reducible exact ih1 _ _ _ _)
      | (with_reducible exact ih2 _ _ _ _)
      | (with_reducible exact ih3 _ _ _ _)
      | (with_reducible exact ih4 _ _ _ _ _)
      | (with_reducible exact LeO.refl _)
      | (with_reducible exact LeO.none _)
      | (with_reducible refine LeO.ite ?_ ?_)
      | (with_reducible refine LeO.bind ?_ (fun _ => ?_))
      | exact ih0 _ _ _
      | exact ih1 _ _ _ _
      | exact ih2 _ _ _ _
      | exact ih3 _ _ _ _
      | exact ih4 _ _ _ _ _
      | exact LeO.none _
      | refine LeO.ite ?_ ?_
      | refine LeO.bind ?_ (fun _ => ?_)
    · intro y0 y1 y2 y3
      unfold spigotref08_Next_p.l1
      repeat' first
      | (with_reducible exact ih0 _ _ _)
      | (with_reducible exact ih1 _ _ _ _)
      | (with_reducible exact ih2 _ _ _ _)
      | (with_reducible exact ih3 _ _ _ _)
      | (with_reducible exact ih4 _ _ _ _ _)
      | (with_reducible exact LeO.refl _)
      | (with_reducible exact LeO.none _)
      | (with_reducible refine LeO.ite ?_ ?_)
      | (with_reducible refine LeO.bind ?_ (fun _ => ?_))
      | exact ih0 _ _ _
      | exact ih1 _ _ _ _
      | exact ih2 _ _ _ _
      | exact ih3 _ _ _ _
      | exact ih4 _ _ _ _ _
      | exact LeO.none _
      | refine LeO.ite ?_ ?_
      | refine LeO.bind ?_ (fun _ => ?_)
    · intro y0 y1 y2 y3 y4
      unfold spigotref08_Next_p.j4
      repeat' first
      | (with_reducible exact ih0 _ _ _)
      | (with_reducible exact ih1 _ _ _ _)
      | (with_reducible exact ih2 _ _ _ _)
      | (with_reducible exact ih3 _ _ _ _)
      | (with_reducible exact ih4 _ _ _ _ _)
      | (with_reducible exact LeO.refl _)
      | (with_reducible exact LeO.none _)
      | (with_reducible refine LeO.ite ?_ ?_)
      | (with_reducible refine LeO.bind ?_ (fun _ => ?_))
      | exact ih0 _ _ _
      | exact ih1 _ _ _ _
      | exact ih2 _ _ _ _
      | exact ih3 _ _ _ _
      | exact ih4 _ _ _ _ _
      | exact LeO.none _
      | refine LeO.ite ?_ ?_
      | refine LeO.bind ?_ (fun _ => ?_)
theorem spigotref08_Next_p.mono : ∀ a0 k, LeO (spigotref08_Next_p.f k a0) (spigotref08_Next_p.f (k + 1) a0) := by
  intro a0 k
  obtain ⟨ih0, ih1, ih2, ih3, ih4⟩ := spigotref08_Next_p.mono_l k
  unfold spigotref08_Next_p.f
  repeat' first
      | (with_reducible exact ih0 _ _ _)
      | (with_reducible exact ih1 _ _ _ _)
      | (with_reducible exact ih2 _ _ _ _)
      | (with_reducible exact ih3 _ _ _ _)
      | (with_reducible exact ih4 _ _ _ _ _)
      | (with_reducible exact LeO.refl _)
      | (with_reducible exact LeO.none _)
      | (with_reducible refine LeO.ite ?_ ?_)
      | (with_reducible refine LeO.bind ?_ (fun _ => ?_))
      | exact ih0 _ _ _
      | exact ih1 _ _ _ _
      | exact ih2 _ _ _ _
      | exact ih3 _ _ _ _
      | exact ih4 _ _ _ _ _
      | exact LeO.none _
      | refine LeO.ite ?_ ?_
      | refine LeO.bind ?_ (fun _ => ?_)
set_option maxHeartbeats 8000000 in
set_option maxRecDepth 100000 in
theorem spigotref08_Next_p.calls (k : Nat) (a0 : ByteArray) (r1 : Int) (r2 : ByteArray) (r3 : Int) (r4 : Int) (w : World) (h : spigotref08_Next_p.f k a0 = some (r1, r2, r3, r4)) :
    Calls Tryz.prog 49 #[.string a0] w fun e w' => e = .returned (.tuple #[.agg #[.int .i64 r1, .string r2], .int .i64 r3, .int .i64 r4]) ∧ Below w.heap.size w w' := by
  have hu84 := Tryz.underlying84
  have HB := Aside0.mk (Below.refl w.heap.size w)
  have H : (spigotref08_Next_p.l0 k a0 0 0) = some (r1, r2, r3, r4) := h
  clear h
  have H' := Aside0.mk H
  clear H
  go_enter Tryz.func49, Tryz.ntmps49
  go_wp2_with (first | ((with_reducible refine gate_dst (N := 2) rfl ?_); refine box_event ?hg (N := 2) ?hd (cs := #[.int .i64 0, .string (⟨#[]⟩ : ByteArray)]) (t := 84) ?hr ?_; (case hd => rfl); (case hg => rfl); (case hr => first | (go_simp; done) | (go_simp; rfl)); intro gb201 hg w2 hbox hb; have n0_ := Aside0.mk (below_step (by repeat (first | (with_reducible first | exact HB.out | apply below_alloc | apply pw_below_drewN | apply below_drew1) | exact HB.out)) hb); have n1_ := Aside0.mk (hbox); have n2_ := Aside0.mk ((by rw [hg]; exact (below_size (by repeat (first | (with_reducible first | exact HB.out | apply below_alloc | apply pw_below_drewN | apply below_drew1) | exact HB.out))) : w.heap.size ≤ gb201)); have n3_ := Aside0.mk ((by rw [hg]; exact (below_size (by repeat (first | (with_reducible first | exact HB.out | apply below_alloc | apply pw_below_drewN | apply below_drew1) | exact HB.out))) : w.heap.size ≤ gb201)); clear HB; have HB := n0_; have BK201 := n1_; have GW201 := n2_; have GE201 := n3_; clear n0_ n1_ n2_ n3_; clear hb hbox hg))
  go_loopg [5, 6] k (fun kq v5 v6 w' => ∃ (x5_1 : Int) (x6_1 : Int) (x202000_1 : Int) (x202001_1 : ByteArray), v5 = .int .i64 x5_1 ∧ v6 = .int .i64 x6_1 ∧ Aside0 (spigotref08_Next_p.l0 kq a0 x5_1 x6_1 = some (r1, r2, r3, r4)) ∧ Aside0 (kq ≤ k) ∧ Aside0 (w'.heap[gb201]? = some (.cells #[.int .i64 x202000_1, .string x202001_1] 84 (0, 0))) ∧ Aside0 (Below w.heap.size w w'))
  case atStart => exact ⟨(0), (0), (0), ((⟨#[]⟩ : ByteArray)), (by first | rfl | (simp; done) | (simp [*]; done)), (by first | rfl | (simp; done) | (simp [*]; done)), H', ⟨Nat.le_refl _⟩, ⟨by (with_reducible repeat (first | refine blk_drewN ?_ _ | refine blk_drew ?_ | refine blk_alloc ?_ _)); exact BK201.out⟩, ⟨by repeat (first | (with_reducible first | exact HB.out | apply below_alloc | apply pw_below_drewN | apply below_drew1 | refine below_set ?_ GE201.out) | exact HB.out)⟩⟩
  case round =>
    clear H'
    try clear p2
    obtain ⟨x5_1, x6_1, x202000_1, x202001_1, rfl, rfl, HA, HK1, BK201, HB⟩ := hrel
    cases gk with
    | zero => exact absurd HA.out (by simp [spigotref08_Next_p.l0])
    | succ k1 =>
      have H := HA.out
      clear HA
      simp only [spigotref08_Next_p.l0] at H
      have HC3 := Aside0.mk H
      clear H
      go_upto_region 3 with (fail)
      go_cut [23] (fun v23 wc => ∃ (kq : Nat) (x23_2 : Bool), v23 = .bool x23_2 ∧ Aside0 (spigotref08_Next_p.j1 kq a0 x5_1 x6_1 x23_2 = some (r1, r2, r3, r4)) ∧ Aside0 (kq ≤ k1) ∧ Aside0 (wc.heap[gb201]? = some (.cells #[.int .i64 x202000_1, .string x202001_1] 84 (0, 0))) ∧ Aside0 (Below w.heap.size w wc))
      case first =>
        have H := HC3.out
        clear HC3
        by_cases c4 : x6_1 < (a0.size : Int)
        · rw [if_pos c4] at H
          have c4b0 : decide (x6_1 < (a0.size : Int)) = true := decide_eq_true c4
          clear c4
          (first | rw [c4b0] | (simp only [i64_w, i32_w]; rw [c4b0]) | skip)
          by_cases c5 : 0 ≤ x6_1
          · rw [if_pos c5] at H
            have c5b0 : decide (0 ≤ x6_1) = true := decide_eq_true c5
            clear c5
            by_cases c7 : (bt a0 x6_1) = 61
            · rw [if_pos c7] at H
              have c7b0 : ((bt a0 x6_1) == 61) = true := beq_iff_eq.mpr c7
              have c7b1 : ((bt a0 x6_1) != 61) = false := bne_eq_false_iff_eq.mpr c7
              clear c7
              have H' := Aside0.mk H
              clear H
              have p6 : 0 ≤ (x6_1 : Int) := of_decide_eq_true (by first | (with_reducible assumption) | assumption)
              have q6 : x6_1 < (a0.size : Int) := of_decide_eq_true (by first | (with_reducible assumption) | assumption)
              have hx6 := bt_at a0 x6_1
              replace p6 := eq_true p6
              replace q6 := eq_true q6
              go_wp2
              go_meet
              case rel => exact ⟨_, ((x6_1 == 0)), (by first | rfl | (simp; done) | (simp [*]; done)), H', ⟨by have := HK1.out; first | omega | exact Nat.le_refl _⟩, ⟨by (with_reducible repeat (first | refine blk_drewN ?_ _ | refine blk_drew ?_ | refine blk_alloc ?_ _)); exact BK201.out⟩, ⟨by repeat (first | (with_reducible first | exact HB.out | apply below_alloc | apply pw_below_drewN | apply below_drew1 | refine below_set ?_ GE201.out) | exact HB.out)⟩⟩
            · rw [if_neg c7] at H
              have c7b0 : ((bt a0 x6_1) == 61) = false := beq_eq_false_iff_ne.mpr c7
              have c7b1 : ((bt a0 x6_1) != 61) = true := bne_iff_ne.mpr c7
              have H' := Aside0.mk H
              clear H
              have p6 : 0 ≤ (x6_1 : Int) := of_decide_eq_true (by first | (with_reducible assumption) | assumption)
              have q6 : x6_1 < (a0.size : Int) := of_decide_eq_true (by first | (with_reducible assumption) | assumption)
              have hx6 := bt_at a0 x6_1
              replace p6 := eq_true p6
              replace q6 := eq_true q6
              go_wp2
              go_meet
              case rel => exact ⟨_, (true), (by first | rfl | (simp; done) | (simp [*]; done)), H', ⟨by have := HK1.out; first | omega | exact Nat.le_refl _⟩, ⟨by (with_reducible repeat (first | refine blk_drewN ?_ _ | refine blk_drew ?_ | refine blk_alloc ?_ _)); exact BK201.out⟩, ⟨by repeat (first | (with_reducible first | exact HB.out | apply below_alloc | apply pw_below_drewN | apply below_drew1 | refine below_set ?_ GE201.out) | exact HB.out)⟩⟩
          · rw [if_neg c5] at H
            exact absurd H (by simp)
        · rw [if_neg c4] at H
          have c4b0 : decide (x6_1 < (a0.size : Int)) = false := decide_eq_false c4
          clear c4
          (first | rw [c4b0] | (simp only [i64_w, i32_w]; rw [c4b0]) | skip)
          have H' := Aside0.mk H
          clear H
          go_wp2
          go_meet
          case rel => exact ⟨_, (false), (by first | rfl | (simp; done) | (simp [*]; done)), H', ⟨by have := HK1.out; first | omega | exact Nat.le_refl _⟩, ⟨by (with_reducible repeat (first | refine blk_drewN ?_ _ | refine blk_drew ?_ | refine blk_alloc ?_ _)); exact BK201.out⟩, ⟨by repeat (first | (with_reducible first | exact HB.out | apply below_alloc | apply pw_below_drewN | apply below_drew1 | refine below_set ?_ GE201.out) | exact HB.out)⟩⟩
      case rest =>
        clear HC3
        try clear p2
        try clear c4
        try clear c4b0
        try clear c5
        try clear c5b0
        try clear p6
        try clear q6
        try clear hx6
        try clear c7
        try clear c7b0
        try clear c7b1
        try clear p2
        try clear p6
        try clear q6
        obtain ⟨kq, x23_2, rfl, HA, HJ2, BK201, HB⟩ := hcut
        cases kq with
        | zero => exact absurd HA.out (by simp [spigotref08_Next_p.j1])
        | succ kj2 =>
          have H := HA.out
          clear HA
          simp only [spigotref08_Next_p.j1] at H
          by_cases c8 : x23_2 = true
          · subst c8
            have H1 : (if 0 ≤ x6_1 then (if x6_1 < (a0.size : Int) then (if (bt a0 x6_1) < 48 then (spigotref08_Next_p.j2 kj2 a0 x5_1 x6_1 true) else (if (bt a0 x6_1) > 57 then (spigotref08_Next_p.j2 kj2 a0 x5_1 x6_1 true) else (if x6_1 = 0 then (spigotref08_Next_p.j2 kj2 a0 x5_1 x6_1 ((bt a0 x6_1) == 48)) else (spigotref08_Next_p.j2 kj2 a0 x5_1 x6_1 false)))) else (none)) else (none)) = some (r1, r2, r3, r4) := by rw [if_pos rfl] at H; exact H
            clear H
            have H := H1
            clear H1
            have HC9 := Aside0.mk H
            clear H
            go_upto_region 4 with (fail)
            go_cut [43] (fun v43 wc => ∃ (kq : Nat) (x43_8 : Bool), v43 = .bool x43_8 ∧ Aside0 (spigotref08_Next_p.j2 kq a0 x5_1 x6_1 x43_8 = some (r1, r2, r3, r4)) ∧ Aside0 (kq ≤ kj2) ∧ Aside0 (wc.heap[gb201]? = some (.cells #[.int .i64 x202000_1, .string x202001_1] 84 (0, 0))) ∧ Aside0 (Below w.heap.size w wc))
            case first =>
              have H := HC9.out
              clear HC9
              by_cases c10 : 0 ≤ x6_1
              · rw [if_pos c10] at H
                have c10b0 : decide (0 ≤ x6_1) = true := decide_eq_true c10
                clear c10
                (first | rw [c10b0] | (simp only [i64_w, i32_w]; rw [c10b0]) | skip)
                by_cases c11 : x6_1 < (a0.size : Int)
                · rw [if_pos c11] at H
                  have c11b0 : decide (x6_1 < (a0.size : Int)) = true := decide_eq_true c11
                  clear c11
                  by_cases c13 : (bt a0 x6_1) < 48
                  · rw [if_pos c13] at H
                    have c13b0 : decide ((bt a0 x6_1) < 48) = true := decide_eq_true c13
                    clear c13
                    have H' := Aside0.mk H
                    clear H
                    have p12 : 0 ≤ (x6_1 : Int) := of_decide_eq_true (by first | (with_reducible assumption) | assumption)
                    have q12 : x6_1 < (a0.size : Int) := of_decide_eq_true (by first | (with_reducible assumption) | assumption)
                    have hx12 := bt_at a0 x6_1
                    replace p12 := eq_true p12
                    replace q12 := eq_true q12
                    go_wp2
                    go_meet
                    case rel => exact ⟨_, (true), (by first | rfl | (simp; done) | (simp [*]; done)), H', ⟨by have := HK1.out; have := HJ2.out; first | omega | exact Nat.le_refl _⟩, ⟨by (with_reducible repeat (first | refine blk_drewN ?_ _ | refine blk_drew ?_ | refine blk_alloc ?_ _)); exact BK201.out⟩, ⟨by repeat (first | (with_reducible first | exact HB.out | apply below_alloc | apply pw_below_drewN | apply below_drew1 | refine below_set ?_ GE201.out) | exact HB.out)⟩⟩
                  · rw [if_neg c13] at H
                    have c13b0 : decide ((bt a0 x6_1) < 48) = false := decide_eq_false c13
                    clear c13
                    by_cases c15 : (bt a0 x6_1) > 57
                    · rw [if_pos c15] at H
                      have c15b0 : decide (57 < (bt a0 x6_1)) = true := decide_eq_true c15
                      clear c15
                      have H' := Aside0.mk H
                      clear H
                      have p12 : 0 ≤ (x6_1 : Int) := of_decide_eq_true (by first | (with_reducible assumption) | assumption)
                      have q12 : x6_1 < (a0.size : Int) := of_decide_eq_true (by first | (with_reducible assumption) | assumption)
                      have hx12 := bt_at a0 x6_1
                      replace p12 := eq_true p12
                      replace q12 := eq_true q12
                      have p14 : 0 ≤ (x6_1 : Int) := of_decide_eq_true (by first | (with_reducible assumption) | assumption)
                      have q14 : x6_1 < (a0.size : Int) := of_decide_eq_true (by first | (with_reducible assumption) | assumption)
                      have hx14 := bt_at a0 x6_1
                      replace p14 := eq_true p14
                      replace q14 := eq_true q14
                      go_wp2
                      go_meet
                      case rel => exact ⟨_, (true), (by first | rfl | (simp; done) | (simp [*]; done)), H', ⟨by have := HK1.out; have := HJ2.out; first | omega | exact Nat.le_refl _⟩, ⟨by (with_reducible repeat (first | refine blk_drewN ?_ _ | refine blk_drew ?_ | refine blk_alloc ?_ _)); exact BK201.out⟩, ⟨by repeat (first | (with_reducible first | exact HB.out | apply below_alloc | apply pw_below_drewN | apply below_drew1 | refine below_set ?_ GE201.out) | exact HB.out)⟩⟩
                    · rw [if_neg c15] at H
                      have c15b0 : decide (57 < (bt a0 x6_1)) = false := decide_eq_false c15
                      clear c15
                      by_cases c16 : x6_1 = 0
                      · rw [if_pos c16] at H
                        have c16b0 : (x6_1 == 0) = true := beq_iff_eq.mpr c16
                        have c16b1 : (x6_1 != 0) = false := bne_eq_false_iff_eq.mpr c16
                        clear c16
                        have H' := Aside0.mk H
                        clear H
                        have p12 : 0 ≤ (x6_1 : Int) := of_decide_eq_true (by first | (with_reducible assumption) | assumption)
                        have q12 : x6_1 < (a0.size : Int) := of_decide_eq_true (by first | (with_reducible assumption) | assumption)
                        have hx12 := bt_at a0 x6_1
                        replace p12 := eq_true p12
                        replace q12 := eq_true q12
                        have p14 : 0 ≤ (x6_1 : Int) := of_decide_eq_true (by first | (with_reducible assumption) | assumption)
                        have q14 : x6_1 < (a0.size : Int) := of_decide_eq_true (by first | (with_reducible assumption) | assumption)
                        have hx14 := bt_at a0 x6_1
                        replace p14 := eq_true p14
                        replace q14 := eq_true q14
                        have p17 : 0 ≤ (x6_1 : Int) := of_decide_eq_true (by first | (with_reducible assumption) | assumption)
                        have q17 : x6_1 < (a0.size : Int) := of_decide_eq_true (by first | (with_reducible assumption) | assumption)
                        have hx17 := bt_at a0 x6_1
                        replace p17 := eq_true p17
                        replace q17 := eq_true q17
                        go_wp2
                        go_meet
                        case rel => exact ⟨_, (((bt a0 x6_1) == 48)), (by first | rfl | (simp; done) | (simp [*]; done)), H', ⟨by have := HK1.out; have := HJ2.out; first | omega | exact Nat.le_refl _⟩, ⟨by (with_reducible repeat (first | refine blk_drewN ?_ _ | refine blk_drew ?_ | refine blk_alloc ?_ _)); exact BK201.out⟩, ⟨by repeat (first | (with_reducible first | exact HB.out | apply below_alloc | apply pw_below_drewN | apply below_drew1 | refine below_set ?_ GE201.out) | exact HB.out)⟩⟩
                      · rw [if_neg c16] at H
                        have c16b0 : (x6_1 == 0) = false := beq_eq_false_iff_ne.mpr c16
                        have c16b1 : (x6_1 != 0) = true := bne_iff_ne.mpr c16
                        have H' := Aside0.mk H
                        clear H
                        have p12 : 0 ≤ (x6_1 : Int) := of_decide_eq_true (by first | (with_reducible assumption) | assumption)
                        have q12 : x6_1 < (a0.size : Int) := of_decide_eq_true (by first | (with_reducible assumption) | assumption)
                        have hx12 := bt_at a0 x6_1
                        replace p12 := eq_true p12
                        replace q12 := eq_true q12
                        have p14 : 0 ≤ (x6_1 : Int) := of_decide_eq_true (by first | (with_reducible assumption) | assumption)
                        have q14 : x6_1 < (a0.size : Int) := of_decide_eq_true (by first | (with_reducible assumption) | assumption)
                        have hx14 := bt_at a0 x6_1
                        replace p14 := eq_true p14
                        replace q14 := eq_true q14
                        go_wp2
                        go_meet
                        case rel => exact ⟨_, (false), (by first | rfl | (simp; done) | (simp [*]; done)), H', ⟨by have := HK1.out; have := HJ2.out; first | omega | exact Nat.le_refl _⟩, ⟨by (with_reducible repeat (first | refine blk_drewN ?_ _ | refine blk_drew ?_ | refine blk_alloc ?_ _)); exact BK201.out⟩, ⟨by repeat (first | (with_reducible first | exact HB.out | apply below_alloc | apply pw_below_drewN | apply below_drew1 | refine below_set ?_ GE201.out) | exact HB.out)⟩⟩
                · rw [if_neg c11] at H
                  exact absurd H (by simp)
              · rw [if_neg c10] at H
                exact absurd H (by simp)
            case rest =>
              clear HC9
              try clear c1
              try clear p1
              try clear q1
              try clear hx1
              try clear p2
              try clear c4
              try clear c4b0
              try clear c5
              try clear c5b0
              try clear p6
              try clear q6
              try clear hx6
              try clear c7
              try clear c7b0
              try clear c7b1
              try clear c8
              try clear c10
              try clear c10b0
              try clear c11
              try clear c11b0
              try clear p12
              try clear q12
              try clear hx12
              try clear c13
              try clear c13b0
              try clear p14
              try clear q14
              try clear hx14
              try clear c15
              try clear c15b0
              try clear c16
              try clear c16b0
              try clear c16b1
              try clear p17
              try clear q17
              try clear hx17
              try clear p12
              try clear p14
              try clear p17
              try clear p2
              try clear p6
              try clear q12
              try clear q14
              try clear q17
              try clear q6
              obtain ⟨kq, x43_8, rfl, HA, HJ8, BK201, HB⟩ := hcut
              cases kq with
              | zero => exact absurd HA.out (by simp [spigotref08_Next_p.j2])
              | succ kj8 =>
                have H := HA.out
                clear HA
                simp only [spigotref08_Next_p.j2] at H
                by_cases c18 : x43_8 = true
                · subst c18
                  have H1 : (some (0, (⟨#[]⟩ : ByteArray), 0, 80)) = some (r1, r2, r3, r4) := by rw [if_pos rfl] at H; exact H
                  clear H
                  have H := H1
                  clear H1
                  simp only [Option.some.injEq, Prod.mk.injEq] at H
                  obtain ⟨rfl, rfl, rfl, rfl⟩ := H
                  have hcz19_0 : wc.cell? ⟨gb201, 0, none⟩ = some (.int .i64 x202000_1) := (blk_cell BK201.out 0).trans rfl
                  have hcz19_1 : wc.cell? ⟨gb201, 1, none⟩ = some (.string x202001_1) := (blk_cell BK201.out 1).trans rfl
                  have hfz19_0 := blk_frozen BK201.out 0
                  have hfz19_1 := blk_frozen BK201.out 1
                  go_wp2
                  refine bodyPost_ret (results_ctt rfl _ _ gb201 84 #[.int .i64 0, .string (⟨#[]⟩ : ByteArray)] (0, 0) _ rfl (by (with_reducible repeat (first | refine blk_drewN ?_ _ | refine blk_drew ?_ | refine blk_alloc ?_ _)); refine blk_put (cs := #[.int .i64 0, .string x202001_1]) ?_ 1 _ rfl; (with_reducible repeat (first | refine blk_drewN ?_ _ | refine blk_drew ?_ | refine blk_alloc ?_ _)); refine blk_put (cs := #[.int .i64 x202000_1, .string x202001_1]) ?_ 0 _ rfl; (with_reducible repeat (first | refine blk_drewN ?_ _ | refine blk_drew ?_ | refine blk_alloc ?_ _)); exact BK201.out) Tryz.underlying84 rfl (by kernel_rfl)) rfl ?_
                  exact ⟨by first | rfl | (simp [errW_none, errW_some] <;> rfl) | (simp [*, errW_none, errW_some] <;> rfl), by repeat (first | (with_reducible first | exact HB.out | apply below_alloc | apply pw_below_drewN | apply below_drew1 | refine below_set ?_ GE201.out) | exact HB.out)⟩
                · replace c18 := Bool.eq_false_iff.mpr c18
                  subst c18
                  have H1 : (if 0 ≤ x6_1 then (if x6_1 < (a0.size : Int) then (if (wrap64 ((wrap64 (10 * x5_1)) + (((bt a0 x6_1) - 48) % 256))) > 99999 then (some (0, (⟨#[]⟩ : ByteArray), 0, 80)) else (spigotref08_Next_p.l0 kj8 a0 (wrap64 ((wrap64 (10 * x5_1)) + (((bt a0 x6_1) - 48) % 256))) (wrap64 (x6_1 + 1)))) else (none)) else (none)) = some (r1, r2, r3, r4) := by rw [if_neg (show ¬ (false = true) by decide)] at H; exact H
                  clear H
                  have H := H1
                  clear H1
                  by_cases c20 : 0 ≤ x6_1
                  · rw [if_pos c20] at H
                    have c20b0 : decide (0 ≤ x6_1) = true := decide_eq_true c20
                    clear c20
                    by_cases c21 : x6_1 < (a0.size : Int)
                    · rw [if_pos c21] at H
                      have c21b0 : decide (x6_1 < (a0.size : Int)) = true := decide_eq_true c21
                      clear c21
                      by_cases c23 : (wrap64 ((wrap64 (10 * x5_1)) + (((bt a0 x6_1) - 48) % 256))) > 99999
                      · rw [if_pos c23] at H
                        have c23b0 : decide (99999 < (wrap64 ((wrap64 (10 * x5_1)) + (((bt a0 x6_1) - 48) % 256)))) = true := decide_eq_true c23
                        clear c23
                        simp only [Option.some.injEq, Prod.mk.injEq] at H
                        obtain ⟨rfl, rfl, rfl, rfl⟩ := H
                        have p22 : 0 ≤ (x6_1 : Int) := of_decide_eq_true (by first | (with_reducible assumption) | assumption)
                        have q22 : x6_1 < (a0.size : Int) := of_decide_eq_true (by first | (with_reducible assumption) | assumption)
                        have hx22 := bt_at a0 x6_1
                        replace p22 := eq_true p22
                        replace q22 := eq_true q22
                        have hcz24_0 : wc.cell? ⟨gb201, 0, none⟩ = some (.int .i64 x202000_1) := (blk_cell BK201.out 0).trans rfl
                        have hcz24_1 : wc.cell? ⟨gb201, 1, none⟩ = some (.string x202001_1) := (blk_cell BK201.out 1).trans rfl
                        have hfz24_0 := blk_frozen BK201.out 0
                        have hfz24_1 := blk_frozen BK201.out 1
                        go_wp2
                        refine bodyPost_ret (results_ctt rfl _ _ gb201 84 #[.int .i64 0, .string (⟨#[]⟩ : ByteArray)] (0, 0) _ rfl (by (with_reducible repeat (first | refine blk_drewN ?_ _ | refine blk_drew ?_ | refine blk_alloc ?_ _)); refine blk_put (cs := #[.int .i64 0, .string x202001_1]) ?_ 1 _ rfl; (with_reducible repeat (first | refine blk_drewN ?_ _ | refine blk_drew ?_ | refine blk_alloc ?_ _)); refine blk_put (cs := #[.int .i64 x202000_1, .string x202001_1]) ?_ 0 _ rfl; (with_reducible repeat (first | refine blk_drewN ?_ _ | refine blk_drew ?_ | refine blk_alloc ?_ _)); exact BK201.out) Tryz.underlying84 rfl (by kernel_rfl)) rfl ?_
                        exact ⟨by first | rfl | (simp [errW_none, errW_some] <;> rfl) | (simp [*, errW_none, errW_some] <;> rfl), by repeat (first | (with_reducible first | exact HB.out | apply below_alloc | apply pw_below_drewN | apply below_drew1 | refine below_set ?_ GE201.out) | exact HB.out)⟩
                      · rw [if_neg c23] at H
                        have c23b0 : decide (99999 < (wrap64 ((wrap64 (10 * x5_1)) + (((bt a0 x6_1) - 48) % 256)))) = false := decide_eq_false c23
                        clear c23
                        have H' := Aside0.mk H
                        clear H
                        have p22 : 0 ≤ (x6_1 : Int) := of_decide_eq_true (by first | (with_reducible assumption) | assumption)
                        have q22 : x6_1 < (a0.size : Int) := of_decide_eq_true (by first | (with_reducible assumption) | assumption)
                        have hx22 := bt_at a0 x6_1
                        replace p22 := eq_true p22
                        replace q22 := eq_true q22
                        go_wp2
                        go_roundg kj8
                        case measure => have := HK1.out; have := HJ2.out; have := HJ8.out; omega
                        case rel => exact ⟨(wrap64 ((wrap64 (10 * x5_1)) + (((bt a0 x6_1) - 48) % 256))), (wrap64 (x6_1 + 1)), (x202000_1), (x202001_1), (by first | rfl | (simp; done) | (simp [*]; done)), (by first | rfl | (simp; done) | (simp [*]; done)), H', ⟨by have := HK1.out; have := HJ2.out; have := HJ8.out; omega⟩, ⟨by (with_reducible repeat (first | refine blk_drewN ?_ _ | refine blk_drew ?_ | refine blk_alloc ?_ _)); exact BK201.out⟩, ⟨by repeat (first | (with_reducible first | exact HB.out | apply below_alloc | apply pw_below_drewN | apply below_drew1 | refine below_set ?_ GE201.out) | exact HB.out)⟩⟩
                    · rw [if_neg c21] at H
                      exact absurd H (by simp)
                  · rw [if_neg c20] at H
                    exact absurd H (by simp)
          · replace c8 := Bool.eq_false_iff.mpr c8
            subst c8
            have H1 : (if x6_1 = (a0.size : Int) then (some (0, (⟨#[]⟩ : ByteArray), 0, 82)) else (spigotref08_Next_p.l1 kj2 a0 x5_1 (wrap64 (x6_1 + 1)) (wrap64 (x6_1 + 1)))) = some (r1, r2, r3, r4) := by rw [if_neg (show ¬ (false = true) by decide)] at H; exact H
            clear H
            have H := H1
            clear H1
            by_cases c25 : x6_1 = (a0.size : Int)
            · rw [if_pos c25] at H
              have c25b0 : (x6_1 == (a0.size : Int)) = true := beq_iff_eq.mpr c25
              have c25b1 : (x6_1 != (a0.size : Int)) = false := bne_eq_false_iff_eq.mpr c25
              clear c25
              simp only [Option.some.injEq, Prod.mk.injEq] at H
              obtain ⟨rfl, rfl, rfl, rfl⟩ := H
              have hcz26_0 : wc.cell? ⟨gb201, 0, none⟩ = some (.int .i64 x202000_1) := (blk_cell BK201.out 0).trans rfl
              have hcz26_1 : wc.cell? ⟨gb201, 1, none⟩ = some (.string x202001_1) := (blk_cell BK201.out 1).trans rfl
              have hfz26_0 := blk_frozen BK201.out 0
              have hfz26_1 := blk_frozen BK201.out 1
              go_wp2
              refine bodyPost_ret (results_ctt rfl _ _ gb201 84 #[.int .i64 0, .string (⟨#[]⟩ : ByteArray)] (0, 0) _ rfl (by (with_reducible repeat (first | refine blk_drewN ?_ _ | refine blk_drew ?_ | refine blk_alloc ?_ _)); refine blk_put (cs := #[.int .i64 0, .string x202001_1]) ?_ 1 _ rfl; (with_reducible repeat (first | refine blk_drewN ?_ _ | refine blk_drew ?_ | refine blk_alloc ?_ _)); refine blk_put (cs := #[.int .i64 x202000_1, .string x202001_1]) ?_ 0 _ rfl; (with_reducible repeat (first | refine blk_drewN ?_ _ | refine blk_drew ?_ | refine blk_alloc ?_ _)); exact BK201.out) Tryz.underlying84 rfl (by kernel_rfl)) rfl ?_
              exact ⟨by first | rfl | (simp [errW_none, errW_some] <;> rfl) | (simp [*, errW_none, errW_some] <;> rfl), by repeat (first | (with_reducible first | exact HB.out | apply below_alloc | apply pw_below_drewN | apply below_drew1 | refine below_set ?_ GE201.out) | exact HB.out)⟩
            · rw [if_neg c25] at H
              have c25b0 : (x6_1 == (a0.size : Int)) = false := beq_eq_false_iff_ne.mpr c25
              have c25b1 : (x6_1 != (a0.size : Int)) = true := bne_iff_ne.mpr c25
              have H' := Aside0.mk H
              clear H
              go_wp2
              go_loopg [8] kj2 (fun kq v8 w' => ∃ (x8_3 : Int) (x202000_3 : Int) (x202001_3 : ByteArray), v8 = .int .i64 x8_3 ∧ Aside0 (spigotref08_Next_p.l1 kq a0 x5_1 (wrap64 (x6_1 + 1)) x8_3 = some (r1, r2, r3, r4)) ∧ Aside0 (kq ≤ kj2) ∧ Aside0 (w'.heap[gb201]? = some (.cells #[.int .i64 x202000_3, .string x202001_3] 84 (0, 0))) ∧ Aside0 (Below w.heap.size w w'))
              case atStart => exact ⟨(wrap64 (x6_1 + 1)), (x202000_1), (x202001_1), (by first | rfl | (simp; done) | (simp [*]; done)), H', ⟨Nat.le_refl _⟩, ⟨by (with_reducible repeat (first | refine blk_drewN ?_ _ | refine blk_drew ?_ | refine blk_alloc ?_ _)); exact BK201.out⟩, ⟨by repeat (first | (with_reducible first | exact HB.out | apply below_alloc | apply pw_below_drewN | apply below_drew1 | refine below_set ?_ GE201.out) | exact HB.out)⟩⟩
              case round =>
                clear H'
                try clear c1
                try clear p1
                try clear q1
                try clear hx1
                try clear c2
                try clear p2
                try clear q2
                try clear hx2
                try clear c4
                try clear c4b0
                try clear c5
                try clear c5b0
                try clear p6
                try clear q6
                try clear hx6
                try clear c7
                try clear c7b0
                try clear c7b1
                try clear c8
                try clear c10
                try clear c10b0
                try clear c11
                try clear c11b0
                try clear p12
                try clear q12
                try clear hx12
                try clear c13
                try clear c13b0
                try clear p14
                try clear q14
                try clear hx14
                try clear c15
                try clear c15b0
                try clear c16
                try clear c16b0
                try clear c16b1
                try clear p17
                try clear q17
                try clear hx17
                try clear c18
                try clear c20
                try clear c20b0
                try clear c21
                try clear c21b0
                try clear p22
                try clear q22
                try clear hx22
                try clear c23
                try clear c23b0
                try clear c25
                try clear c25b0
                try clear c25b1
                try clear hcz19_0
                try clear hcz19_1
                try clear hcz24_0
                try clear hcz24_1
                try clear hcz26_0
                try clear hcz26_1
                try clear hfz19_0
                try clear hfz19_1
                try clear hfz24_0
                try clear hfz24_1
                try clear hfz26_0
                try clear hfz26_1
                try clear p1
                try clear p12
                try clear p14
                try clear p17
                try clear p2
                try clear p22
                try clear p6
                try clear q1
                try clear q12
                try clear q14
                try clear q17
                try clear q22
                try clear q6
                obtain ⟨x8_3, x202000_3, x202001_3, rfl, HA, HK3, BK201, HB⟩ := hrel
                cases gk with
                | zero => exact absurd HA.out (by simp [spigotref08_Next_p.l1])
                | succ k3 =>
                  have H := HA.out
                  clear HA
                  simp only [spigotref08_Next_p.l1] at H
                  by_cases c27 : x8_3 < (a0.size : Int)
                  · rw [if_pos c27] at H
                    have c27b0 : decide (x8_3 < (a0.size : Int)) = true := decide_eq_true c27
                    clear c27
                    have HC28 := Aside0.mk H
                    clear H
                    go_upto_region 15 with (fail)
                    go_cut [78] (fun v78 wc => ∃ (kq : Nat) (x78_27 : Bool), v78 = .bool x78_27 ∧ Aside0 (spigotref08_Next_p.j4 kq a0 x5_1 (wrap64 (x6_1 + 1)) x8_3 x78_27 = some (r1, r2, r3, r4)) ∧ Aside0 (kq ≤ k3) ∧ Aside0 (wc.heap[gb201]? = some (.cells #[.int .i64 x202000_3, .string x202001_3] 84 (0, 0))) ∧ Aside0 (Below w.heap.size w wc))
                    case first =>
                      have H := HC28.out
                      clear HC28
                      by_cases c29 : 0 ≤ x8_3
                      · rw [if_pos c29] at H
                        have c29b0 : decide (0 ≤ x8_3) = true := decide_eq_true c29
                        clear c29
                        (first | rw [c29b0] | (simp only [i64_w, i32_w]; rw [c29b0]) | skip)
                        by_cases c31 : (bt a0 x8_3) = 1
                        · rw [if_pos c31] at H
                          have c31b0 : ((bt a0 x8_3) == 1) = true := beq_iff_eq.mpr c31
                          have c31b1 : ((bt a0 x8_3) != 1) = false := bne_eq_false_iff_eq.mpr c31
                          clear c31
                          have H' := Aside0.mk H
                          clear H
                          have p30 : 0 ≤ (x8_3 : Int) := of_decide_eq_true (by first | (with_reducible assumption) | assumption)
                          have q30 : x8_3 < (a0.size : Int) := of_decide_eq_true (by first | (with_reducible assumption) | assumption)
                          have hx30 := bt_at a0 x8_3
                          replace p30 := eq_true p30
                          replace q30 := eq_true q30
                          go_wp2
                          go_meet
                          case rel => exact ⟨_, (decide (x8_3 > (wrap64 (x6_1 + 1)))), (by first | rfl | (simp; done) | (simp [*]; done)), H', ⟨by have := HK1.out; have := HJ2.out; have := HK3.out; first | omega | exact Nat.le_refl _⟩, ⟨by (with_reducible repeat (first | refine blk_drewN ?_ _ | refine blk_drew ?_ | refine blk_alloc ?_ _)); exact BK201.out⟩, ⟨by repeat (first | (with_reducible first | exact HB.out | apply below_alloc | apply pw_below_drewN | apply below_drew1 | refine below_set ?_ GE201.out) | exact HB.out)⟩⟩
                        · rw [if_neg c31] at H
                          have c31b0 : ((bt a0 x8_3) == 1) = false := beq_eq_false_iff_ne.mpr c31
                          have c31b1 : ((bt a0 x8_3) != 1) = true := bne_iff_ne.mpr c31
                          have H' := Aside0.mk H
                          clear H
                          have p30 : 0 ≤ (x8_3 : Int) := of_decide_eq_true (by first | (with_reducible assumption) | assumption)
                          have q30 : x8_3 < (a0.size : Int) := of_decide_eq_true (by first | (with_reducible assumption) | assumption)
                          have hx30 := bt_at a0 x8_3
                          replace p30 := eq_true p30
                          replace q30 := eq_true q30
                          go_wp2
                          go_meet
                          case rel => exact ⟨_, (false), (by first | rfl | (simp; done) | (simp [*]; done)), H', ⟨by have := HK1.out; have := HJ2.out; have := HK3.out; first | omega | exact Nat.le_refl _⟩, ⟨by (with_reducible repeat (first | refine blk_drewN ?_ _ | refine blk_drew ?_ | refine blk_alloc ?_ _)); exact BK201.out⟩, ⟨by repeat (first | (with_reducible first | exact HB.out | apply below_alloc | apply pw_below_drewN | apply below_drew1 | refine below_set ?_ GE201.out) | exact HB.out)⟩⟩
                      · rw [if_neg c29] at H
                        exact absurd H (by simp)
                    case rest =>
                      clear HC28
                      try clear c1
                      try clear p1
                      try clear q1
                      try clear hx1
                      try clear c2
                      try clear p2
                      try clear q2
                      try clear hx2
                      try clear c3
                      try clear p3
                      try clear q3
                      try clear hx3
                      try clear c4
                      try clear c4b0
                      try clear c5
                      try clear c5b0
                      try clear p6
                      try clear q6
                      try clear hx6
                      try clear c7
                      try clear c7b0
                      try clear c7b1
                      try clear c8
                      try clear c10
                      try clear c10b0
                      try clear c11
                      try clear c11b0
                      try clear p12
                      try clear q12
                      try clear hx12
                      try clear c13
                      try clear c13b0
                      try clear p14
                      try clear q14
                      try clear hx14
                      try clear c15
                      try clear c15b0
                      try clear c16
                      try clear c16b0
                      try clear c16b1
                      try clear p17
                      try clear q17
                      try clear hx17
                      try clear c18
                      try clear c20
                      try clear c20b0
                      try clear c21
                      try clear c21b0
                      try clear p22
                      try clear q22
                      try clear hx22
                      try clear c23
                      try clear c23b0
                      try clear c25
                      try clear c25b0
                      try clear c25b1
                      try clear c27
                      try clear c27b0
                      try clear c29
                      try clear c29b0
                      try clear p30
                      try clear q30
                      try clear hx30
                      try clear c31
                      try clear c31b0
                      try clear c31b1
                      try clear hcz19_0
                      try clear hcz19_1
                      try clear hcz24_0
                      try clear hcz24_1
                      try clear hcz26_0
                      try clear hcz26_1
                      try clear hfz19_0
                      try clear hfz19_1
                      try clear hfz24_0
                      try clear hfz24_1
                      try clear hfz26_0
                      try clear hfz26_1
                      try clear p1
                      try clear p12
                      try clear p14
                      try clear p17
                      try clear p2
                      try clear p22
                      try clear p30
                      try clear p6
                      try clear q1
                      try clear q12
                      try clear q14
                      try clear q17
                      try clear q2
                      try clear q22
                      try clear q30
                      try clear q6
                      obtain ⟨kq, x78_27, rfl, HA, HJ27, BK201, HB⟩ := hcut
                      cases kq with
                      | zero => exact absurd HA.out (by simp [spigotref08_Next_p.j4])
                      | succ kj27 =>
                        have H := HA.out
                        clear HA
                        simp only [spigotref08_Next_p.j4] at H
                        by_cases c32 : x78_27 = true
                        · subst c32
                          have H1 : (if 0 ≤ (wrap64 (x6_1 + 1)) then (if (wrap64 (x6_1 + 1)) ≤ x8_3 then (if x8_3 ≤ (a0.size : Int) then (some (x5_1, a0.extract ((wrap64 (x6_1 + 1)) : Int).toNat (x8_3 : Int).toNat, wrap64 (x8_3 + 1), 0)) else (none)) else (none)) else (none)) = some (r1, r2, r3, r4) := by rw [if_pos rfl] at H; exact H
                          clear H
                          have H := H1
                          clear H1
                          obtain ⟨ji33, hji33⟩ : ∃ j_ : Int, (wrap64 (x6_1 + 1)) = j_ := ⟨_, rfl⟩
                          replace H : (if 0 ≤ (ji33) then (if (ji33) ≤ x8_3 then (if x8_3 ≤ (a0.size : Int) then (some (x5_1, a0.extract ((ji33) : Int).toNat (x8_3 : Int).toNat, wrap64 (x8_3 + 1), 0)) else (none)) else (none)) else (none)) = some (r1, r2, r3, r4) := by first | (rw [hji33] at H; exact H) | (simp only [hji33] at H ⊢; exact H)
                          have hji33w : (IntKind.i64.wrap (x6_1 + 1)) = ji33 := (i64_w _).trans hji33
                          by_cases c34 : 0 ≤ (ji33)
                          · rw [if_pos c34] at H
                            have c34b0 := eq_true c34
                            have c34b1 : decide (0 ≤ (ji33)) = true := decide_eq_true c34
                            clear c34
                            by_cases c35 : (ji33) ≤ x8_3
                            · rw [if_pos c35] at H
                              have c35b0 := eq_true c35
                              have c35b1 : decide ((ji33) ≤ x8_3) = true := decide_eq_true c35
                              clear c35
                              by_cases c36 : x8_3 ≤ (a0.size : Int)
                              · rw [if_pos c36] at H
                                have c36b0 := eq_true c36
                                have c36b1 : decide (x8_3 ≤ (a0.size : Int)) = true := decide_eq_true c36
                                clear c36
                                simp only [Option.some.injEq, Prod.mk.injEq] at H
                                obtain ⟨rfl, rfl, rfl, rfl⟩ := H
                                have hcz37_0 : wc.cell? ⟨gb201, 0, none⟩ = some (.int .i64 x202000_3) := (blk_cell BK201.out 0).trans rfl
                                have hcz37_1 : wc.cell? ⟨gb201, 1, none⟩ = some (.string x202001_3) := (blk_cell BK201.out 1).trans rfl
                                have hfz37_0 := blk_frozen BK201.out 0
                                have hfz37_1 := blk_frozen BK201.out 1
                                go_wp2
                                refine bodyPost_ret (results_ctt rfl _ _ gb201 84 #[.int .i64 x5_1, .string (a0.extract ((ji33) : Int).toNat (x8_3 : Int).toNat)] (0, 0) _ rfl (by (with_reducible repeat (first | refine blk_drewN ?_ _ | refine blk_drew ?_ | refine blk_alloc ?_ _)); refine blk_put (cs := #[.int .i64 x5_1, .string x202001_3]) ?_ 1 _ rfl; (with_reducible repeat (first | refine blk_drewN ?_ _ | refine blk_drew ?_ | refine blk_alloc ?_ _)); refine blk_put (cs := #[.int .i64 x202000_3, .string x202001_3]) ?_ 0 _ rfl; (with_reducible repeat (first | refine blk_drewN ?_ _ | refine blk_drew ?_ | refine blk_alloc ?_ _)); exact BK201.out) Tryz.underlying84 rfl (by kernel_rfl)) rfl ?_
                                exact ⟨by first | rfl | (simp [errW_none, errW_some] <;> rfl) | (simp only [← hji33]; first | rfl | (simp [errW_none, errW_some] <;> rfl)) | (simp [*, errW_none, errW_some] <;> rfl), by repeat (first | (with_reducible first | exact HB.out | apply below_alloc | apply pw_below_drewN | apply below_drew1 | refine below_set ?_ GE201.out) | exact HB.out)⟩
                              · rw [if_neg c36] at H
                                exact absurd H (by simp)
                            · rw [if_neg c35] at H
                              exact absurd H (by simp)
                          · rw [if_neg c34] at H
                            exact absurd H (by simp)
                        · replace c32 := Bool.eq_false_iff.mpr c32
                          subst c32
                          have H1 : (if 0 ≤ x8_3 then (if x8_3 ≤ (a0.size : Int) then ((spigotref08_width.f (a0.extract (x8_3 : Int).toNat a0.size)).bind fun t202 => (if t202 = 0 then (some (0, (⟨#[]⟩ : ByteArray), 0, 81)) else (if (wrap64 ((wrap64 (x8_3 + t202)) - (wrap64 (x6_1 + 1)))) > 512 then (some (0, (⟨#[]⟩ : ByteArray), 0, 81)) else (spigotref08_Next_p.l1 kj27 a0 x5_1 (wrap64 (x6_1 + 1)) (wrap64 (x8_3 + t202)))))) else (none)) else (none)) = some (r1, r2, r3, r4) := by rw [if_neg (show ¬ (false = true) by decide)] at H; exact H
                          clear H
                          have H := H1
                          clear H1
                          by_cases c38 : 0 ≤ x8_3
                          · rw [if_pos c38] at H
                            have c38b0 := eq_true c38
                            have c38b1 : decide (0 ≤ x8_3) = true := decide_eq_true c38
                            clear c38
                            by_cases c39 : x8_3 ≤ (a0.size : Int)
                            · rw [if_pos c39] at H
                              have c39b0 := eq_true c39
                              have c39b1 : decide (x8_3 ≤ (a0.size : Int)) = true := decide_eq_true c39
                              clear c39
                              replace H := Option.bind_eq_some_iff.mp H
                              obtain ⟨t202, A400, H⟩ := H
                              replace H : (if t202 = 0 then (some (0, (⟨#[]⟩ : ByteArray), 0, 81)) else (if (wrap64 ((wrap64 (x8_3 + t202)) - (wrap64 (x6_1 + 1)))) > 512 then (some (0, (⟨#[]⟩ : ByteArray), 0, 81)) else (spigotref08_Next_p.l1 kj27 a0 x5_1 (wrap64 (x6_1 + 1)) (wrap64 (x8_3 + t202))))) = some (r1, r2, r3, r4) := H
                              have A40 := Aside0.mk A400
                              clear A400
                              by_cases c41 : t202 = 0
                              · rw [if_pos c41] at H
                                have c41b0 : (t202 == 0) = true := beq_iff_eq.mpr c41
                                have c41b1 : (t202 != 0) = false := bne_eq_false_iff_eq.mpr c41
                                clear c41
                                simp only [Option.some.injEq, Prod.mk.injEq] at H
                                obtain ⟨rfl, rfl, rfl, rfl⟩ := H
                                go_wp2_with (first | ((with_reducible refine gate_callee (f := 70) rfl ?_); refine goesL_ (some 90) rfl rfl Tryz.func70 (by kernel_rfl) rfl #[.string (a0.extract (x8_3 : Int).toNat a0.size)] rfl (by (try simp only [List.map_toArray, List.map_cons, List.map_nil]); first | done | rfl | (simp only [List.length_drop, List.length_take]; rfl)) ?_; (with_reducible refine (spigotref08_width.calls (a0.extract (x8_3 : Int).toNat a0.size) t202 _ A40.out).mono ?_); rintro e w42 ⟨rfl, hb⟩; refine ⟨_, rfl, ?_⟩; have n0_ := Aside0.mk (blk_below (g := gb201) (o := .cells #[.int .i64 x202000_3, .string x202001_3] 84 (0, 0)) (by (with_reducible repeat (first | refine blk_drewN ?_ _ | refine blk_drew ?_ | refine blk_alloc ?_ _)); exact BK201.out) hb); have n1_ := Aside0.mk (below_step (by repeat (first | (with_reducible first | exact HB.out | apply below_alloc | apply pw_below_drewN | apply below_drew1 | refine below_set ?_ GE201.out) | exact HB.out)) hb); clear BK201; clear HB; have BK201 := n0_; have HB := n1_; clear n0_ n1_; (try clear hb); (try clear hb2); (try clear hk); (try clear hi); have hcz43_0 : w42.cell? ⟨gb201, 0, none⟩ = some (.int .i64 x202000_3) := (blk_cell BK201.out 0).trans rfl; have hcz43_1 : w42.cell? ⟨gb201, 1, none⟩ = some (.string x202001_3) := (blk_cell BK201.out 1).trans rfl; have hfz43_0 := blk_frozen BK201.out 0; have hfz43_1 := blk_frozen BK201.out 1))
                                refine bodyPost_ret (results_ctt rfl _ _ gb201 84 #[.int .i64 0, .string (⟨#[]⟩ : ByteArray)] (0, 0) _ rfl (by (with_reducible repeat (first | refine blk_drewN ?_ _ | refine blk_drew ?_ | refine blk_alloc ?_ _)); refine blk_put (cs := #[.int .i64 0, .string x202001_3]) ?_ 1 _ rfl; (with_reducible repeat (first | refine blk_drewN ?_ _ | refine blk_drew ?_ | refine blk_alloc ?_ _)); refine blk_put (cs := #[.int .i64 x202000_3, .string x202001_3]) ?_ 0 _ rfl; (with_reducible repeat (first | refine blk_drewN ?_ _ | refine blk_drew ?_ | refine blk_alloc ?_ _)); exact BK201.out) Tryz.underlying84 rfl (by kernel_rfl)) rfl ?_
                                exact ⟨by first | rfl | (simp [errW_none, errW_some] <;> rfl) | (simp [*, errW_none, errW_some] <;> rfl), by repeat (first | (with_reducible first | exact HB.out | apply below_alloc | apply pw_below_drewN | apply below_drew1 | refine below_set ?_ GE201.out) | exact HB.out)⟩
                              · rw [if_neg c41] at H
                                have c41b0 : (t202 == 0) = false := beq_eq_false_iff_ne.mpr c41
                                have c41b1 : (t202 != 0) = true := bne_iff_ne.mpr c41
                                by_cases c44 : (wrap64 ((wrap64 (x8_3 + t202)) - (wrap64 (x6_1 + 1)))) > 512
                                · rw [if_pos c44] at H
                                  have c44b0 : decide (512 < (wrap64 ((wrap64 (x8_3 + t202)) - (wrap64 (x6_1 + 1))))) = true := decide_eq_true c44
                                  clear c44
                                  simp only [Option.some.injEq, Prod.mk.injEq] at H
                                  obtain ⟨rfl, rfl, rfl, rfl⟩ := H
                                  go_wp2_with (first | ((with_reducible refine gate_callee (f := 70) rfl ?_); refine goesL_ (some 90) rfl rfl Tryz.func70 (by kernel_rfl) rfl #[.string (a0.extract (x8_3 : Int).toNat a0.size)] rfl (by (try simp only [List.map_toArray, List.map_cons, List.map_nil]); first | done | rfl | (simp only [List.length_drop, List.length_take]; rfl)) ?_; (with_reducible refine (spigotref08_width.calls (a0.extract (x8_3 : Int).toNat a0.size) t202 _ A40.out).mono ?_); rintro e w45 ⟨rfl, hb⟩; refine ⟨_, rfl, ?_⟩; have n0_ := Aside0.mk (blk_below (g := gb201) (o := .cells #[.int .i64 x202000_3, .string x202001_3] 84 (0, 0)) (by (with_reducible repeat (first | refine blk_drewN ?_ _ | refine blk_drew ?_ | refine blk_alloc ?_ _)); exact BK201.out) hb); have n1_ := Aside0.mk (below_step (by repeat (first | (with_reducible first | exact HB.out | apply below_alloc | apply pw_below_drewN | apply below_drew1 | refine below_set ?_ GE201.out) | exact HB.out)) hb); clear BK201; clear HB; have BK201 := n0_; have HB := n1_; clear n0_ n1_; (try clear hb); (try clear hb2); (try clear hk); (try clear hi); have hcz46_0 : w45.cell? ⟨gb201, 0, none⟩ = some (.int .i64 x202000_3) := (blk_cell BK201.out 0).trans rfl; have hcz46_1 : w45.cell? ⟨gb201, 1, none⟩ = some (.string x202001_3) := (blk_cell BK201.out 1).trans rfl; have hfz46_0 := blk_frozen BK201.out 0; have hfz46_1 := blk_frozen BK201.out 1))
                                  refine bodyPost_ret (results_ctt rfl _ _ gb201 84 #[.int .i64 0, .string (⟨#[]⟩ : ByteArray)] (0, 0) _ rfl (by (with_reducible repeat (first | refine blk_drewN ?_ _ | refine blk_drew ?_ | refine blk_alloc ?_ _)); refine blk_put (cs := #[.int .i64 0, .string x202001_3]) ?_ 1 _ rfl; (with_reducible repeat (first | refine blk_drewN ?_ _ | refine blk_drew ?_ | refine blk_alloc ?_ _)); refine blk_put (cs := #[.int .i64 x202000_3, .string x202001_3]) ?_ 0 _ rfl; (with_reducible repeat (first | refine blk_drewN ?_ _ | refine blk_drew ?_ | refine blk_alloc ?_ _)); exact BK201.out) Tryz.underlying84 rfl (by kernel_rfl)) rfl ?_
                                  exact ⟨by first | rfl | (simp [errW_none, errW_some] <;> rfl) | (simp [*, errW_none, errW_some] <;> rfl), by repeat (first | (with_reducible first | exact HB.out | apply below_alloc | apply pw_below_drewN | apply below_drew1 | refine below_set ?_ GE201.out) | exact HB.out)⟩
                                · rw [if_neg c44] at H
                                  have c44b0 : decide (512 < (wrap64 ((wrap64 (x8_3 + t202)) - (wrap64 (x6_1 + 1))))) = false := decide_eq_false c44
                                  clear c44
                                  have H' := Aside0.mk H
                                  clear H
                                  go_wp2_with (first | ((with_reducible refine gate_callee (f := 70) rfl ?_); refine goesL_ (some 90) rfl rfl Tryz.func70 (by kernel_rfl) rfl #[.string (a0.extract (x8_3 : Int).toNat a0.size)] rfl (by (try simp only [List.map_toArray, List.map_cons, List.map_nil]); first | done | rfl | (simp only [List.length_drop, List.length_take]; rfl)) ?_; (with_reducible refine (spigotref08_width.calls (a0.extract (x8_3 : Int).toNat a0.size) t202 _ A40.out).mono ?_); rintro e w47 ⟨rfl, hb⟩; refine ⟨_, rfl, ?_⟩; have n0_ := Aside0.mk (blk_below (g := gb201) (o := .cells #[.int .i64 x202000_3, .string x202001_3] 84 (0, 0)) (by (with_reducible repeat (first | refine blk_drewN ?_ _ | refine blk_drew ?_ | refine blk_alloc ?_ _)); exact BK201.out) hb); have n1_ := Aside0.mk (below_step (by repeat (first | (with_reducible first | exact HB.out | apply below_alloc | apply pw_below_drewN | apply below_drew1 | refine below_set ?_ GE201.out) | exact HB.out)) hb); clear BK201; clear HB; have BK201 := n0_; have HB := n1_; clear n0_ n1_; (try clear hb); (try clear hb2); (try clear hk); (try clear hi)))
                                  go_roundg kj27
                                  case measure => have := HK1.out; have := HJ2.out; have := HK3.out; have := HJ27.out; omega
                                  case rel => exact ⟨(wrap64 (x8_3 + t202)), (x202000_3), (x202001_3), (by first | rfl | (simp; done) | (simp [*]; done)), H', ⟨by have := HK1.out; have := HJ2.out; have := HK3.out; have := HJ27.out; omega⟩, ⟨by (with_reducible repeat (first | refine blk_drewN ?_ _ | refine blk_drew ?_ | refine blk_alloc ?_ _)); exact BK201.out⟩, ⟨by repeat (first | (with_reducible first | exact HB.out | apply below_alloc | apply pw_below_drewN | apply below_drew1 | refine below_set ?_ GE201.out) | exact HB.out)⟩⟩
                            · rw [if_neg c39] at H
                              exact absurd H (by simp)
                          · rw [if_neg c38] at H
                            exact absurd H (by simp)
                  · rw [if_neg c27] at H
                    have c27b0 : decide (x8_3 < (a0.size : Int)) = false := decide_eq_false c27
                    clear c27
                    simp only [Option.some.injEq, Prod.mk.injEq] at H
                    obtain ⟨rfl, rfl, rfl, rfl⟩ := H
                    have hcz48_0 : wr.cell? ⟨gb201, 0, none⟩ = some (.int .i64 x202000_3) := (blk_cell BK201.out 0).trans rfl
                    have hcz48_1 : wr.cell? ⟨gb201, 1, none⟩ = some (.string x202001_3) := (blk_cell BK201.out 1).trans rfl
                    have hfz48_0 := blk_frozen BK201.out 0
                    have hfz48_1 := blk_frozen BK201.out 1
                    go_wp2
                    refine bodyPost_ret (results_ctt rfl _ _ gb201 84 #[.int .i64 0, .string (⟨#[]⟩ : ByteArray)] (0, 0) _ rfl (by (with_reducible repeat (first | refine blk_drewN ?_ _ | refine blk_drew ?_ | refine blk_alloc ?_ _)); refine blk_put (cs := #[.int .i64 0, .string x202001_3]) ?_ 1 _ rfl; (with_reducible repeat (first | refine blk_drewN ?_ _ | refine blk_drew ?_ | refine blk_alloc ?_ _)); refine blk_put (cs := #[.int .i64 x202000_3, .string x202001_3]) ?_ 0 _ rfl; (with_reducible repeat (first | refine blk_drewN ?_ _ | refine blk_drew ?_ | refine blk_alloc ?_ _)); exact BK201.out) Tryz.underlying84 rfl (by kernel_rfl)) rfl ?_
                    exact ⟨by first | rfl | (simp [errW_none, errW_some] <;> rfl) | (simp [*, errW_none, errW_some] <;> rfl), by repeat (first | (with_reducible first | exact HB.out | apply below_alloc | apply pw_below_drewN | apply below_drew1 | refine below_set ?_ GE201.out) | exact HB.out)⟩
def nextRes (s : ByteArray) (tg : Int) (n : Nat) : Int × ByteArray × Int × Int :=
  if (textL (s.data.toList.drop n) 0).2 = 0 then (tg, s.extract n (n + (textL (s.data.toList.drop n) 0).1), ((n + (textL (s.data.toList.drop n) 0).1 + 1 : Nat) : Int), 0) else (0, ⟨#[]⟩, 0, ((textL (s.data.toList.drop n) 0).2 : Int))
theorem ref08_text_loop (s : ByteArray) (hs : s.size ≤ big) (tg : Int) (n : Nat) (d : Nat) : ∀ (k at_ : Nat), n ≤ at_ → at_ ≤ s.size → s.size - at_ ≤ d → 2 * d + 1 < k →
    textL (s.data.toList.drop at_) (at_ - n) = textL (s.data.toList.drop n) 0 →
    spigotref08_Next_p.l1 k s tg (n : Int) (at_ : Int) = some (nextRes s tg n) := by
  induction d with
  | zero =>
    intro k at_ h1 h2 h3 hk ht
    obtain ⟨k, rfl⟩ : ∃ m, k = m + 1 := ⟨k - 1, by omega⟩
    simp only [spigotref08_Next_p.l1]
    rw [drop_nil_of s at_ (by omega), textL_nil] at ht
    rw [if_neg (by omega)]
    unfold nextRes
    rw [← ht]; rfl
  | succ d ih =>
    intro k at_ h1 h2 h3 hk ht
    obtain ⟨k, rfl⟩ : ∃ m, k = m + 2 := ⟨k - 2, by omega⟩
    by_cases hlt : at_ < s.size
    · have hne := drop_ne_nil s at_ hlt
      have hl : at_ < s.data.toList.length := by rw [size_list]; omega
      simp only [spigotref08_Next_p.l1, spigotref08_Next_p.j4]
      rw [if_pos (by omega), if_pos (by omega), bt_get s at_ hl]
      have hwid : spigotref08_width.f (s.extract at_ s.size) = some (widthL (s.data.toList.drop at_) : Int) := by
        unfold spigotref08_width.f; rw [if_pos (by rw [ByteArray.size_extract]; omega), drop_list]
      have hcons : s.data.toList.drop at_ = s.data.toList[at_] :: s.data.toList.drop (at_ + 1) := List.drop_eq_getElem_cons hl
      rw [textL_cons _ hne] at ht
      have hone : (dec (s.data.toList.drop at_)).1 = 1 ↔ ((s.data.toList[at_]).toNat : Int) = 1 := by
        rw [hcons]
        rcases Nat.lt_or_ge (s.data.toList[at_]).toNat 128 with g | g
        · rw [dec_ascii _ _ g]; simp only; omega
        · have := dec_high (s.data.toList[at_]) (s.data.toList.drop (at_ + 1)) g; omega
      have p1 : (0 : Int) ≤ (n : Int) := by omega
      have p2 : (n : Int) ≤ (at_ : Int) := by omega
      have p3 : (at_ : Int) ≤ (s.size : Int) := by omega
      have p4 : (0 : Int) ≤ (at_ : Int) := by omega
      simp only [p1, p2, p3, p4, if_true, Int.toNat_natCast, hwid, Option.bind_some]
      unfold big at hs
      have go : (¬ ((dec (s.data.toList.drop at_)).1 = 1 ∧ 0 < at_ - n)) → (if (widthL (s.data.toList.drop at_) : Int) = 0 then (some ((0 : Int), (⟨#[]⟩ : ByteArray), (0 : Int), (81 : Int))) else (if (wrap64 ((wrap64 ((at_ : Int) + (widthL (s.data.toList.drop at_) : Int))) - (n : Int))) > 512 then (some (0, (⟨#[]⟩ : ByteArray), 0, 81)) else (spigotref08_Next_p.l1 k s tg (n : Int) (wrap64 ((at_ : Int) + (widthL (s.data.toList.drop at_) : Int)))))) = some (nextRes s tg n) := by
        intro hno
        rw [if_neg hno] at ht
        have hw := dec_width (s.data.toList.drop at_)
        have hwl := dec_width_le _ hne
        rw [List.length_drop, size_list] at hwl
        by_cases hm : mayB (dec (s.data.toList.drop at_)).1 = true
        · have e : widthL (s.data.toList.drop at_) = (dec (s.data.toList.drop at_)).2 := by unfold widthL; rw [if_pos ⟨hne, hm⟩]
          rw [e, if_neg (by omega), w64 (x := (at_ : Int) + ((dec (s.data.toList.drop at_)).2 : Int)) (by omega) (by omega), w64 (by omega) (by omega)]
          by_cases h5 : at_ - n + (dec (s.data.toList.drop at_)).2 ≤ 512
          · rw [if_pos ⟨hm, h5⟩, List.drop_drop] at ht
            rw [if_neg (by omega), ← Int.natCast_add]
            exact ih k (at_ + (dec (s.data.toList.drop at_)).2) (by omega) (by omega) (by omega) (by omega) (by rw [← ht]; congr 1; omega)
          · rw [if_neg (fun g => h5 g.2)] at ht
            rw [if_pos (by omega)]; unfold nextRes; rw [← ht]; rfl
        · have e : widthL (s.data.toList.drop at_) = 0 := by unfold widthL; rw [if_neg (fun g => hm g.2)]
          rw [if_neg (fun g => hm g.1)] at ht
          rw [e, if_pos (show ((0 : Nat) : Int) = 0 from rfl)]; unfold nextRes; rw [← ht]; rfl
      by_cases c1 : ((s.data.toList[at_]).toNat : Int) = 1
      · rw [if_pos c1]
        by_cases c2 : (at_ : Int) > n
        · rw [decide_eq_true c2, if_pos rfl]
          rw [if_pos ⟨hone.2 c1, by omega⟩] at ht
          unfold nextRes
          rw [← ht, if_pos rfl, w64 (by omega) (by omega)]
          have e : n + (at_ - n) = at_ := by omega
          simp only [e]
          congr 3
        · rw [decide_eq_false c2, if_neg (by simp)]
          exact go (by omega)
      · rw [if_neg c1, if_neg (by simp)]
        exact go (fun g => c1 (hone.1 g.1))
    · simp only [spigotref08_Next_p.l1]
      rw [drop_nil_of s at_ (by omega), textL_nil] at ht
      rw [if_neg (by omega)]
      unfold nextRes
      rw [← ht]; rfl
theorem ref08_num_loop (s : ByteArray) (hs : s.size ≤ big) (d : Nat) : ∀ (k i tg : Nat), i ≤ s.size → s.size - i ≤ d → 3 * d + 2 * s.size + 6 < k → tg ≤ 99999 →
    spigotref08_Next_p.l0 k s (tg : Int) (i : Int) = some (if (numL (s.data.toList.drop i) i tg).2.2 = 0 then nextRes s ((numL (s.data.toList.drop i) i tg).1 : Int) (numL (s.data.toList.drop i) i tg).2.1 else (0, ⟨#[]⟩, 0, ((numL (s.data.toList.drop i) i tg).2.2 : Int))) := by
  have hs2 := hs
  unfold big at hs2
  induction d with
  | zero =>
    intro k i tg h1 h2 hk ht
    obtain ⟨k, rfl⟩ : ∃ m, k = m + 3 := ⟨k - 3, by omega⟩
    simp only [spigotref08_Next_p.l0, spigotref08_Next_p.j1]
    rw [if_neg (by omega), if_neg (by simp), if_pos (by omega), drop_nil_of s i (by omega)]; rfl
  | succ d ih =>
    intro k i tg h1 h2 hk ht
    obtain ⟨k, rfl⟩ : ∃ m, k = m + 3 := ⟨k - 3, by omega⟩
    by_cases hlt : i < s.size
    · have hl : i < s.data.toList.length := by rw [size_list]; omega
      have hcons : s.data.toList.drop i = s.data.toList[i] :: s.data.toList.drop (i + 1) := List.drop_eq_getElem_cons hl
      simp only [spigotref08_Next_p.l0, spigotref08_Next_p.j1, spigotref08_Next_p.j2]
      rw [if_pos (by omega), if_pos (by omega), bt_get s i hl, hcons]
      have hb := u8_lt (s.data.toList[i])
      have hbad : ∀ (hb2 : ¬ isDig (s.data.toList[i]) ∨ ((s.data.toList[i]).toNat = 48 ∧ i = 0)), ¬ ((s.data.toList[i]).toNat = 61 ∧ 0 < i) → some ((0 : Int), (⟨#[]⟩ : ByteArray), (0 : Int), (80 : Int)) = some (if (numL (s.data.toList[i] :: s.data.toList.drop (i + 1)) i tg).2.2 = 0 then nextRes s ((numL (s.data.toList[i] :: s.data.toList.drop (i + 1)) i tg).1 : Int) (numL (s.data.toList[i] :: s.data.toList.drop (i + 1)) i tg).2.1 else (0, ⟨#[]⟩, 0, ((numL (s.data.toList[i] :: s.data.toList.drop (i + 1)) i tg).2.2 : Int))) := by
        intro hb2 hn
        rw [numL_bad _ _ i tg hn hb2]; rfl
      rw [if_pos (show (0 : Int) ≤ (i : Int) by omega), if_pos (show (i : Int) < (s.size : Int) by omega)]
      by_cases c61 : ((s.data.toList[i]).toNat : Int) = 61
      · rw [if_pos c61]
        by_cases ci : i = 0
        · subst ci
          rw [if_pos (by simp), if_neg (by omega), if_pos (by omega), if_pos trivial]
          exact hbad (.inl (by unfold isDig; omega)) (by omega)
        · rw [beq_eq_false_iff_ne.2 (by omega), if_neg (by simp), if_neg (by omega), w64 (by omega) (by omega), numL_sep _ _ i tg (by omega) (by omega), if_pos rfl]
          rw [show ((i : Int) + 1) = ((i + 1 : Nat) : Int) by omega]
          exact ref08_text_loop s hs _ (i + 1) (s.size - (i + 1)) (k + 1) (i + 1) (by omega) (by omega) (by omega) (by omega) (by rw [Nat.sub_self])
      · rw [if_neg c61, if_pos trivial]
        have h61 : ¬ ((s.data.toList[i]).toNat = 61 ∧ 0 < i) := by omega
        by_cases c1 : ((s.data.toList[i]).toNat : Int) < 48
        · rw [if_pos c1, if_pos trivial]; exact hbad (.inl (by unfold isDig; omega)) h61
        rw [if_neg c1]
        by_cases c2 : ((s.data.toList[i]).toNat : Int) > 57
        · rw [if_pos c2, if_pos trivial]; exact hbad (.inl (by unfold isDig; omega)) h61
        rw [if_neg c2]
        have hdig : isDig (s.data.toList[i]) := by unfold isDig; omega
        have cont : ¬ ((s.data.toList[i]).toNat = 48 ∧ i = 0) → (if 0 ≤ (i : Int) then (if (i : Int) < (s.size : Int) then (if (wrap64 ((wrap64 (10 * (tg : Int))) + ((((s.data.toList[i]).toNat : Int) - 48) % 256))) > 99999 then (some ((0 : Int), (⟨#[]⟩ : ByteArray), (0 : Int), (80 : Int))) else (spigotref08_Next_p.l0 k s (wrap64 ((wrap64 (10 * (tg : Int))) + ((((s.data.toList[i]).toNat : Int) - 48) % 256))) (wrap64 ((i : Int) + 1)))) else (none)) else (none)) = some (if (numL (s.data.toList[i] :: s.data.toList.drop (i + 1)) i tg).2.2 = 0 then nextRes s ((numL (s.data.toList[i] :: s.data.toList.drop (i + 1)) i tg).1 : Int) (numL (s.data.toList[i] :: s.data.toList.drop (i + 1)) i tg).2.1 else (0, ⟨#[]⟩, 0, ((numL (s.data.toList[i] :: s.data.toList.drop (i + 1)) i tg).2.2 : Int))) := by
          intro hz
          rw [if_pos (by omega), if_pos (by omega), w64 (x := 10 * (tg : Int)) (by omega) (by omega), w64 (x := 10 * (tg : Int) + _) (by omega) (by omega)]
          have ev : 10 * (tg : Int) + (((s.data.toList[i]).toNat : Int) - 48) % 256 = ((10 * tg + ((s.data.toList[i]).toNat - 48) : Nat) : Int) := by omega
          rw [ev]
          by_cases c3 : 99999 < 10 * tg + ((s.data.toList[i]).toNat - 48)
          · rw [if_pos (by omega), numL_big _ _ i tg hdig hz c3]; rfl
          · rw [if_neg (by omega), numL_go _ _ i tg hdig hz c3, w64 (by omega) (by omega), show ((i : Int) + 1) = ((i + 1 : Nat) : Int) by omega]
            exact ih k (i + 1) _ (by omega) (by omega) (by omega) (by omega)
        by_cases ci : i = 0
        · subst ci
          rw [if_pos (show ((0 : Nat) : Int) = 0 from rfl)]
          by_cases c48 : ((s.data.toList[0]).toNat : Int) = 48
          · rw [beq_iff_eq.2 c48, if_pos rfl]; exact hbad (.inr ⟨by omega, rfl⟩) h61
          · rw [beq_eq_false_iff_ne.2 c48, if_neg (by simp)]; exact cont (by omega)
        · rw [if_neg (by omega), if_neg (by simp)]; exact cont (by omega)
    · simp only [spigotref08_Next_p.l0, spigotref08_Next_p.j1]
      rw [if_neg (by omega), if_neg (by simp), if_pos (by omega), drop_nil_of s i (by omega)]; rfl
def spigotref08_Next.f (a0 : ByteArray) : Option (Int × ByteArray × Int × Int) := if a0.size ≤ big then some (((nextL a0.data.toList).1.1 : Int), ⟨(nextL a0.data.toList).1.2.toArray⟩, ((nextL a0.data.toList).2.1 : Int), ((nextL a0.data.toList).2.2 : Int)) else none
theorem spigotref08_Next_eq (s : ByteArray) (hs : s.size ≤ big) : spigotref08_Next_p.f (5 * s.size + 7) s = spigotref08_Next.f s := by
  unfold spigotref08_Next_p.f spigotref08_Next.f
  rw [if_pos hs]
  have h := ref08_num_loop s hs s.size (5 * s.size + 7) 0 0 (by omega) (by omega) (by omega) (by omega)
  rw [List.drop_zero, show ((0 : Nat) : Int) = 0 from rfl] at h
  rw [h]
  congr 1
  by_cases h1 : (numL s.data.toList 0 0).2.2 = 0
  · rw [if_pos h1]
    unfold nextRes
    by_cases h2 : (textL (s.data.toList.drop (numL s.data.toList 0 0).2.1) 0).2 = 0
    · rw [if_pos h2, nextL_ok _ h1 h2]
      have e : s.extract (numL s.data.toList 0 0).2.1 ((numL s.data.toList 0 0).2.1 + (textL (s.data.toList.drop (numL s.data.toList 0 0).2.1) 0).1) = ⟨((s.data.toList.drop (numL s.data.toList 0 0).2.1).take (textL (s.data.toList.drop (numL s.data.toList 0 0).2.1) 0).1).toArray⟩ := by
        apply ba_ext; rw [extract_list]; simp
      rw [e]; rfl
    · rw [if_neg h2, nextL_texterr _ h1 h2]; rfl
  · rw [if_neg h1, nextL_numerr _ h1]; rfl
theorem spigotref08_Next.calls (a0 : ByteArray) (r1 : Int) (r2 : ByteArray) (r3 : Int) (r4 : Int) (w : World) (h : spigotref08_Next.f a0 = some (r1, r2, r3, r4)) :
    Calls Tryz.prog 49 #[.string a0] w fun e w' => e = .returned (.tuple #[.agg #[.int .i64 r1, .string r2], .int .i64 r3, .int .i64 r4]) ∧ Below w.heap.size w w' := by
  by_cases c : a0.size ≤ big
  · exact spigotref08_Next_p.calls _ a0 r1 r2 r3 r4 w ((spigotref08_Next_eq a0 c).trans h)
  · unfold spigotref08_Next.f at h; rw [if_neg c] at h; cases h
end Go.Proofs.YtgfigkfcmkdjdaaGreatDoor.B
end
