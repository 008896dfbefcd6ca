/- The functions that the law reaches, as plain Lean functions, and their contracts: texts merged. -/
import Derived.Laws.StructEq
import Derived.Test.YtgfigkfcmkdjdaaGreatDoorzAskDecodes2
import Derived.Test.YtgfigkfcmkdjdaaGreatDoorzAskDecodes0
import Derived.Test.YtgfigkfcmkdjdaaGreatDoorzAskDecodes1
import Derived.Test.YtgfigkfcmkdjdaaGreatDoorzAskDecodes3
import Derived.Test.YtgfigkfcmkdjdaaGreatDoorzAskDecodes4
import Derived.Test.YtgfigkfcmkdjdaaGreatDoorzAskDecodes5
import Derived.Test.YtgfigkfcmkdjdaaGreatDoorzAskDecodes6
import Derived.Test.YtgfigkfcmkdjdaaGreatDoorzAskDecodes7
import Derived.Test.YtgfigkfcmkdjdaaGreatDoorzAskDecodes8
import Derived.Test.YtgfigkfcmkdjdaaGreatDoorzAskDecodes9
import Derived.Test.YtgfigkfcmkdjdaaGreatDoorzAskDecodes10
import Derived.Test.YtgfigkfcmkdjdaaGreatDoorzAskDecodes11
import Derived.Test.YtgfigkfcmkdjdaaGreatDoorzAskDecodes12
import Derived.Test.YtgfigkfcmkdjdaaGreatDoorzAskDecodes13
import Derived.Test.YtgfigkfcmkdjdaaGreatDoorzAskDecodes14
import Derived.Test.YtgfigkfcmkdjdaaGreatDoorzAskDecodes15
import Derived.Test.YtgfigkfcmkdjdaaGreatDoorzAskDecodes16
import Derived.Test.YtgfigkfcmkdjdaaGreatDoorzAskDecodes17
import Derived.Test.YtgfigkfcmkdjdaaGreatDoorzAskDecodes18
import Derived.Test.YtgfigkfcmkdjdaaGreatDoorzAskDecodes19
import Derived.Test.YtgfigkfcmkdjdaaGreatDoorzAskDecodes20
import Derived.Test.YtgfigkfcmkdjdaaGreatDoorzAskDecodes21
import Derived.Test.YtgfigkfcmkdjdaaGreatDoorzAskDecodes22
import Derived.Test.YtgfigkfcmkdjdaaGreatDoorzAskDecodes23
import Derived.Test.YtgfigkfcmkdjdaaGreatDoorzAskDecodes24
import Derived.Test.YtgfigkfcmkdjdaaGreatDoorzAskDecodes25
section
namespace Go.Proofs.YtgfigkfcmkdjdaaGreatDoor.B
open Go.RowKit Go.Proofs.YtgfigkfcmkdjdaaGreatDoorW.PrintWords Go.Proofs.YtgfigkfcmkdjdaaGreatDoorW.PrintLast Go.Proofs.YtgfigkfcmkdjdaaGreatDoorW.PrintMore
attribute [local go_sem] max2_int min2_int max_two min_two max_three min_three max_four min_four   -- for this text's walks alone
set_option linter.unusedVariables false
set_option linter.unusedSimpArgs false
def spigotref03_Same.l0 : Nat → List Int → List Int → Int → Option (Bool)
  | 0, _, _, _ => none
  | k + 1, x0, x1, x5 => if x5 < (x0.length : Int) then (if 0 ≤ x5 then (if x5 < (x1.length : Int) then (if (rd x0 x5) = (rd x1 x5) then (spigotref03_Same.l0 k x0 x1 (wrap64 (x5 + 1))) else (some false)) else (none)) else (none)) else (some true)
def spigotref03_Same.f (k : Nat) (l0 : List Int) (l1 : List Int) : Option (Bool) := if (l0.length : Int) = (l1.length : Int) then (spigotref03_Same.l0 k l0 l1 0) else (some false)
theorem spigotref03_Same.mono_l : ∀ k, (∀ y0 y1 y2, LeO (spigotref03_Same.l0 k y0 y1 y2) (spigotref03_Same.l0 (k + 1) y0 y1 y2))
  | 0 => fun _ _ _ r h => by simp [spigotref03_Same.l0] at h
  | k + 1 => by
    have ih0 := spigotref03_Same.mono_l k
    · intro y0 y1 y2
      unfold spigotref03_Same.l0
      repeat' first
      | (with_reducible exact ih0 _ _ _)
      | (with_reducible exact LeO.refl _)
      | (with_reducible exact LeO.none _)
      | (with_reducible refine LeO.ite ?_ ?_)
      | (with_reducible refine LeO.bind ?_ (fun _ => ?_))
      | exact ih0 _ _ _
      | exact LeO.none _
      | refine LeO.ite ?_ ?_
      | refine LeO.bind ?_ (fun _ => ?_)
theorem spigotref03_Same.mono : ∀ a0 a1 k, LeO (spigotref03_Same.f k a0 a1) (spigotref03_Same.f (k + 1) a0 a1) := by
  intro a0 a1 k
  have ih0 := spigotref03_Same.mono_l k
  unfold spigotref03_Same.f
  repeat' first
      | (with_reducible exact ih0 _ _ _)
      | (with_reducible exact LeO.refl _)
      | (with_reducible exact LeO.none _)
      | (with_reducible refine LeO.ite ?_ ?_)
      | (with_reducible refine LeO.bind ?_ (fun _ => ?_))
      | exact ih0 _ _ _
      | exact LeO.none _
      | refine LeO.ite ?_ ?_
      | refine LeO.bind ?_ (fun _ => ?_)
set_option maxHeartbeats 8000000 in
set_option maxRecDepth 100000 in
theorem spigotref03_Same.calls (k : Nat) (A0 : Option Addr) (c0 : Nat) (l0 : List Int) (A1 : Option Addr) (c1 : Nat) (l1 : List Int) (r : Bool) (w : World) (hr0 : Kd.C (Kd.int .i64) w A0 l0.length l0) (hc0 : l0.length ≤ c0) (hr1 : Kd.C (Kd.int .i64) w A1 l1.length l1) (hc1 : l1.length ≤ c1) (h : spigotref03_Same.f k l0 l1 = some r) :
    Calls Tryz.prog 40 #[.slice A0 l0.length c0, .slice A1 l1.length c1] w fun e w' => e = .returned (.bool r) ∧ Drawn0 w w' := by
  have HR0 := Aside0.mk hr0
  have HC0 := Aside0.mk hc0
  clear hr0 hc0
  have HR1 := Aside0.mk hr1
  have HC1 := Aside0.mk hc1
  clear hr1 hc1
  have H : (if (l0.length : Int) = (l1.length : Int) then (spigotref03_Same.l0 k l0 l1 0) else (some false)) = some r := h
  clear h
  by_cases c3 : (l0.length : Int) = (l1.length : Int)
  · rw [if_pos c3] at H
    have c3b0 : ((l0.length : Int) == (l1.length : Int)) = true := beq_iff_eq.mpr c3
    have c3b1 : ((l0.length : Int) != (l1.length : Int)) = false := bne_eq_false_iff_eq.mpr c3
    have c3b2 : (l0.length == l1.length) = true := by first | simpa using c3 | (simp at c3 ⊢; omega)
    clear c3
    have H' := Aside0.mk H
    clear H
    go_enter Tryz.func40, Tryz.ntmps40
    go_wp2
    repeat (go_quiet (fail); try go_wp2)
    go_loopg [5] k (fun kq v5 w' => ∃ (x5_1 : Int), v5 = .int .i64 x5_1 ∧ Aside0 (spigotref03_Same.l0 kq l0 l1 x5_1 = some r) ∧ Aside0 (kq ≤ k) ∧ Drawn0 w w')
    case atStart => exact ⟨(0), (by first | rfl | (simp; done) | (simp [*]; done)), H', ⟨Nat.le_refl _⟩, by repeat (first | exact Drawn0.refl _ | apply Drawn0.step)⟩
    case round =>
      clear H'
      try clear c1
      try clear p2
      try clear c3
      try clear c3b0
      try clear c3b1
      try clear c3b2
      obtain ⟨x5_1, rfl, HA, HK1, ⟨m1, rfl⟩⟩ := hrel
      cases gk with
      | zero => exact absurd HA.out (by simp [spigotref03_Same.l0])
      | succ k1 =>
        have H := HA.out
        clear HA
        simp only [spigotref03_Same.l0] at H
        by_cases c4 : x5_1 < (l0.length : Int)
        · rw [if_pos c4] at H
          have c4b0 : decide (x5_1 < (l0.length : Int)) = true := decide_eq_true c4
          clear c4
          by_cases c5 : 0 ≤ x5_1
          · rw [if_pos c5] at H
            have c5b0 : decide (0 ≤ x5_1) = true := decide_eq_true c5
            clear c5
            by_cases c6 : x5_1 < (l1.length : Int)
            · rw [if_pos c6] at H
              have c6b0 : decide (x5_1 < (l1.length : Int)) = true := decide_eq_true c6
              clear c6
              by_cases c7 : (rd l0 x5_1) = (rd l1 x5_1)
              · rw [if_pos c7] at H
                have c7b0 : ((rd l0 x5_1) == (rd l1 x5_1)) = true := beq_iff_eq.mpr c7
                have c7b1 : ((rd l0 x5_1) != (rd l1 x5_1)) = false := bne_eq_false_iff_eq.mpr c7
                clear c7
                have H' := Aside0.mk H
                clear H
                have p282 : 0 ≤ (x5_1 : Int) := of_decide_eq_true (by first | (with_reducible assumption) | assumption)
                have q282 : x5_1 < (l0.length : Int) := of_decide_eq_true (by first | (with_reducible assumption) | assumption)
                obtain ⟨ad282, e282, hx282_0⟩ := Kd.at_int HR0.out x5_1 p282 q282
                cases e282
                replace p282 := eq_true p282
                replace q282 := eq_true q282
                have p283 : 0 ≤ (x5_1 : Int) := of_decide_eq_true (by first | (with_reducible assumption) | assumption)
                have q283 : x5_1 < (l1.length : Int) := of_decide_eq_true (by first | (with_reducible assumption) | assumption)
                obtain ⟨ad283, e283, hx283_0⟩ := Kd.at_int HR1.out x5_1 p283 q283
                cases e283
                replace p283 := eq_true p283
                replace q283 := eq_true q283
                go_wp2
                repeat (go_quiet (fail); try go_wp2)
                go_roundg k1
                case measure => have := HK1.out; omega
                case rel => exact ⟨(wrap64 (x5_1 + 1)), (by first | rfl | (simp; done) | (simp [*]; done)), H', ⟨by have := HK1.out; omega⟩, by repeat (first | exact Drawn0.refl _ | apply Drawn0.step)⟩
              · rw [if_neg c7] at H
                have c7b0 : ((rd l0 x5_1) == (rd l1 x5_1)) = false := beq_eq_false_iff_ne.mpr c7
                have c7b1 : ((rd l0 x5_1) != (rd l1 x5_1)) = true := bne_iff_ne.mpr c7
                obtain rfl := Option.some.inj H
                have p282 : 0 ≤ (x5_1 : Int) := of_decide_eq_true (by first | (with_reducible assumption) | assumption)
                have q282 : x5_1 < (l0.length : Int) := of_decide_eq_true (by first | (with_reducible assumption) | assumption)
                obtain ⟨ad282, e282, hx282_0⟩ := Kd.at_int HR0.out x5_1 p282 q282
                cases e282
                replace p282 := eq_true p282
                replace q282 := eq_true q282
                have p283 : 0 ≤ (x5_1 : Int) := of_decide_eq_true (by first | (with_reducible assumption) | assumption)
                have q283 : x5_1 < (l1.length : Int) := of_decide_eq_true (by first | (with_reducible assumption) | assumption)
                obtain ⟨ad283, e283, hx283_0⟩ := Kd.at_int HR1.out x5_1 p283 q283
                cases e283
                replace p283 := eq_true p283
                replace q283 := eq_true q283
                go_wp2
                repeat (go_quiet (fail); try go_wp2)
                go_ret
                exact ⟨by first | rfl | (simp; done) | (simp [*]; done), by repeat (first | exact Drawn0.refl _ | apply Drawn0.step)⟩
            · rw [if_neg c6] at H
              exact absurd H (by simp)
          · rw [if_neg c5] at H
            exact absurd H (by simp)
        · rw [if_neg c4] at H
          have c4b0 : decide (x5_1 < (l0.length : Int)) = false := decide_eq_false c4
          clear c4
          obtain rfl := Option.some.inj H
          go_wp2
          repeat (go_quiet (fail); try go_wp2)
          go_ret
          exact ⟨by first | rfl | (simp; done) | (simp [*]; done), by repeat (first | exact Drawn0.refl _ | apply Drawn0.step)⟩
  · rw [if_neg c3] at H
    have c3b0 : ((l0.length : Int) == (l1.length : Int)) = false := beq_eq_false_iff_ne.mpr c3
    have c3b1 : ((l0.length : Int) != (l1.length : Int)) = true := bne_iff_ne.mpr c3
    have c3b2 : (l0.length == l1.length) = false := by first | simpa using c3 | (simp at c3 ⊢; omega)
    obtain rfl := Option.some.inj H
    go_enter Tryz.func40, Tryz.ntmps40
    go_wp2
    repeat (go_quiet (fail); try go_wp2)
    go_ret
    exact ⟨by first | rfl | (simp; done) | (simp [*]; done), by repeat (first | exact Drawn0.refl _ | apply Drawn0.step)⟩
end Go.Proofs.YtgfigkfcmkdjdaaGreatDoor.B
end
section
namespace Go.Proofs.YtgfigkfcmkdjdaaGreatDoor.B
open Go.RowKit Go.Proofs.YtgfigkfcmkdjdaaGreatDoorW.PrintWords Go.Proofs.YtgfigkfcmkdjdaaGreatDoorW.PrintLast Go.Proofs.YtgfigkfcmkdjdaaGreatDoorW.PrintMore
attribute [local go_sem] max2_int min2_int max_two min_two max_three min_three max_four min_four   -- for this text's walks alone
set_option linter.unusedVariables false
set_option linter.unusedSimpArgs false
theorem same03_loop (l : List Int) (hl : l.length ≤ 64) : ∀ (n i k : Nat), i + n = l.length → n < k → spigotref03_Same.l0 k l l (i : Int) = some true := by
  intro n
  induction n with
  | zero =>
    intro i k hi hk
    obtain ⟨k, rfl⟩ : ∃ m, k = m + 1 := ⟨k - 1, by omega⟩
    rw [spigotref03_Same.l0, if_neg (by omega)]
  | succ n ih =>
    intro i k hi hk
    obtain ⟨k, rfl⟩ : ∃ m, k = m + 1 := ⟨k - 1, by omega⟩
    rw [spigotref03_Same.l0, if_pos (by omega), if_pos (by omega), if_pos (by omega), if_pos rfl, show wrap64 ((i : Int) + 1) = ((i + 1 : Nat) : Int) by rw [w64 (by omega) (by omega)]; omega]
    exact ih (i + 1) k (by omega) (by omega)
theorem same03_f (l : List Int) (hl : l.length ≤ 64) : spigotref03_Same.f 68 l l = some true := by
  unfold spigotref03_Same.f
  rw [if_pos rfl]
  exact same03_loop l hl l.length 0 68 (by omega) (by omega)
set_option maxRecDepth 100000 in
set_option maxHeartbeats 4000000 in
theorem same12_walk (a : AskV) (A : Option Addr) (c : Nat) (B : Option Addr) (d : Nat) (w : World) (hl : a.f13.length ≤ 64) (hA : Kd.C (Kd.int .i64) w A a.f13.length a.f13) (hc : a.f13.length ≤ c) (hB : Kd.C (Kd.int .i64) w B a.f13.length a.f13) (hd : a.f13.length ≤ d) :
    Calls Tryz.prog 14 #[.agg #[.int .i64 a.f0, .string a.f1, .string a.f2, .string a.f3, .string a.f4, .int .i64 a.f5, .int .i64 a.f6, .int .i64 a.f7, .int .i64 a.f8, .int .i64 a.f9, .int .i64 a.f10, .int .i64 a.f11, .int .i64 a.f12, .slice A a.f13.length c], .agg #[.int .i64 a.f0, .string a.f1, .string a.f2, .string a.f3, .string a.f4, .int .i64 a.f5, .int .i64 a.f6, .int .i64 a.f7, .int .i64 a.f8, .int .i64 a.f9, .int .i64 a.f10, .int .i64 a.f11, .int .i64 a.f12, .slice B a.f13.length d]] w fun e w' => e = .returned (.bool true) ∧ Below w.heap.size w w' := by
  have HB0 := Aside0.mk (Below.refl w.heap.size w)
  have HS3 : Aside0 (∀ W, Below w.heap.size w W → Calls Tryz.prog 40 #[.slice A a.f13.length c, .slice B a.f13.length d] W fun e w' => e = .returned (.bool true) ∧ Below W.heap.size W w') := ⟨fun W h => (spigotref03_Same.calls 68 A c a.f13 B d a.f13 true W (Kd.C_below hA h) hc (Kd.C_below hB h) hd (same03_f _ hl)).mono fun e w' hh => ⟨hh.1, by first | exact hh.2 | exact hh.2.below⟩⟩
  clear hA hB hl hc hd
  go_enter Tryz.func14, Tryz.ntmps14
  go_wp2_with (first
    | ((with_reducible refine gate_dst (N := 2) rfl ?_); refine box_event ?hg (N := 2) ?hd (cs := #[.int .i64 a.f0, .string a.f1, .string a.f2, .string a.f3, .string a.f4, .int .i64 a.f5, .int .i64 a.f6, .int .i64 a.f7, .int .i64 a.f8, .int .i64 a.f9, .int .i64 a.f10, .int .i64 a.f11, .int .i64 a.f12, .slice A a.f13.length c]) (t := 32) ?hr ?_; (case hd => rfl); (case hg => rfl); (case hr => first | (go_simp; done) | (go_simp; rfl)); intro g1 hg w3 hbox hb; have K1 := Aside0.mk hbox; have L1 := Aside0.mk (HB0.out.trans (hb.mono HB0.out.size)); clear hb hbox hg HB0)
    | ((with_reducible refine gate_dst (N := 3) rfl ?_); refine box_event ?hg (N := 3) ?hd (cs := #[.int .i64 a.f0, .string a.f1, .string a.f2, .string a.f3, .string a.f4, .int .i64 a.f5, .int .i64 a.f6, .int .i64 a.f7, .int .i64 a.f8, .int .i64 a.f9, .int .i64 a.f10, .int .i64 a.f11, .int .i64 a.f12, .slice B a.f13.length d]) (t := 32) ?hr ?_; (case hd => rfl); (case hg => rfl); (case hr => first | (go_simp; done) | (go_simp; rfl)); intro g2 hg w4 hbox hb; have K2 := Aside0.mk hbox; have K1b := Aside0.mk (blk_below K1.out hb); have L2 := Aside0.mk (L1.out.trans (hb.mono L1.out.size)); clear hb hbox hg; have hx0 : w4.cell? ⟨g1, 0, none⟩ = some (.int .i64 a.f0) := (blk_cell K1b.out 0).trans rfl; have hx1 : w4.cell? ⟨g1, 1, none⟩ = some (.string a.f1) := (blk_cell K1b.out 1).trans rfl; have hx2 : w4.cell? ⟨g1, 2, none⟩ = some (.string a.f2) := (blk_cell K1b.out 2).trans rfl; have hx3 : w4.cell? ⟨g1, 3, none⟩ = some (.string a.f3) := (blk_cell K1b.out 3).trans rfl; have hx4 : w4.cell? ⟨g1, 4, none⟩ = some (.string a.f4) := (blk_cell K1b.out 4).trans rfl; have hx5 : w4.cell? ⟨g1, 5, none⟩ = some (.int .i64 a.f5) := (blk_cell K1b.out 5).trans rfl; have hx6 : w4.cell? ⟨g1, 6, none⟩ = some (.int .i64 a.f6) := (blk_cell K1b.out 6).trans rfl; have hx7 : w4.cell? ⟨g1, 7, none⟩ = some (.int .i64 a.f7) := (blk_cell K1b.out 7).trans rfl; have hx8 : w4.cell? ⟨g1, 8, none⟩ = some (.int .i64 a.f8) := (blk_cell K1b.out 8).trans rfl; have hx9 : w4.cell? ⟨g1, 9, none⟩ = some (.int .i64 a.f9) := (blk_cell K1b.out 9).trans rfl; have hx10 : w4.cell? ⟨g1, 10, none⟩ = some (.int .i64 a.f10) := (blk_cell K1b.out 10).trans rfl; have hx11 : w4.cell? ⟨g1, 11, none⟩ = some (.int .i64 a.f11) := (blk_cell K1b.out 11).trans rfl; have hx12 : w4.cell? ⟨g1, 12, none⟩ = some (.int .i64 a.f12) := (blk_cell K1b.out 12).trans rfl; have hx13 : w4.cell? ⟨g1, 13, none⟩ = some (.slice A a.f13.length c) := (blk_cell K1b.out 13).trans rfl; have hy0 : w4.cell? ⟨g2, 0, none⟩ = some (.int .i64 a.f0) := (blk_cell K2.out 0).trans rfl; have hy1 : w4.cell? ⟨g2, 1, none⟩ = some (.string a.f1) := (blk_cell K2.out 1).trans rfl; have hy2 : w4.cell? ⟨g2, 2, none⟩ = some (.string a.f2) := (blk_cell K2.out 2).trans rfl; have hy3 : w4.cell? ⟨g2, 3, none⟩ = some (.string a.f3) := (blk_cell K2.out 3).trans rfl; have hy4 : w4.cell? ⟨g2, 4, none⟩ = some (.string a.f4) := (blk_cell K2.out 4).trans rfl; have hy5 : w4.cell? ⟨g2, 5, none⟩ = some (.int .i64 a.f5) := (blk_cell K2.out 5).trans rfl; have hy6 : w4.cell? ⟨g2, 6, none⟩ = some (.int .i64 a.f6) := (blk_cell K2.out 6).trans rfl; have hy7 : w4.cell? ⟨g2, 7, none⟩ = some (.int .i64 a.f7) := (blk_cell K2.out 7).trans rfl; have hy8 : w4.cell? ⟨g2, 8, none⟩ = some (.int .i64 a.f8) := (blk_cell K2.out 8).trans rfl; have hy9 : w4.cell? ⟨g2, 9, none⟩ = some (.int .i64 a.f9) := (blk_cell K2.out 9).trans rfl; have hy10 : w4.cell? ⟨g2, 10, none⟩ = some (.int .i64 a.f10) := (blk_cell K2.out 10).trans rfl; have hy11 : w4.cell? ⟨g2, 11, none⟩ = some (.int .i64 a.f11) := (blk_cell K2.out 11).trans rfl; have hy12 : w4.cell? ⟨g2, 12, none⟩ = some (.int .i64 a.f12) := (blk_cell K2.out 12).trans rfl; have hy13 : w4.cell? ⟨g2, 13, none⟩ = some (.slice B a.f13.length d) := (blk_cell K2.out 13).trans rfl)
    | (go_at_call 40; ((with_reducible refine (HS3.out _ L2.out).mono ?_)); rintro e w5 ⟨rfl, hb⟩; have L3 := Aside0.mk (L2.out.trans (hb.mono L2.out.size)); clear hb))
  go_ret
  exact ⟨rfl, L3.out⟩
theorem low_cells14 {B : Nat} {w W : World} (h : Below B w W) {b : Nat} (hb : B ≤ b) {v0 v1 v2 v3 v4 v5 v6 v7 v8 v9 v10 v11 v12 v13 : Value} : Below B w ((((((((((((((W.setCell ⟨b, 0, none⟩ v0).setCell ⟨b, 1, none⟩ v1).setCell ⟨b, 2, none⟩ v2).setCell ⟨b, 3, none⟩ v3).setCell ⟨b, 4, none⟩ v4).setCell ⟨b, 5, none⟩ v5).setCell ⟨b, 6, none⟩ v6).setCell ⟨b, 7, none⟩ v7).setCell ⟨b, 8, none⟩ v8).setCell ⟨b, 9, none⟩ v9).setCell ⟨b, 10, none⟩ v10).setCell ⟨b, 11, none⟩ v11).setCell ⟨b, 12, none⟩ v12).setCell ⟨b, 13, none⟩ v13) :=
  (((((((((((((h.setCell hb _).setCell hb _).setCell hb _).setCell hb _).setCell hb _).setCell hb _).setCell hb _).setCell hb _).setCell hb _).setCell hb _).setCell hb _).setCell hb _).setCell hb _).setCell hb _
set_option maxRecDepth 100000 in
set_option maxHeartbeats 4000000 in
theorem plain_any (a : AskV) (A : Option Addr) (c : Nat) (w : World) : Calls Tryz.prog 9 #[.agg #[.int .i64 a.f0, .string a.f1, .string a.f2, .string a.f3, .string a.f4, .int .i64 a.f5, .int .i64 a.f6, .int .i64 a.f7, .int .i64 a.f8, .int .i64 a.f9, .int .i64 a.f10, .int .i64 a.f11, .int .i64 a.f12, .slice A a.f13.length c]] w fun e w' => e = .returned (.agg #[.int .i64 a.f0, .string a.f1, .string a.f2, .string a.f3, .string a.f4, .int .i64 a.f5, .int .i64 a.f6, .int .i64 a.f7, .int .i64 a.f8, .int .i64 a.f9, .int .i64 a.f10, .int .i64 a.f11, .int .i64 a.f12, .slice A a.f13.length c]) ∧ Below w.heap.size w w' := by
  have HB0 := Aside0.mk (Below.refl w.heap.size w)
  go_enter Tryz.func9, Tryz.ntmps9
  go_wp2_with (first
    | ((with_reducible refine gate_dst (N := 1) rfl ?_); refine box_event ?hg (N := 1) ?hd (cs := #[.int .i64 a.f0, .string a.f1, .string a.f2, .string a.f3, .string a.f4, .int .i64 a.f5, .int .i64 a.f6, .int .i64 a.f7, .int .i64 a.f8, .int .i64 a.f9, .int .i64 a.f10, .int .i64 a.f11, .int .i64 a.f12, .slice A a.f13.length c]) (t := 24) ?hr ?_; (case hd => rfl); (case hg => rfl); (case hr => first | (go_simp; done) | (go_simp; rfl)); intro g1 hg w3 hbox hb; have K1 := Aside0.mk hbox; have L1 := Aside0.mk (HB0.out.trans (hb.mono HB0.out.size)); clear hb hbox hg HB0)
    | ((with_reducible refine gate_dst (N := 2) rfl ?_); refine box_event ?hg (N := 2) ?hd (cs := #[.int .i64 0, .string ⟨#[]⟩, .string ⟨#[]⟩, .string ⟨#[]⟩, .string ⟨#[]⟩, .int .i64 0, .int .i64 0, .int .i64 0, .int .i64 0, .int .i64 0, .int .i64 0, .int .i64 0, .int .i64 0, .slice none 0 0]) (t := 32) ?hr ?_; (case hd => rfl); (case hg => rfl); (case hr => first | (go_simp; done) | (go_simp; rfl)); intro g2 hg w4 hbox hb; have K2 := Aside0.mk hbox; have K1b := Aside0.mk (blk_below K1.out hb); have L2 := Aside0.mk (L1.out.trans (hb.mono L1.out.size)); have G2 : Aside0 (w.heap.size ≤ g2) := ⟨by rw [hg]; exact L1.out.size⟩; have NE : g1 ≠ g2 := (by rw [hg]; exact Nat.ne_of_lt (blk_lt K1.out)); have NE' : g2 ≠ g1 := Ne.symm NE; clear hb hbox hg; have hx0 : w4.cell? ⟨g1, 0, none⟩ = some (.int .i64 a.f0) := (blk_cell K1b.out 0).trans rfl; have hx1 : w4.cell? ⟨g1, 1, none⟩ = some (.string a.f1) := (blk_cell K1b.out 1).trans rfl; have hx2 : w4.cell? ⟨g1, 2, none⟩ = some (.string a.f2) := (blk_cell K1b.out 2).trans rfl; have hx3 : w4.cell? ⟨g1, 3, none⟩ = some (.string a.f3) := (blk_cell K1b.out 3).trans rfl; have hx4 : w4.cell? ⟨g1, 4, none⟩ = some (.string a.f4) := (blk_cell K1b.out 4).trans rfl; have hx5 : w4.cell? ⟨g1, 5, none⟩ = some (.int .i64 a.f5) := (blk_cell K1b.out 5).trans rfl; have hx6 : w4.cell? ⟨g1, 6, none⟩ = some (.int .i64 a.f6) := (blk_cell K1b.out 6).trans rfl; have hx7 : w4.cell? ⟨g1, 7, none⟩ = some (.int .i64 a.f7) := (blk_cell K1b.out 7).trans rfl; have hx8 : w4.cell? ⟨g1, 8, none⟩ = some (.int .i64 a.f8) := (blk_cell K1b.out 8).trans rfl; have hx9 : w4.cell? ⟨g1, 9, none⟩ = some (.int .i64 a.f9) := (blk_cell K1b.out 9).trans rfl; have hx10 : w4.cell? ⟨g1, 10, none⟩ = some (.int .i64 a.f10) := (blk_cell K1b.out 10).trans rfl; have hx11 : w4.cell? ⟨g1, 11, none⟩ = some (.int .i64 a.f11) := (blk_cell K1b.out 11).trans rfl; have hx12 : w4.cell? ⟨g1, 12, none⟩ = some (.int .i64 a.f12) := (blk_cell K1b.out 12).trans rfl; have hx13 : w4.cell? ⟨g1, 13, none⟩ = some (.slice A a.f13.length c) := (blk_cell K1b.out 13).trans rfl; have hy0 : w4.cell? ⟨g2, 0, none⟩ = some (.int .i64 0) := (blk_cell K2.out 0).trans rfl; have hyz0 := blk_frozen K2.out 0; have hy1 : w4.cell? ⟨g2, 1, none⟩ = some (.string ⟨#[]⟩) := (blk_cell K2.out 1).trans rfl; have hyz1 := blk_frozen K2.out 1; have hy2 : w4.cell? ⟨g2, 2, none⟩ = some (.string ⟨#[]⟩) := (blk_cell K2.out 2).trans rfl; have hyz2 := blk_frozen K2.out 2; have hy3 : w4.cell? ⟨g2, 3, none⟩ = some (.string ⟨#[]⟩) := (blk_cell K2.out 3).trans rfl; have hyz3 := blk_frozen K2.out 3; have hy4 : w4.cell? ⟨g2, 4, none⟩ = some (.string ⟨#[]⟩) := (blk_cell K2.out 4).trans rfl; have hyz4 := blk_frozen K2.out 4; have hy5 : w4.cell? ⟨g2, 5, none⟩ = some (.int .i64 0) := (blk_cell K2.out 5).trans rfl; have hyz5 := blk_frozen K2.out 5; have hy6 : w4.cell? ⟨g2, 6, none⟩ = some (.int .i64 0) := (blk_cell K2.out 6).trans rfl; have hyz6 := blk_frozen K2.out 6; have hy7 : w4.cell? ⟨g2, 7, none⟩ = some (.int .i64 0) := (blk_cell K2.out 7).trans rfl; have hyz7 := blk_frozen K2.out 7; have hy8 : w4.cell? ⟨g2, 8, none⟩ = some (.int .i64 0) := (blk_cell K2.out 8).trans rfl; have hyz8 := blk_frozen K2.out 8; have hy9 : w4.cell? ⟨g2, 9, none⟩ = some (.int .i64 0) := (blk_cell K2.out 9).trans rfl; have hyz9 := blk_frozen K2.out 9; have hy10 : w4.cell? ⟨g2, 10, none⟩ = some (.int .i64 0) := (blk_cell K2.out 10).trans rfl; have hyz10 := blk_frozen K2.out 10; have hy11 : w4.cell? ⟨g2, 11, none⟩ = some (.int .i64 0) := (blk_cell K2.out 11).trans rfl; have hyz11 := blk_frozen K2.out 11; have hy12 : w4.cell? ⟨g2, 12, none⟩ = some (.int .i64 0) := (blk_cell K2.out 12).trans rfl; have hyz12 := blk_frozen K2.out 12; have hy13 : w4.cell? ⟨g2, 13, none⟩ = some (.slice none 0 0) := (blk_cell K2.out 13).trans rfl; have hyz13 := blk_frozen K2.out 13))
  refine bodyPost_ret (results_cell_row rfl _ _ g2 32 #[.int .i64 a.f0, .string a.f1, .string a.f2, .string a.f3, .string a.f4, .int .i64 a.f5, .int .i64 a.f6, .int .i64 a.f7, .int .i64 a.f8, .int .i64 a.f9, .int .i64 a.f10, .int .i64 a.f11, .int .i64 a.f12, .slice A a.f13.length c] (0, 0) _ rfl (blk_fill14 K2.out _ _ _ _ _ _ _ _ _ _ _ _ _ _) Tryz.underlying32 rfl (by kernel_rfl)) rfl ?_
  exact ⟨rfl, low_cells14 L2.out G2.out⟩
def TrueW (w : World) (e : Ending) (w' : World) : Prop := e = .returned (.bool true) ∧ Below w.heap.size w w'
end Go.Proofs.YtgfigkfcmkdjdaaGreatDoor.B
end
section
namespace Go.Proofs.YtgfigkfcmkdjdaaGreatDoor.B
open Go.RowKit Go.Proofs.YtgfigkfcmkdjdaaGreatDoorW.PrintWords Go.Proofs.YtgfigkfcmkdjdaaGreatDoorW.PrintLast Go.Proofs.YtgfigkfcmkdjdaaGreatDoorW.PrintMore
attribute [local go_sem] max2_int min2_int max_two min_two max_three min_three max_four min_four   -- for this text's walks alone
set_option linter.unusedVariables false
set_option linter.unusedSimpArgs false
theorem takeInts_len (s : ByteArray) (h : (takeInts s 64 0 1048576).2 = 0) : (takeInts s 64 0 1048576).1.length ≤ 64 := by
  unfold takeInts at h ⊢
  split
  · exact Nat.zero_le _
  · rename_i c
    rw [if_neg c] at h
    split
    · exact Nat.zero_le _
    · rename_i c2
      rw [if_neg c2] at h
      have : ¬ (64 : Int) < ((numsP (splitC 44 s.data.toList) []).1.length : Int) := fun g => c ⟨h, g⟩
      omega
theorem askL_ints_len (F : FormS) (t : Int) : (askL (fun s => takeInts s 64 0 1048576) [] F t).1.length ≤ 64 := by
  unfold askL
  split
  · exact Nat.zero_le _
  · split
    · exact Nat.zero_le _
    · split
      · rename_i c; exact takeInts_len _ c
      · exact Nat.zero_le _
theorem alg_len (al : Int) (G : FormS) : ((asksT (algSch al) G).1.headD (.l [])).nums.length ≤ 64 := by
  unfold algSch
  split
  · exact askL_ints_len G 5006
  split
  · exact Nat.zero_le _
  split
  · exact Nat.zero_le _
  · exact Nat.zero_le _
theorem askNewOf_len (l x : List ValT) (h : (x.headD (.l [])).nums.length ≤ 64) : (askNewOf l x).f13.length ≤ 64 := by
  unfold askNewOf
  split
  · show (if _ = 2 then (x.headD (.l [])).nums else []).length ≤ 64
    split
    · exact h
    · exact Nat.zero_le _
  · exact Nat.zero_le _
theorem takeA_len (k : Int) (F : FormS) : (takeA k F).1.f13.length ≤ 64 := by
  unfold takeA
  split
  · exact askNewOf_len _ _ (alg_len _ _)
  split
  · show (askAmendOf k (asksT askAmend F).1).f13.length ≤ 64
    unfold askAmendOf
    split <;> exact Nat.zero_le _
  · show (askBareOf k (asksT askBare F).1).f13.length ≤ 64
    unfold askBareOf
    split <;> exact Nat.zero_le _
theorem askD_len (s : ByteArray) : (askD s).1.f13.length ≤ 64 := by
  unfold askD
  split
  · exact Nat.zero_le _
  · split
    · exact Nat.zero_le _
    split
    · exact Nat.zero_le _
    split
    · exact Nat.zero_le _
    · exact takeA_len _ _
set_option maxRecDepth 100000 in
set_option maxHeartbeats 8000000 in
theorem askDecodes_walk (s : ByteArray) (w : World) (hT_ : Aside0 (Tabs_ w)) (hs : s.size ≤ 140737488351232) : Calls Tryz.prog 4 #[.string s] w (TrueW w) := by
  have HTb : Aside0 (∀ W, Below w.heap.size w W → Aside0 (Tabs_ W)) := ⟨fun W h => ⟨hT_.out.below h⟩⟩
  have HL0 := Aside0.mk (Below.refl w.heap.size w)
  have HAw : Aside0 (∀ W, Below w.heap.size w W → Calls Tryz.prog 5 #[] W fun e w' => e = .returned (.bool true) ∧ Below W.heap.size W w') := ⟨fun W h => spigotlaw12_awake.calls true W (HTb.out W h) rfl⟩
  have HDe : Aside0 (∀ W, Below w.heap.size w W → Calls Tryz.prog 12 #[.string s] W (AskIs (askD s) W)) := ⟨fun W h => ask_Decode_walk s W (HTb.out W h) hs⟩
  have HDr : Aside0 (∀ W, Calls Tryz.prog 13 #[.string s] W (AskIs (askD s) W)) := ⟨fun W => ref12_Decode_walk s W hs⟩
  have hz := askD_len s
  generalize askD s = r at *
  obtain ⟨v, t, e⟩ := r
  simp only at hz
  have HZ := Aside0.mk hz
  by_cases c5 : 5000 < s.size
  · have t1 : decide ((5000 : Int) < (s.size : Int)) = true := by rw [decide_eq_true_eq]; omega
    have t2 : decide (5000 < s.size) = true := decide_eq_true c5
    clear c5 hs hz
    go_enter Tryz.func4, Tryz.ntmps4
    go_wp2_with (go_at_call 5; ((with_reducible refine (HAw.out _ HL0.out).mono ?_)); rintro en w1 ⟨rfl, hb⟩)
    go_ret
    exact ⟨rfl, hb⟩
  have t1 : decide ((5000 : Int) < (s.size : Int)) = false := by rw [decide_eq_false_iff_not]; omega
  have t2 : decide (5000 < s.size) = false := decide_eq_false c5
  clear c5 hs hz
  go_enter Tryz.func4, Tryz.ntmps4
  go_wp2_with (first
    | (go_at_call 5; ((with_reducible refine (HAw.out _ HL0.out).mono ?_)); rintro en w1 ⟨rfl, hb⟩; have HL1 := Aside0.mk (HL0.out.trans (hb.mono HL0.out.size)); clear hb HAw)
    | (go_at_call 12; ((with_reducible refine (HDe.out _ HL1.out).mono ?_)); rintro en w2 ⟨v_, rfl, hR, hb⟩; obtain ⟨A, c, rfl, hd, hC⟩ := Kd.R_reads hR; have hal : Below w2.heap.size w2 (w2.alloc (.cells #[.int .i64 v.f0, .string v.f1, .string v.f2, .string v.f3, .string v.f4, .int .i64 v.f5, .int .i64 v.f6, .int .i64 v.f7, .int .i64 v.f8, .int .i64 v.f9, .int .i64 v.f10, .int .i64 v.f11, .int .i64 v.f12, .slice A v.f13.length c] 24)) := (Below.refl _ _).alloc (Nat.le_refl _) _; have HCa := Aside0.mk hC; have HDa := Aside0.mk hd; have HL2 := Aside0.mk ((HL1.out.trans (hb.mono HL1.out.size)).trans (hal.mono (HL1.out.trans (hb.mono HL1.out.size)).size)); have HN2 := Aside0.mk hal; have HX2 := Aside0.mk (blk_new w2 (.cells #[.int .i64 v.f0, .string v.f1, .string v.f2, .string v.f3, .string v.f4, .int .i64 v.f5, .int .i64 v.f6, .int .i64 v.f7, .int .i64 v.f8, .int .i64 v.f9, .int .i64 v.f10, .int .i64 v.f11, .int .i64 v.f12, .slice A v.f13.length c] 24)); clear hb hR hC hd hal HDe)
    | (go_at_call 13; ((with_reducible refine (HDr.out _).mono ?_)); rintro en w5 ⟨v2_, rfl, hR, hb⟩; obtain ⟨B, d, rfl, hd, hC⟩ := Kd.R_reads hR; have HL5 := Aside0.mk (HL2.out.trans (hb.mono HL2.out.size)); have HN5 := Aside0.mk (HN2.out.trans (hb.mono HN2.out.size)); have HX5 := Aside0.mk (blk_below HX2.out hb); have HCb := Aside0.mk hC; have HD5 := Aside0.mk hd; clear hb hR hC hd HDr))
  have hal : Below w5.heap.size w5 (w5.alloc (.cells #[.int .i64 v.f0, .string v.f1, .string v.f2, .string v.f3, .string v.f4, .int .i64 v.f5, .int .i64 v.f6, .int .i64 v.f7, .int .i64 v.f8, .int .i64 v.f9, .int .i64 v.f10, .int .i64 v.f11, .int .i64 v.f12, .slice B v.f13.length d] 32)) := (Below.refl _ _).alloc (Nat.le_refl _) _
  have HXa := Aside0.mk (blk_below HX5.out hal)
  have HXb := Aside0.mk (blk_new w5 (.cells #[.int .i64 v.f0, .string v.f1, .string v.f2, .string v.f3, .string v.f4, .int .i64 v.f5, .int .i64 v.f6, .int .i64 v.f7, .int .i64 v.f8, .int .i64 v.f9, .int .i64 v.f10, .int .i64 v.f11, .int .i64 v.f12, .slice B v.f13.length d] 32))
  have HL7 : Aside0 (Below w.heap.size w (w5.alloc (.cells #[.int .i64 v.f0, .string v.f1, .string v.f2, .string v.f3, .string v.f4, .int .i64 v.f5, .int .i64 v.f6, .int .i64 v.f7, .int .i64 v.f8, .int .i64 v.f9, .int .i64 v.f10, .int .i64 v.f11, .int .i64 v.f12, .slice B v.f13.length d] 32)).drew) := ⟨(HL5.out.trans (hal.mono HL5.out.size)).drew⟩
  have HM7 : Aside0 (Below w5.heap.size w5 (w5.alloc (.cells #[.int .i64 v.f0, .string v.f1, .string v.f2, .string v.f3, .string v.f4, .int .i64 v.f5, .int .i64 v.f6, .int .i64 v.f7, .int .i64 v.f8, .int .i64 v.f9, .int .i64 v.f10, .int .i64 v.f11, .int .i64 v.f12, .slice B v.f13.length d] 32)).drew) := ⟨hal.drew⟩
  have HN7 : Aside0 (Below w2.heap.size w2 (w5.alloc (.cells #[.int .i64 v.f0, .string v.f1, .string v.f2, .string v.f3, .string v.f4, .int .i64 v.f5, .int .i64 v.f6, .int .i64 v.f7, .int .i64 v.f8, .int .i64 v.f9, .int .i64 v.f10, .int .i64 v.f11, .int .i64 v.f12, .slice B v.f13.length d] 32)).drew) := ⟨(HN5.out.trans (hal.mono HN5.out.size)).drew⟩
  have u1 : (t == t) = true := beq_self_eq_true t
  have u2 : (e == e) = true := beq_self_eq_true e
  clear hal
  refine start_ (n := 15) (S := fun w' => (∀ i, w'.cell? ⟨w2.heap.size, i, none⟩ = (#[.int .i64 v.f0, .string v.f1, .string v.f2, .string v.f3, .string v.f4, .int .i64 v.f5, .int .i64 v.f6, .int .i64 v.f7, .int .i64 v.f8, .int .i64 v.f9, .int .i64 v.f10, .int .i64 v.f11, .int .i64 v.f12, .slice A v.f13.length c] : Array Value)[i]?) ∧ (∀ i, w'.cell? ⟨w5.heap.size, i, none⟩ = (#[.int .i64 v.f0, .string v.f1, .string v.f2, .string v.f3, .string v.f4, .int .i64 v.f5, .int .i64 v.f6, .int .i64 v.f7, .int .i64 v.f8, .int .i64 v.f9, .int .i64 v.f10, .int .i64 v.f11, .int .i64 v.f12, .slice B v.f13.length d] : Array Value)[i]?) ∧ (w2.heap.size < w'.heap.size) ∧ (w5.heap.size < w'.heap.size)) (ds := []) #[false, false, false, false, false, false, false, false, false, false, false, false, false, false, false] (by kernel_rfl) rfl rfl ⟨(fun i => blk_cell HXa.out i), (fun i => blk_cell HXb.out i), blk_lt HXa.out, blk_lt HXb.out⟩ (fun hHeld => ?_)
  refine take_ (i := 0) (N := some 26) (v := ?_) (a' := ?_) #[true, false, false, false, false, false, false, false, false, false, false, false, false, false, false] rfl rfl (by kernel_rfl) (fun _ _ _ h => h) (Or.inl ⟨by rfl, ?_⟩) hHeld ?_ ?_
  rotate_left
  · rintro w' ⟨s0, s1, s2, s3⟩
    go_simp
    with_reducible rfl
  rotate_left
  · simp only [Act.put, List.setIfInBounds_toArray, List.set_cons_zero, List.set_cons_succ, i64_w, i32_w]
    rfl
  refine take_ (i := 2) (N := some 28) (v := ?_) (a' := ?_) #[true, false, true, false, false, false, false, false, false, false, false, false, false, false, false] rfl rfl (by kernel_rfl) (fun _ _ _ h => h) (Or.inl ⟨by rfl, ?_⟩) hHeld ?_ ?_
  rotate_left
  · rintro w' ⟨s0, s1, s2, s3⟩
    go_simp
    with_reducible rfl
  rotate_left
  · simp only [Act.put, List.setIfInBounds_toArray, List.set_cons_zero, List.set_cons_succ, i64_w, i32_w]
    rfl
  refine one_ (i := 1) (N := some 27) #[true, true, true, false, false, false, false, false, false, false, false, false, false, false, false] rfl rfl (by kernel_rfl) (by decide) (fun K hK => ?_)
  refine goes_ Tryz.func9 (by kernel_rfl) rfl #[.agg #[.int .i64 v.f0, .string v.f1, .string v.f2, .string v.f3, .string v.f4, .int .i64 v.f5, .int .i64 v.f6, .int .i64 v.f7, .int .i64 v.f8, .int .i64 v.f9, .int .i64 v.f10, .int .i64 v.f11, .int .i64 v.f12, .slice A v.f13.length c]] (by rfl) rfl rfl (by simp only [List.map_toArray, List.map_cons, List.map_nil]; rfl) ?_
  with_reducible refine (plain_any v A c _).mono ?_
  rintro e8 w8 ⟨rfl, hb8⟩
  refine ⟨_, rfl, ?_⟩
  have HL8 := Aside0.mk (HL7.out.trans (hb8.mono HL7.out.size))
  have HM8 := Aside0.mk (HM7.out.trans (hb8.mono HM7.out.size))
  have HN8 := Aside0.mk (HN7.out.trans (hb8.mono HN7.out.size))
  refine hK.out _ _ ⟨(fun i => (hb8.cell (p := ⟨w2.heap.size, i, none⟩) hHeld.2.2.1).trans (hHeld.1 i)), (fun i => (hb8.cell (p := ⟨w5.heap.size, i, none⟩) hHeld.2.2.2).trans (hHeld.2.1 i)), (Nat.lt_of_lt_of_le hHeld.2.2.1 hb8.size), (Nat.lt_of_lt_of_le hHeld.2.2.2 hb8.size)⟩ (fun hHeld => ?_)
  clear hK K
  refine norm_ (a' := ?_) ?_ ?_
  rotate_left
  · show Act.put _ (some 27) _ = _
    simp only [Act.put, List.setIfInBounds_toArray, List.set_cons_zero, List.set_cons_succ, i64_w, i32_w]
    rfl
  refine one_ (i := 3) (N := some 29) #[true, true, true, true, false, false, false, false, false, false, false, false, false, false, false] rfl rfl (by kernel_rfl) (by decide) (fun K hK => ?_)
  refine goes_ Tryz.func14 (by kernel_rfl) rfl #[.agg #[.int .i64 v.f0, .string v.f1, .string v.f2, .string v.f3, .string v.f4, .int .i64 v.f5, .int .i64 v.f6, .int .i64 v.f7, .int .i64 v.f8, .int .i64 v.f9, .int .i64 v.f10, .int .i64 v.f11, .int .i64 v.f12, .slice A v.f13.length c], .agg #[.int .i64 v.f0, .string v.f1, .string v.f2, .string v.f3, .string v.f4, .int .i64 v.f5, .int .i64 v.f6, .int .i64 v.f7, .int .i64 v.f8, .int .i64 v.f9, .int .i64 v.f10, .int .i64 v.f11, .int .i64 v.f12, .slice B v.f13.length d]] (by rfl) rfl rfl (by simp only [List.map_toArray, List.map_cons, List.map_nil]; rfl) ?_
  with_reducible refine (same12_walk v A c B d _ HZ.out (Kd.C_below HCa.out HN8.out) HDa.out (Kd.C_below HCb.out HM8.out) HD5.out).mono ?_
  rintro e9 w9 ⟨rfl, hb9⟩
  refine ⟨_, rfl, ?_⟩
  have HL9 := Aside0.mk (HL8.out.trans (hb9.mono HL8.out.size))
  have HM9 := Aside0.mk (HM8.out.trans (hb9.mono HM8.out.size))
  have HN9 := Aside0.mk (HN8.out.trans (hb9.mono HN8.out.size))
  refine hK.out _ _ ⟨(fun i => (hb9.cell (p := ⟨w2.heap.size, i, none⟩) hHeld.2.2.1).trans (hHeld.1 i)), (fun i => (hb9.cell (p := ⟨w5.heap.size, i, none⟩) hHeld.2.2.2).trans (hHeld.2.1 i)), (Nat.lt_of_lt_of_le hHeld.2.2.1 hb9.size), (Nat.lt_of_lt_of_le hHeld.2.2.2 hb9.size)⟩ (fun hHeld => ?_)
  clear hK K
  refine norm_ (a' := ?_) ?_ ?_
  rotate_left
  · show Act.put _ (some 29) _ = _
    simp only [Act.put, List.setIfInBounds_toArray, List.set_cons_zero, List.set_cons_succ, i64_w, i32_w]
    rfl
  refine pure_ (i := 4) (N := some 30) (v := ?_) (a' := ?_) #[true, true, true, true, true, false, false, false, false, false, false, false, false, false, false] rfl rfl (by kernel_rfl) (fun _ _ _ h => h) (Or.inl ⟨by rfl, ?_⟩) ?_ ?_
  rotate_left
  · intro w'
    go_simp
    with_reducible rfl
  rotate_left
  · simp only [Act.put, List.setIfInBounds_toArray, List.set_cons_zero, List.set_cons_succ, i64_w, i32_w]
    rfl
  refine pure_ (i := 5) (N := some 31) (v := ?_) (a' := ?_) #[true, true, true, true, true, true, false, false, false, false, false, false, false, false, false] rfl rfl (by kernel_rfl) (fun _ _ _ h => h) (Or.inl ⟨by rfl, ?_⟩) ?_ ?_
  rotate_left
  · intro w'
    go_simp
    with_reducible rfl
  rotate_left
  · simp only [Act.put, List.setIfInBounds_toArray, List.set_cons_zero, List.set_cons_succ, i64_w, i32_w]
    rfl
  refine pure_ (i := 6) (N := some 32) (v := ?_) (a' := ?_) #[true, true, true, true, true, true, true, false, false, false, false, false, false, false, false] rfl rfl (by kernel_rfl) (fun _ _ _ h => h) (Or.inl ⟨by rfl, ?_⟩) ?_ ?_
  rotate_left
  · intro w'
    go_simp
    with_reducible rfl
  rotate_left
  · simp only [Act.put, List.setIfInBounds_toArray, List.set_cons_zero, List.set_cons_succ, i64_w, i32_w]
    rfl
  refine pure_ (i := 7) (N := some 33) (v := ?_) (a' := ?_) #[true, true, true, true, true, true, true, true, false, false, false, false, false, false, false] rfl rfl (by kernel_rfl) (fun _ _ _ h => h) (Or.inl ⟨by rfl, ?_⟩) ?_ ?_
  rotate_left
  · intro w'
    go_simp
    with_reducible rfl
  rotate_left
  · simp only [Act.put, List.setIfInBounds_toArray, List.set_cons_zero, List.set_cons_succ, i64_w, i32_w]
    rfl
  refine pure_ (i := 8) (N := some 34) (v := ?_) (a' := ?_) #[true, true, true, true, true, true, true, true, true, false, false, false, false, false, false] rfl rfl (by kernel_rfl) (fun _ _ _ h => h) (Or.inl ⟨by rfl, ?_⟩) ?_ ?_
  rotate_left
  · intro w'
    go_simp
    with_reducible rfl
  rotate_left
  · simp only [Act.put, List.setIfInBounds_toArray, List.set_cons_zero, List.set_cons_succ, i64_w, i32_w]
    rfl
  refine pure_ (i := 9) (N := some 35) (v := ?_) (a' := ?_) #[true, true, true, true, true, true, true, true, true, true, false, false, false, false, false] rfl rfl (by kernel_rfl) (fun _ _ _ h => h) (Or.inl ⟨by rfl, ?_⟩) ?_ ?_
  rotate_left
  · intro w'
    go_simp
    with_reducible rfl
  rotate_left
  · simp only [Act.put, List.setIfInBounds_toArray, List.set_cons_zero, List.set_cons_succ, i64_w, i32_w]
    rfl
  refine pure_ (i := 10) (N := some 36) (v := ?_) (a' := ?_) #[true, true, true, true, true, true, true, true, true, true, true, false, false, false, false] rfl rfl (by kernel_rfl) (fun _ _ _ h => h) (Or.inl ⟨by rfl, ?_⟩) ?_ ?_
  rotate_left
  · intro w'
    go_simp
    with_reducible rfl
  rotate_left
  · simp only [Act.put, List.setIfInBounds_toArray, List.set_cons_zero, List.set_cons_succ, i64_w, i32_w]
    rfl
  refine pure_ (i := 11) (N := some 37) (v := ?_) (a' := ?_) #[true, true, true, true, true, true, true, true, true, true, true, true, false, false, false] rfl rfl (by kernel_rfl) (fun _ _ _ h => h) (Or.inl ⟨by rfl, ?_⟩) ?_ ?_
  rotate_left
  · intro w'
    go_simp
    with_reducible rfl
  rotate_left
  · simp only [Act.put, List.setIfInBounds_toArray, List.set_cons_zero, List.set_cons_succ, i64_w, i32_w]
    rfl
  refine pure_ (i := 12) (N := some 38) (v := ?_) (a' := ?_) #[true, true, true, true, true, true, true, true, true, true, true, true, true, false, false] rfl rfl (by kernel_rfl) (fun _ _ _ h => h) (Or.inl ⟨by rfl, ?_⟩) ?_ ?_
  rotate_left
  · intro w'
    go_simp
    with_reducible rfl
  rotate_left
  · simp only [Act.put, List.setIfInBounds_toArray, List.set_cons_zero, List.set_cons_succ, i64_w, i32_w]
    rfl
  refine pure_ (i := 13) (N := some 39) (v := ?_) (a' := ?_) #[true, true, true, true, true, true, true, true, true, true, true, true, true, true, false] rfl rfl (by kernel_rfl) (fun _ _ _ h => h) (Or.inl ⟨by rfl, ?_⟩) ?_ ?_
  rotate_left
  · intro w'
    go_simp
    with_reducible rfl
  rotate_left
  · simp only [Act.put, List.setIfInBounds_toArray, List.set_cons_zero, List.set_cons_succ, i64_w, i32_w]
    rfl
  refine pure_ (i := 14) (N := some 2) (v := ?_) (a' := ?_) #[true, true, true, true, true, true, true, true, true, true, true, true, true, true, true] rfl rfl (by kernel_rfl) (fun _ _ _ h => h) (Or.inl ⟨by rfl, ?_⟩) ?_ ?_
  rotate_left
  · intro w'
    go_simp
    with_reducible rfl
  rotate_left
  · simp only [Act.put, List.setIfInBounds_toArray, List.set_cons_zero, List.set_cons_succ, i64_w, i32_w]
    rfl
  refine done_ (by kernel_rfl) ?_
  go_wp2
  go_ret
  exact ⟨rfl, HL9.out⟩
def spigotlaw12_AskDecodes.f (a0 : ByteArray) : Option Bool := if a0.size ≤ 140737488351232 then some true else none
theorem spigotlaw12_AskDecodes.calls (a0 : ByteArray) (r : Bool) (w : World) (hT_ : Aside0 (Tabs_ w)) (h : spigotlaw12_AskDecodes.f a0 = some r) : Calls Tryz.prog 4 #[.string a0] w fun e w' => e = .returned (.bool r) ∧ Below w.heap.size w w' := by
  unfold spigotlaw12_AskDecodes.f at h
  by_cases c : a0.size ≤ 140737488351232
  · rw [if_pos c] at h
    obtain rfl := Option.some.inj h
    exact askDecodes_walk a0 w hT_ c
  · rw [if_neg c] at h; cases h
end Go.Proofs.YtgfigkfcmkdjdaaGreatDoor.B
end
