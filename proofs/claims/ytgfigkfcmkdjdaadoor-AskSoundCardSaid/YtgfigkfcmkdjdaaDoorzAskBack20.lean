/- The functions that the law reaches, as plain Lean functions, and their contracts: texts merged. -/
import Derived.Laws.StructEq
import Derived.Test.YtgfigkfcmkdjdaaDoorzAskBack2
import Derived.Test.YtgfigkfcmkdjdaaDoorzAskBack0
import Derived.Test.YtgfigkfcmkdjdaaDoorzAskBack1
import Derived.Test.YtgfigkfcmkdjdaaDoorzAskBack3
import Derived.Test.YtgfigkfcmkdjdaaDoorzAskBack4
import Derived.Test.YtgfigkfcmkdjdaaDoorzAskBack5
import Derived.Test.YtgfigkfcmkdjdaaDoorzAskBack8
import Derived.Test.YtgfigkfcmkdjdaaDoorzAskBack9
import Derived.Test.YtgfigkfcmkdjdaaDoorzAskBack10
import Derived.Test.YtgfigkfcmkdjdaaDoorzAskBack11
import Derived.Test.YtgfigkfcmkdjdaaDoorzAskBack12
import Derived.Test.YtgfigkfcmkdjdaaDoorzAskBack13
import Derived.Test.YtgfigkfcmkdjdaaDoorzAskBack14
import Derived.Test.YtgfigkfcmkdjdaaDoorzAskBack15
import Derived.Test.YtgfigkfcmkdjdaaDoorzAskBack16
import Derived.Test.YtgfigkfcmkdjdaaDoorzAskBack17
import Derived.Test.YtgfigkfcmkdjdaaDoorzAskBack18
section
namespace Go.Proofs.YtgfigkfcmkdjdaaDoor.B
open Go.RowKit Go.Proofs.YtgfigkfcmkdjdaaDoorW.PrintWords Go.Proofs.YtgfigkfcmkdjdaaDoorW.PrintLast Go.Proofs.YtgfigkfcmkdjdaaDoorW.PrintMore
attribute [local go_sem] max2_int min2_int max_two min_two max_three min_three max_four min_four   -- for this text's walks alone
set_option linter.unusedVariables false
set_option linter.unusedSimpArgs false
def spigotlaw12_few.f (a0_0 : Int) (a0_1 : ByteArray) (a0_2 : ByteArray) (a0_3 : ByteArray) (a0_4 : ByteArray) (a0_5 : Int) (a0_6 : Int) (a0_7 : Int) (a0_8 : Int) (a0_9 : Int) (a0_10 : Int) (a0_11 : Int) (a0_12 : Int) (l0_13 : List Int) : Option (Bool) := if (a0_1.size : Int) ≤ 200 then (if (a0_2.size : Int) ≤ 200 then (if (a0_3.size : Int) ≤ 200 then (if (a0_4.size : Int) ≤ 200 then (some (decide ((l0_13.length : Int) ≤ 100))) else (some false)) else (some false)) else (some false)) else (some false)
set_option maxHeartbeats 8000000 in
set_option maxRecDepth 100000 in
theorem spigotlaw12_few.calls (a0_0 : Int) (a0_1 : ByteArray) (a0_2 : ByteArray) (a0_3 : ByteArray) (a0_4 : ByteArray) (a0_5 : Int) (a0_6 : Int) (a0_7 : Int) (a0_8 : Int) (a0_9 : Int) (a0_10 : Int) (a0_11 : Int) (a0_12 : Int) (A0_13 : Option Addr) (c0_13 : Nat) (l0_13 : List Int) (r : Bool) (w : World) (hr0_13 : Kd.C (Kd.int .i64) w A0_13 l0_13.length l0_13) (hc0_13 : l0_13.length ≤ c0_13) (h : spigotlaw12_few.f a0_0 a0_1 a0_2 a0_3 a0_4 a0_5 a0_6 a0_7 a0_8 a0_9 a0_10 a0_11 a0_12 l0_13 = some r) :
    Calls Tryd.prog 39 #[.agg #[.int .i64 a0_0, .string a0_1, .string a0_2, .string a0_3, .string a0_4, .int .i64 a0_5, .int .i64 a0_6, .int .i64 a0_7, .int .i64 a0_8, .int .i64 a0_9, .int .i64 a0_10, .int .i64 a0_11, .int .i64 a0_12, .slice A0_13 l0_13.length c0_13]] w fun e w' => e = .returned (.bool r) ∧ Below w.heap.size w w' := by
  have hu68 := Tryd.underlying68
  have HR0_13 := Aside0.mk hr0_13
  have HC0_13 := Aside0.mk hc0_13
  clear hr0_13 hc0_13
  have HB := Aside0.mk (Below.refl w.heap.size w)
  have H : (if (a0_1.size : Int) ≤ 200 then (if (a0_2.size : Int) ≤ 200 then (if (a0_3.size : Int) ≤ 200 then (if (a0_4.size : Int) ≤ 200 then (some (decide ((l0_13.length : Int) ≤ 100))) else (some false)) else (some false)) else (some false)) else (some false)) = some r := h
  clear h
  by_cases c2 : (a0_1.size : Int) ≤ 200
  · rw [if_pos c2] at H
    have c2b0 : decide ((a0_1.size : Int) ≤ 200) = true := decide_eq_true c2
    have c2b1 : decide (a0_1.size ≤ 200) = true := decide_eq_true (by omega)
    clear c2
    by_cases c3 : (a0_2.size : Int) ≤ 200
    · rw [if_pos c3] at H
      have c3b0 : decide ((a0_2.size : Int) ≤ 200) = true := decide_eq_true c3
      have c3b1 : decide (a0_2.size ≤ 200) = true := decide_eq_true (by omega)
      clear c3
      by_cases c4 : (a0_3.size : Int) ≤ 200
      · rw [if_pos c4] at H
        have c4b0 : decide ((a0_3.size : Int) ≤ 200) = true := decide_eq_true c4
        have c4b1 : decide (a0_3.size ≤ 200) = true := decide_eq_true (by omega)
        clear c4
        by_cases c5 : (a0_4.size : Int) ≤ 200
        · rw [if_pos c5] at H
          have c5b0 : decide ((a0_4.size : Int) ≤ 200) = true := decide_eq_true c5
          have c5b1 : decide (a0_4.size ≤ 200) = true := decide_eq_true (by omega)
          clear c5
          obtain rfl := Option.some.inj H
          go_enter Tryd.func39, Tryd.ntmps39
          go_wp2_with (first | ((with_reducible refine gate_dst (N := 1) rfl ?_); (try (refine gate_guard (by rfl) ?_; dsimp only)); refine box_event ?hg (N := 1) ?hd (cs := #[.int .i64 a0_0, .string a0_1, .string a0_2, .string a0_3, .string a0_4, .int .i64 a0_5, .int .i64 a0_6, .int .i64 a0_7, .int .i64 a0_8, .int .i64 a0_9, .int .i64 a0_10, .int .i64 a0_11, .int .i64 a0_12, .slice A0_13 l0_13.length c0_13]) (t := 68) ?hr ?_; (case hd => rfl); (case hg => rfl); (case hr => first | (go_simp; done) | (go_simp; rfl)); intro gb190 hg w6 hbox hb; have n0_ := Aside0.mk (below_step (by repeat (first | (with_reducible first | exact HB.out | apply below_alloc | apply pw_below_drewN | apply below_drew1) | exact HB.out)) hb); have n1_ := Aside0.mk (hbox); have n2_ := Aside0.mk ((by rw [hg]; exact (below_size (by repeat (first | (with_reducible first | exact HB.out | apply below_alloc | apply pw_below_drewN | apply below_drew1) | exact HB.out))) : w.heap.size ≤ gb190)); have n3_ := Aside0.mk ((by rw [hg]; exact (below_size (by repeat (first | (with_reducible first | exact HB.out | apply below_alloc | apply pw_below_drewN | apply below_drew1) | exact HB.out))) : w.heap.size ≤ gb190)); clear HB; have HB := n0_; have BK190 := n1_; have GW190 := n2_; have GE190 := n3_; clear n0_ n1_ n2_ n3_; clear hb hbox hg; have hcz7_0 : w6.cell? ⟨gb190, 0, none⟩ = some (.int .i64 a0_0) := (blk_cell BK190.out 0).trans rfl; have hcz7_1 : w6.cell? ⟨gb190, 1, none⟩ = some (.string a0_1) := (blk_cell BK190.out 1).trans rfl; have hcz7_2 : w6.cell? ⟨gb190, 2, none⟩ = some (.string a0_2) := (blk_cell BK190.out 2).trans rfl; have hcz7_3 : w6.cell? ⟨gb190, 3, none⟩ = some (.string a0_3) := (blk_cell BK190.out 3).trans rfl; have hcz7_4 : w6.cell? ⟨gb190, 4, none⟩ = some (.string a0_4) := (blk_cell BK190.out 4).trans rfl; have hcz7_5 : w6.cell? ⟨gb190, 5, none⟩ = some (.int .i64 a0_5) := (blk_cell BK190.out 5).trans rfl; have hcz7_6 : w6.cell? ⟨gb190, 6, none⟩ = some (.int .i64 a0_6) := (blk_cell BK190.out 6).trans rfl; have hcz7_7 : w6.cell? ⟨gb190, 7, none⟩ = some (.int .i64 a0_7) := (blk_cell BK190.out 7).trans rfl; have hcz7_8 : w6.cell? ⟨gb190, 8, none⟩ = some (.int .i64 a0_8) := (blk_cell BK190.out 8).trans rfl; have hcz7_9 : w6.cell? ⟨gb190, 9, none⟩ = some (.int .i64 a0_9) := (blk_cell BK190.out 9).trans rfl; have hcz7_10 : w6.cell? ⟨gb190, 10, none⟩ = some (.int .i64 a0_10) := (blk_cell BK190.out 10).trans rfl; have hcz7_11 : w6.cell? ⟨gb190, 11, none⟩ = some (.int .i64 a0_11) := (blk_cell BK190.out 11).trans rfl; have hcz7_12 : w6.cell? ⟨gb190, 12, none⟩ = some (.int .i64 a0_12) := (blk_cell BK190.out 12).trans rfl; have hcz7_13 : w6.cell? ⟨gb190, 13, none⟩ = some (.slice A0_13 l0_13.length c0_13) := (blk_cell BK190.out 13).trans rfl; have hfz7_0 := blk_frozen BK190.out 0; have hfz7_1 := blk_frozen BK190.out 1; have hfz7_2 := blk_frozen BK190.out 2; have hfz7_3 := blk_frozen BK190.out 3; have hfz7_4 := blk_frozen BK190.out 4; have hfz7_5 := blk_frozen BK190.out 5; have hfz7_6 := blk_frozen BK190.out 6; have hfz7_7 := blk_frozen BK190.out 7; have hfz7_8 := blk_frozen BK190.out 8; have hfz7_9 := blk_frozen BK190.out 9; have hfz7_10 := blk_frozen BK190.out 10; have hfz7_11 := blk_frozen BK190.out 11; have hfz7_12 := blk_frozen BK190.out 12; have hfz7_13 := blk_frozen BK190.out 13))
          go_ret
          exact ⟨by first | rfl | (simp [errW_none, errW_some] <;> rfl) | (simp [*, errW_none, errW_some] <;> rfl), by repeat (first | (with_reducible first | exact HB.out | apply below_alloc | apply pw_below_drewN | apply below_drew1 | refine below_set ?_ GE190.out) | exact HB.out)⟩
        · rw [if_neg c5] at H
          have c5b0 : decide ((a0_4.size : Int) ≤ 200) = false := decide_eq_false c5
          have c5b1 : decide (a0_4.size ≤ 200) = false := decide_eq_false (by omega)
          clear c5
          obtain rfl := Option.some.inj H
          go_enter Tryd.func39, Tryd.ntmps39
          go_wp2_with (first | ((with_reducible refine gate_dst (N := 1) rfl ?_); (try (refine gate_guard (by rfl) ?_; dsimp only)); refine box_event ?hg (N := 1) ?hd (cs := #[.int .i64 a0_0, .string a0_1, .string a0_2, .string a0_3, .string a0_4, .int .i64 a0_5, .int .i64 a0_6, .int .i64 a0_7, .int .i64 a0_8, .int .i64 a0_9, .int .i64 a0_10, .int .i64 a0_11, .int .i64 a0_12, .slice A0_13 l0_13.length c0_13]) (t := 68) ?hr ?_; (case hd => rfl); (case hg => rfl); (case hr => first | (go_simp; done) | (go_simp; rfl)); intro gb190 hg w8 hbox hb; have n0_ := Aside0.mk (below_step (by repeat (first | (with_reducible first | exact HB.out | apply below_alloc | apply pw_below_drewN | apply below_drew1) | exact HB.out)) hb); have n1_ := Aside0.mk (hbox); have n2_ := Aside0.mk ((by rw [hg]; exact (below_size (by repeat (first | (with_reducible first | exact HB.out | apply below_alloc | apply pw_below_drewN | apply below_drew1) | exact HB.out))) : w.heap.size ≤ gb190)); have n3_ := Aside0.mk ((by rw [hg]; exact (below_size (by repeat (first | (with_reducible first | exact HB.out | apply below_alloc | apply pw_below_drewN | apply below_drew1) | exact HB.out))) : w.heap.size ≤ gb190)); clear HB; have HB := n0_; have BK190 := n1_; have GW190 := n2_; have GE190 := n3_; clear n0_ n1_ n2_ n3_; clear hb hbox hg; have hcz9_0 : w8.cell? ⟨gb190, 0, none⟩ = some (.int .i64 a0_0) := (blk_cell BK190.out 0).trans rfl; have hcz9_1 : w8.cell? ⟨gb190, 1, none⟩ = some (.string a0_1) := (blk_cell BK190.out 1).trans rfl; have hcz9_2 : w8.cell? ⟨gb190, 2, none⟩ = some (.string a0_2) := (blk_cell BK190.out 2).trans rfl; have hcz9_3 : w8.cell? ⟨gb190, 3, none⟩ = some (.string a0_3) := (blk_cell BK190.out 3).trans rfl; have hcz9_4 : w8.cell? ⟨gb190, 4, none⟩ = some (.string a0_4) := (blk_cell BK190.out 4).trans rfl; have hcz9_5 : w8.cell? ⟨gb190, 5, none⟩ = some (.int .i64 a0_5) := (blk_cell BK190.out 5).trans rfl; have hcz9_6 : w8.cell? ⟨gb190, 6, none⟩ = some (.int .i64 a0_6) := (blk_cell BK190.out 6).trans rfl; have hcz9_7 : w8.cell? ⟨gb190, 7, none⟩ = some (.int .i64 a0_7) := (blk_cell BK190.out 7).trans rfl; have hcz9_8 : w8.cell? ⟨gb190, 8, none⟩ = some (.int .i64 a0_8) := (blk_cell BK190.out 8).trans rfl; have hcz9_9 : w8.cell? ⟨gb190, 9, none⟩ = some (.int .i64 a0_9) := (blk_cell BK190.out 9).trans rfl; have hcz9_10 : w8.cell? ⟨gb190, 10, none⟩ = some (.int .i64 a0_10) := (blk_cell BK190.out 10).trans rfl; have hcz9_11 : w8.cell? ⟨gb190, 11, none⟩ = some (.int .i64 a0_11) := (blk_cell BK190.out 11).trans rfl; have hcz9_12 : w8.cell? ⟨gb190, 12, none⟩ = some (.int .i64 a0_12) := (blk_cell BK190.out 12).trans rfl; have hcz9_13 : w8.cell? ⟨gb190, 13, none⟩ = some (.slice A0_13 l0_13.length c0_13) := (blk_cell BK190.out 13).trans rfl; have hfz9_0 := blk_frozen BK190.out 0; have hfz9_1 := blk_frozen BK190.out 1; have hfz9_2 := blk_frozen BK190.out 2; have hfz9_3 := blk_frozen BK190.out 3; have hfz9_4 := blk_frozen BK190.out 4; have hfz9_5 := blk_frozen BK190.out 5; have hfz9_6 := blk_frozen BK190.out 6; have hfz9_7 := blk_frozen BK190.out 7; have hfz9_8 := blk_frozen BK190.out 8; have hfz9_9 := blk_frozen BK190.out 9; have hfz9_10 := blk_frozen BK190.out 10; have hfz9_11 := blk_frozen BK190.out 11; have hfz9_12 := blk_frozen BK190.out 12; have hfz9_13 := blk_frozen BK190.out 13))
          go_ret
          exact ⟨by first | rfl | (simp [errW_none, errW_some] <;> rfl) | (simp [*, errW_none, errW_some] <;> rfl), by repeat (first | (with_reducible first | exact HB.out | apply below_alloc | apply pw_below_drewN | apply below_drew1 | refine below_set ?_ GE190.out) | exact HB.out)⟩
      · rw [if_neg c4] at H
        have c4b0 : decide ((a0_3.size : Int) ≤ 200) = false := decide_eq_false c4
        have c4b1 : decide (a0_3.size ≤ 200) = false := decide_eq_false (by omega)
        clear c4
        obtain rfl := Option.some.inj H
        go_enter Tryd.func39, Tryd.ntmps39
        go_wp2_with (first | ((with_reducible refine gate_dst (N := 1) rfl ?_); (try (refine gate_guard (by rfl) ?_; dsimp only)); refine box_event ?hg (N := 1) ?hd (cs := #[.int .i64 a0_0, .string a0_1, .string a0_2, .string a0_3, .string a0_4, .int .i64 a0_5, .int .i64 a0_6, .int .i64 a0_7, .int .i64 a0_8, .int .i64 a0_9, .int .i64 a0_10, .int .i64 a0_11, .int .i64 a0_12, .slice A0_13 l0_13.length c0_13]) (t := 68) ?hr ?_; (case hd => rfl); (case hg => rfl); (case hr => first | (go_simp; done) | (go_simp; rfl)); intro gb190 hg w10 hbox hb; have n0_ := Aside0.mk (below_step (by repeat (first | (with_reducible first | exact HB.out | apply below_alloc | apply pw_below_drewN | apply below_drew1) | exact HB.out)) hb); have n1_ := Aside0.mk (hbox); have n2_ := Aside0.mk ((by rw [hg]; exact (below_size (by repeat (first | (with_reducible first | exact HB.out | apply below_alloc | apply pw_below_drewN | apply below_drew1) | exact HB.out))) : w.heap.size ≤ gb190)); have n3_ := Aside0.mk ((by rw [hg]; exact (below_size (by repeat (first | (with_reducible first | exact HB.out | apply below_alloc | apply pw_below_drewN | apply below_drew1) | exact HB.out))) : w.heap.size ≤ gb190)); clear HB; have HB := n0_; have BK190 := n1_; have GW190 := n2_; have GE190 := n3_; clear n0_ n1_ n2_ n3_; clear hb hbox hg; have hcz11_0 : w10.cell? ⟨gb190, 0, none⟩ = some (.int .i64 a0_0) := (blk_cell BK190.out 0).trans rfl; have hcz11_1 : w10.cell? ⟨gb190, 1, none⟩ = some (.string a0_1) := (blk_cell BK190.out 1).trans rfl; have hcz11_2 : w10.cell? ⟨gb190, 2, none⟩ = some (.string a0_2) := (blk_cell BK190.out 2).trans rfl; have hcz11_3 : w10.cell? ⟨gb190, 3, none⟩ = some (.string a0_3) := (blk_cell BK190.out 3).trans rfl; have hcz11_4 : w10.cell? ⟨gb190, 4, none⟩ = some (.string a0_4) := (blk_cell BK190.out 4).trans rfl; have hcz11_5 : w10.cell? ⟨gb190, 5, none⟩ = some (.int .i64 a0_5) := (blk_cell BK190.out 5).trans rfl; have hcz11_6 : w10.cell? ⟨gb190, 6, none⟩ = some (.int .i64 a0_6) := (blk_cell BK190.out 6).trans rfl; have hcz11_7 : w10.cell? ⟨gb190, 7, none⟩ = some (.int .i64 a0_7) := (blk_cell BK190.out 7).trans rfl; have hcz11_8 : w10.cell? ⟨gb190, 8, none⟩ = some (.int .i64 a0_8) := (blk_cell BK190.out 8).trans rfl; have hcz11_9 : w10.cell? ⟨gb190, 9, none⟩ = some (.int .i64 a0_9) := (blk_cell BK190.out 9).trans rfl; have hcz11_10 : w10.cell? ⟨gb190, 10, none⟩ = some (.int .i64 a0_10) := (blk_cell BK190.out 10).trans rfl; have hcz11_11 : w10.cell? ⟨gb190, 11, none⟩ = some (.int .i64 a0_11) := (blk_cell BK190.out 11).trans rfl; have hcz11_12 : w10.cell? ⟨gb190, 12, none⟩ = some (.int .i64 a0_12) := (blk_cell BK190.out 12).trans rfl; have hcz11_13 : w10.cell? ⟨gb190, 13, none⟩ = some (.slice A0_13 l0_13.length c0_13) := (blk_cell BK190.out 13).trans rfl; have hfz11_0 := blk_frozen BK190.out 0; have hfz11_1 := blk_frozen BK190.out 1; have hfz11_2 := blk_frozen BK190.out 2; have hfz11_3 := blk_frozen BK190.out 3; have hfz11_4 := blk_frozen BK190.out 4; have hfz11_5 := blk_frozen BK190.out 5; have hfz11_6 := blk_frozen BK190.out 6; have hfz11_7 := blk_frozen BK190.out 7; have hfz11_8 := blk_frozen BK190.out 8; have hfz11_9 := blk_frozen BK190.out 9; have hfz11_10 := blk_frozen BK190.out 10; have hfz11_11 := blk_frozen BK190.out 11; have hfz11_12 := blk_frozen BK190.out 12; have hfz11_13 := blk_frozen BK190.out 13))
        go_ret
        exact ⟨by first | rfl | (simp [errW_none, errW_some] <;> rfl) | (simp [*, errW_none, errW_some] <;> rfl), by repeat (first | (with_reducible first | exact HB.out | apply below_alloc | apply pw_below_drewN | apply below_drew1 | refine below_set ?_ GE190.out) | exact HB.out)⟩
    · rw [if_neg c3] at H
      have c3b0 : decide ((a0_2.size : Int) ≤ 200) = false := decide_eq_false c3
      have c3b1 : decide (a0_2.size ≤ 200) = false := decide_eq_false (by omega)
      clear c3
      obtain rfl := Option.some.inj H
      go_enter Tryd.func39, Tryd.ntmps39
      go_wp2_with (first | ((with_reducible refine gate_dst (N := 1) rfl ?_); (try (refine gate_guard (by rfl) ?_; dsimp only)); refine box_event ?hg (N := 1) ?hd (cs := #[.int .i64 a0_0, .string a0_1, .string a0_2, .string a0_3, .string a0_4, .int .i64 a0_5, .int .i64 a0_6, .int .i64 a0_7, .int .i64 a0_8, .int .i64 a0_9, .int .i64 a0_10, .int .i64 a0_11, .int .i64 a0_12, .slice A0_13 l0_13.length c0_13]) (t := 68) ?hr ?_; (case hd => rfl); (case hg => rfl); (case hr => first | (go_simp; done) | (go_simp; rfl)); intro gb190 hg w12 hbox hb; have n0_ := Aside0.mk (below_step (by repeat (first | (with_reducible first | exact HB.out | apply below_alloc | apply pw_below_drewN | apply below_drew1) | exact HB.out)) hb); have n1_ := Aside0.mk (hbox); have n2_ := Aside0.mk ((by rw [hg]; exact (below_size (by repeat (first | (with_reducible first | exact HB.out | apply below_alloc | apply pw_below_drewN | apply below_drew1) | exact HB.out))) : w.heap.size ≤ gb190)); have n3_ := Aside0.mk ((by rw [hg]; exact (below_size (by repeat (first | (with_reducible first | exact HB.out | apply below_alloc | apply pw_below_drewN | apply below_drew1) | exact HB.out))) : w.heap.size ≤ gb190)); clear HB; have HB := n0_; have BK190 := n1_; have GW190 := n2_; have GE190 := n3_; clear n0_ n1_ n2_ n3_; clear hb hbox hg; have hcz13_0 : w12.cell? ⟨gb190, 0, none⟩ = some (.int .i64 a0_0) := (blk_cell BK190.out 0).trans rfl; have hcz13_1 : w12.cell? ⟨gb190, 1, none⟩ = some (.string a0_1) := (blk_cell BK190.out 1).trans rfl; have hcz13_2 : w12.cell? ⟨gb190, 2, none⟩ = some (.string a0_2) := (blk_cell BK190.out 2).trans rfl; have hcz13_3 : w12.cell? ⟨gb190, 3, none⟩ = some (.string a0_3) := (blk_cell BK190.out 3).trans rfl; have hcz13_4 : w12.cell? ⟨gb190, 4, none⟩ = some (.string a0_4) := (blk_cell BK190.out 4).trans rfl; have hcz13_5 : w12.cell? ⟨gb190, 5, none⟩ = some (.int .i64 a0_5) := (blk_cell BK190.out 5).trans rfl; have hcz13_6 : w12.cell? ⟨gb190, 6, none⟩ = some (.int .i64 a0_6) := (blk_cell BK190.out 6).trans rfl; have hcz13_7 : w12.cell? ⟨gb190, 7, none⟩ = some (.int .i64 a0_7) := (blk_cell BK190.out 7).trans rfl; have hcz13_8 : w12.cell? ⟨gb190, 8, none⟩ = some (.int .i64 a0_8) := (blk_cell BK190.out 8).trans rfl; have hcz13_9 : w12.cell? ⟨gb190, 9, none⟩ = some (.int .i64 a0_9) := (blk_cell BK190.out 9).trans rfl; have hcz13_10 : w12.cell? ⟨gb190, 10, none⟩ = some (.int .i64 a0_10) := (blk_cell BK190.out 10).trans rfl; have hcz13_11 : w12.cell? ⟨gb190, 11, none⟩ = some (.int .i64 a0_11) := (blk_cell BK190.out 11).trans rfl; have hcz13_12 : w12.cell? ⟨gb190, 12, none⟩ = some (.int .i64 a0_12) := (blk_cell BK190.out 12).trans rfl; have hcz13_13 : w12.cell? ⟨gb190, 13, none⟩ = some (.slice A0_13 l0_13.length c0_13) := (blk_cell BK190.out 13).trans rfl; have hfz13_0 := blk_frozen BK190.out 0; have hfz13_1 := blk_frozen BK190.out 1; have hfz13_2 := blk_frozen BK190.out 2; have hfz13_3 := blk_frozen BK190.out 3; have hfz13_4 := blk_frozen BK190.out 4; have hfz13_5 := blk_frozen BK190.out 5; have hfz13_6 := blk_frozen BK190.out 6; have hfz13_7 := blk_frozen BK190.out 7; have hfz13_8 := blk_frozen BK190.out 8; have hfz13_9 := blk_frozen BK190.out 9; have hfz13_10 := blk_frozen BK190.out 10; have hfz13_11 := blk_frozen BK190.out 11; have hfz13_12 := blk_frozen BK190.out 12; have hfz13_13 := blk_frozen BK190.out 13))
      go_ret
      exact ⟨by first | rfl | (simp [errW_none, errW_some] <;> rfl) | (simp [*, errW_none, errW_some] <;> rfl), by repeat (first | (with_reducible first | exact HB.out | apply below_alloc | apply pw_below_drewN | apply below_drew1 | refine below_set ?_ GE190.out) | exact HB.out)⟩
  · rw [if_neg c2] at H
    have c2b0 : decide ((a0_1.size : Int) ≤ 200) = false := decide_eq_false c2
    have c2b1 : decide (a0_1.size ≤ 200) = false := decide_eq_false (by omega)
    clear c2
    obtain rfl := Option.some.inj H
    go_enter Tryd.func39, Tryd.ntmps39
    go_wp2_with (first | ((with_reducible refine gate_dst (N := 1) rfl ?_); (try (refine gate_guard (by rfl) ?_; dsimp only)); refine box_event ?hg (N := 1) ?hd (cs := #[.int .i64 a0_0, .string a0_1, .string a0_2, .string a0_3, .string a0_4, .int .i64 a0_5, .int .i64 a0_6, .int .i64 a0_7, .int .i64 a0_8, .int .i64 a0_9, .int .i64 a0_10, .int .i64 a0_11, .int .i64 a0_12, .slice A0_13 l0_13.length c0_13]) (t := 68) ?hr ?_; (case hd => rfl); (case hg => rfl); (case hr => first | (go_simp; done) | (go_simp; rfl)); intro gb190 hg w14 hbox hb; have n0_ := Aside0.mk (below_step (by repeat (first | (with_reducible first | exact HB.out | apply below_alloc | apply pw_below_drewN | apply below_drew1) | exact HB.out)) hb); have n1_ := Aside0.mk (hbox); have n2_ := Aside0.mk ((by rw [hg]; exact (below_size (by repeat (first | (with_reducible first | exact HB.out | apply below_alloc | apply pw_below_drewN | apply below_drew1) | exact HB.out))) : w.heap.size ≤ gb190)); have n3_ := Aside0.mk ((by rw [hg]; exact (below_size (by repeat (first | (with_reducible first | exact HB.out | apply below_alloc | apply pw_below_drewN | apply below_drew1) | exact HB.out))) : w.heap.size ≤ gb190)); clear HB; have HB := n0_; have BK190 := n1_; have GW190 := n2_; have GE190 := n3_; clear n0_ n1_ n2_ n3_; clear hb hbox hg; have hcz15_0 : w14.cell? ⟨gb190, 0, none⟩ = some (.int .i64 a0_0) := (blk_cell BK190.out 0).trans rfl; have hcz15_1 : w14.cell? ⟨gb190, 1, none⟩ = some (.string a0_1) := (blk_cell BK190.out 1).trans rfl; have hcz15_2 : w14.cell? ⟨gb190, 2, none⟩ = some (.string a0_2) := (blk_cell BK190.out 2).trans rfl; have hcz15_3 : w14.cell? ⟨gb190, 3, none⟩ = some (.string a0_3) := (blk_cell BK190.out 3).trans rfl; have hcz15_4 : w14.cell? ⟨gb190, 4, none⟩ = some (.string a0_4) := (blk_cell BK190.out 4).trans rfl; have hcz15_5 : w14.cell? ⟨gb190, 5, none⟩ = some (.int .i64 a0_5) := (blk_cell BK190.out 5).trans rfl; have hcz15_6 : w14.cell? ⟨gb190, 6, none⟩ = some (.int .i64 a0_6) := (blk_cell BK190.out 6).trans rfl; have hcz15_7 : w14.cell? ⟨gb190, 7, none⟩ = some (.int .i64 a0_7) := (blk_cell BK190.out 7).trans rfl; have hcz15_8 : w14.cell? ⟨gb190, 8, none⟩ = some (.int .i64 a0_8) := (blk_cell BK190.out 8).trans rfl; have hcz15_9 : w14.cell? ⟨gb190, 9, none⟩ = some (.int .i64 a0_9) := (blk_cell BK190.out 9).trans rfl; have hcz15_10 : w14.cell? ⟨gb190, 10, none⟩ = some (.int .i64 a0_10) := (blk_cell BK190.out 10).trans rfl; have hcz15_11 : w14.cell? ⟨gb190, 11, none⟩ = some (.int .i64 a0_11) := (blk_cell BK190.out 11).trans rfl; have hcz15_12 : w14.cell? ⟨gb190, 12, none⟩ = some (.int .i64 a0_12) := (blk_cell BK190.out 12).trans rfl; have hcz15_13 : w14.cell? ⟨gb190, 13, none⟩ = some (.slice A0_13 l0_13.length c0_13) := (blk_cell BK190.out 13).trans rfl; have hfz15_0 := blk_frozen BK190.out 0; have hfz15_1 := blk_frozen BK190.out 1; have hfz15_2 := blk_frozen BK190.out 2; have hfz15_3 := blk_frozen BK190.out 3; have hfz15_4 := blk_frozen BK190.out 4; have hfz15_5 := blk_frozen BK190.out 5; have hfz15_6 := blk_frozen BK190.out 6; have hfz15_7 := blk_frozen BK190.out 7; have hfz15_8 := blk_frozen BK190.out 8; have hfz15_9 := blk_frozen BK190.out 9; have hfz15_10 := blk_frozen BK190.out 10; have hfz15_11 := blk_frozen BK190.out 11; have hfz15_12 := blk_frozen BK190.out 12; have hfz15_13 := blk_frozen BK190.out 13))
    go_ret
    exact ⟨by first | rfl | (simp [errW_none, errW_some] <;> rfl) | (simp [*, errW_none, errW_some] <;> rfl), by repeat (first | (with_reducible first | exact HB.out | apply below_alloc | apply pw_below_drewN | apply below_drew1 | refine below_set ?_ GE190.out) | exact HB.out)⟩
def spigotref03_Same.l0 : Nat → List Int → List Int → Int → Option (Bool)
  | 0, _, _, _ => none
  | k + 1, x0, x1, x5 => if x5 < (x0.length : Int) then (if 0 ≤ x5 then (if x5 < (x1.length : Int) then (if (rd x0 x5) = (rd x1 x5) then (spigotref03_Same.l0 k x0 x1 (wrap64 (x5 + 1))) else (some false)) else (none)) else (none)) else (some true)
def spigotref03_Same.f (k : Nat) (l0 : List Int) (l1 : List Int) : Option (Bool) := if (l0.length : Int) = (l1.length : Int) then (spigotref03_Same.l0 k l0 l1 0) else (some false)
theorem spigotref03_Same.mono_l : ∀ k, (∀ y0 y1 y2, LeO (spigotref03_Same.l0 k y0 y1 y2) (spigotref03_Same.l0 (k + 1) y0 y1 y2))
  | 0 => fun _ _ _ r h => by simp [spigotref03_Same.l0] at h
  | k + 1 => by
    have ih0 := spigotref03_Same.mono_l k
    · intro y0 y1 y2
      unfold spigotref03_Same.l0
      repeat' first
      | (with_reducible exact ih0 _ _ _)
      | (with_reducible exact LeO.refl _)
      | (with_reducible exact LeO.none _)
      | (with_reducible refine LeO.ite ?_ ?_)
      | (with_reducible refine LeO.bind ?_ (fun _ => ?_))
      | exact ih0 _ _ _
      | exact LeO.none _
      | refine LeO.ite ?_ ?_
      | refine LeO.bind ?_ (fun _ => ?_)
theorem spigotref03_Same.mono : ∀ a0 a1 k, LeO (spigotref03_Same.f k a0 a1) (spigotref03_Same.f (k + 1) a0 a1) := by
  intro a0 a1 k
  have ih0 := spigotref03_Same.mono_l k
  unfold spigotref03_Same.f
  repeat' first
      | (with_reducible exact ih0 _ _ _)
      | (with_reducible exact LeO.refl _)
      | (with_reducible exact LeO.none _)
      | (with_reducible refine LeO.ite ?_ ?_)
      | (with_reducible refine LeO.bind ?_ (fun _ => ?_))
      | exact ih0 _ _ _
      | exact LeO.none _
      | refine LeO.ite ?_ ?_
      | refine LeO.bind ?_ (fun _ => ?_)
set_option maxHeartbeats 8000000 in
set_option maxRecDepth 100000 in
theorem spigotref03_Same.calls (k : Nat) (A0 : Option Addr) (c0 : Nat) (l0 : List Int) (A1 : Option Addr) (c1 : Nat) (l1 : List Int) (r : Bool) (w : World) (hr0 : Kd.C (Kd.int .i64) w A0 l0.length l0) (hc0 : l0.length ≤ c0) (hr1 : Kd.C (Kd.int .i64) w A1 l1.length l1) (hc1 : l1.length ≤ c1) (h : spigotref03_Same.f k l0 l1 = some r) :
    Calls Tryd.prog 93 #[.slice A0 l0.length c0, .slice A1 l1.length c1] w fun e w' => e = .returned (.bool r) ∧ Drawn0 w w' := by
  have HR0 := Aside0.mk hr0
  have HC0 := Aside0.mk hc0
  clear hr0 hc0
  have HR1 := Aside0.mk hr1
  have HC1 := Aside0.mk hc1
  clear hr1 hc1
  have H : (if (l0.length : Int) = (l1.length : Int) then (spigotref03_Same.l0 k l0 l1 0) else (some false)) = some r := h
  clear h
  by_cases c3 : (l0.length : Int) = (l1.length : Int)
  · rw [if_pos c3] at H
    have c3b0 : ((l0.length : Int) == (l1.length : Int)) = true := beq_iff_eq.mpr c3
    have c3b1 : ((l0.length : Int) != (l1.length : Int)) = false := bne_eq_false_iff_eq.mpr c3
    have c3b2 : (l0.length == l1.length) = true := by first | simpa using c3 | (simp at c3 ⊢; omega)
    clear c3
    have H' := Aside0.mk H
    clear H
    go_enter Tryd.func93, Tryd.ntmps93
    go_wp2
    repeat (go_quiet (fail); try go_wp2)
    go_loopg [5] k (fun kq v5 w' => ∃ (x5_1 : Int), v5 = .int .i64 x5_1 ∧ Aside0 (spigotref03_Same.l0 kq l0 l1 x5_1 = some r) ∧ Aside0 (kq ≤ k) ∧ Drawn0 w w')
    case atStart => exact ⟨(0), (by first | rfl | (simp; done) | (simp [*]; done)), H', ⟨Nat.le_refl _⟩, by repeat (first | exact Drawn0.refl _ | apply Drawn0.step)⟩
    case round =>
      clear H'
      try clear c1
      try clear p2
      try clear c3
      try clear c3b0
      try clear c3b1
      try clear c3b2
      obtain ⟨x5_1, rfl, HA, HK1, ⟨m1, rfl⟩⟩ := hrel
      cases gk with
      | zero => exact absurd HA.out (by simp [spigotref03_Same.l0])
      | succ k1 =>
        have H := HA.out
        clear HA
        simp only [spigotref03_Same.l0] at H
        by_cases c4 : x5_1 < (l0.length : Int)
        · rw [if_pos c4] at H
          have c4b0 : decide (x5_1 < (l0.length : Int)) = true := decide_eq_true c4
          clear c4
          by_cases c5 : 0 ≤ x5_1
          · rw [if_pos c5] at H
            have c5b0 : decide (0 ≤ x5_1) = true := decide_eq_true c5
            clear c5
            by_cases c6 : x5_1 < (l1.length : Int)
            · rw [if_pos c6] at H
              have c6b0 : decide (x5_1 < (l1.length : Int)) = true := decide_eq_true c6
              clear c6
              by_cases c7 : (rd l0 x5_1) = (rd l1 x5_1)
              · rw [if_pos c7] at H
                have c7b0 : ((rd l0 x5_1) == (rd l1 x5_1)) = true := beq_iff_eq.mpr c7
                have c7b1 : ((rd l0 x5_1) != (rd l1 x5_1)) = false := bne_eq_false_iff_eq.mpr c7
                clear c7
                have H' := Aside0.mk H
                clear H
                have p193 : 0 ≤ (x5_1 : Int) := of_decide_eq_true (by first | (with_reducible assumption) | assumption)
                have q193 : x5_1 < (l0.length : Int) := of_decide_eq_true (by first | (with_reducible assumption) | assumption)
                obtain ⟨ad193, e193, hx193_0⟩ := Kd.at_int HR0.out x5_1 p193 q193
                cases e193
                replace p193 := eq_true p193
                replace q193 := eq_true q193
                have p194 : 0 ≤ (x5_1 : Int) := of_decide_eq_true (by first | (with_reducible assumption) | assumption)
                have q194 : x5_1 < (l1.length : Int) := of_decide_eq_true (by first | (with_reducible assumption) | assumption)
                obtain ⟨ad194, e194, hx194_0⟩ := Kd.at_int HR1.out x5_1 p194 q194
                cases e194
                replace p194 := eq_true p194
                replace q194 := eq_true q194
                go_wp2
                repeat (go_quiet (fail); try go_wp2)
                go_roundg k1
                case measure => have := HK1.out; omega
                case rel => exact ⟨(wrap64 (x5_1 + 1)), (by first | rfl | (simp; done) | (simp [*]; done)), H', ⟨by have := HK1.out; omega⟩, by repeat (first | exact Drawn0.refl _ | apply Drawn0.step)⟩
              · rw [if_neg c7] at H
                have c7b0 : ((rd l0 x5_1) == (rd l1 x5_1)) = false := beq_eq_false_iff_ne.mpr c7
                have c7b1 : ((rd l0 x5_1) != (rd l1 x5_1)) = true := bne_iff_ne.mpr c7
                obtain rfl := Option.some.inj H
                have p193 : 0 ≤ (x5_1 : Int) := of_decide_eq_true (by first | (with_reducible assumption) | assumption)
                have q193 : x5_1 < (l0.length : Int) := of_decide_eq_true (by first | (with_reducible assumption) | assumption)
                obtain ⟨ad193, e193, hx193_0⟩ := Kd.at_int HR0.out x5_1 p193 q193
                cases e193
                replace p193 := eq_true p193
                replace q193 := eq_true q193
                have p194 : 0 ≤ (x5_1 : Int) := of_decide_eq_true (by first | (with_reducible assumption) | assumption)
                have q194 : x5_1 < (l1.length : Int) := of_decide_eq_true (by first | (with_reducible assumption) | assumption)
                obtain ⟨ad194, e194, hx194_0⟩ := Kd.at_int HR1.out x5_1 p194 q194
                cases e194
                replace p194 := eq_true p194
                replace q194 := eq_true q194
                go_wp2
                repeat (go_quiet (fail); try go_wp2)
                go_ret
                exact ⟨by first | rfl | (simp; done) | (simp [*]; done), by repeat (first | exact Drawn0.refl _ | apply Drawn0.step)⟩
            · rw [if_neg c6] at H
              exact absurd H (by simp)
          · rw [if_neg c5] at H
            exact absurd H (by simp)
        · rw [if_neg c4] at H
          have c4b0 : decide (x5_1 < (l0.length : Int)) = false := decide_eq_false c4
          clear c4
          obtain rfl := Option.some.inj H
          go_wp2
          repeat (go_quiet (fail); try go_wp2)
          go_ret
          exact ⟨by first | rfl | (simp; done) | (simp [*]; done), by repeat (first | exact Drawn0.refl _ | apply Drawn0.step)⟩
  · rw [if_neg c3] at H
    have c3b0 : ((l0.length : Int) == (l1.length : Int)) = false := beq_eq_false_iff_ne.mpr c3
    have c3b1 : ((l0.length : Int) != (l1.length : Int)) = true := bne_iff_ne.mpr c3
    have c3b2 : (l0.length == l1.length) = false := by first | simpa using c3 | (simp at c3 ⊢; omega)
    obtain rfl := Option.some.inj H
    go_enter Tryd.func93, Tryd.ntmps93
    go_wp2
    repeat (go_quiet (fail); try go_wp2)
    go_ret
    exact ⟨by first | rfl | (simp; done) | (simp [*]; done), by repeat (first | exact Drawn0.refl _ | apply Drawn0.step)⟩
end Go.Proofs.YtgfigkfcmkdjdaaDoor.B
end
section
namespace Go.Proofs.YtgfigkfcmkdjdaaDoor.B
open Go.RowKit Go.Proofs.YtgfigkfcmkdjdaaDoorW.PrintWords Go.Proofs.YtgfigkfcmkdjdaaDoorW.PrintLast Go.Proofs.YtgfigkfcmkdjdaaDoorW.PrintMore
attribute [local go_sem] max2_int min2_int max_two min_two max_three min_three max_four min_four   -- for this text's walks alone
set_option linter.unusedVariables false
set_option linter.unusedSimpArgs false
theorem same03_loop (l : List Int) (hl : l.length ≤ 64) : ∀ (n i k : Nat), i + n = l.length → n < k → spigotref03_Same.l0 k l l (i : Int) = some true := by
  intro n
  induction n with
  | zero =>
    intro i k hi hk
    obtain ⟨k, rfl⟩ : ∃ m, k = m + 1 := ⟨k - 1, by omega⟩
    rw [spigotref03_Same.l0, if_neg (by omega)]
  | succ n ih =>
    intro i k hi hk
    obtain ⟨k, rfl⟩ : ∃ m, k = m + 1 := ⟨k - 1, by omega⟩
    rw [spigotref03_Same.l0, if_pos (by omega), if_pos (by omega), if_pos (by omega), if_pos rfl, show wrap64 ((i : Int) + 1) = ((i + 1 : Nat) : Int) by rw [w64 (by omega) (by omega)]; omega]
    exact ih (i + 1) k (by omega) (by omega)
theorem same03_f (l : List Int) (hl : l.length ≤ 64) : spigotref03_Same.f 68 l l = some true := by
  unfold spigotref03_Same.f
  rw [if_pos rfl]
  exact same03_loop l hl l.length 0 68 (by omega) (by omega)
set_option maxRecDepth 100000 in
set_option maxHeartbeats 4000000 in
theorem same12_walk (a : AskV) (A : Option Addr) (c : Nat) (B : Option Addr) (d : Nat) (w : World) (hl : a.f13.length ≤ 64) (hA : Kd.C (Kd.int .i64) w A a.f13.length a.f13) (hc : a.f13.length ≤ c) (hB : Kd.C (Kd.int .i64) w B a.f13.length a.f13) (hd : a.f13.length ≤ d) :
    Calls Tryd.prog 43 #[.agg #[.int .i64 a.f0, .string a.f1, .string a.f2, .string a.f3, .string a.f4, .int .i64 a.f5, .int .i64 a.f6, .int .i64 a.f7, .int .i64 a.f8, .int .i64 a.f9, .int .i64 a.f10, .int .i64 a.f11, .int .i64 a.f12, .slice A a.f13.length c], .agg #[.int .i64 a.f0, .string a.f1, .string a.f2, .string a.f3, .string a.f4, .int .i64 a.f5, .int .i64 a.f6, .int .i64 a.f7, .int .i64 a.f8, .int .i64 a.f9, .int .i64 a.f10, .int .i64 a.f11, .int .i64 a.f12, .slice B a.f13.length d]] w fun e w' => e = .returned (.bool true) ∧ Below w.heap.size w w' := by
  have HB0 := Aside0.mk (Below.refl w.heap.size w)
  have HS3 : Aside0 (∀ W, Below w.heap.size w W → Calls Tryd.prog 93 #[.slice A a.f13.length c, .slice B a.f13.length d] W fun e w' => e = .returned (.bool true) ∧ Below W.heap.size W w') := ⟨fun W h => (spigotref03_Same.calls 68 A c a.f13 B d a.f13 true W (Kd.C_below hA h) hc (Kd.C_below hB h) hd (same03_f _ hl)).mono fun e w' hh => ⟨hh.1, by first | exact hh.2 | exact hh.2.below⟩⟩
  clear hA hB hl hc hd
  go_enter Tryd.func43, Tryd.ntmps43
  go_wp2_with (first
    | ((with_reducible refine gate_dst (N := 2) rfl ?_); refine box_event ?hg (N := 2) ?hd (cs := #[.int .i64 a.f0, .string a.f1, .string a.f2, .string a.f3, .string a.f4, .int .i64 a.f5, .int .i64 a.f6, .int .i64 a.f7, .int .i64 a.f8, .int .i64 a.f9, .int .i64 a.f10, .int .i64 a.f11, .int .i64 a.f12, .slice A a.f13.length c]) (t := 74) ?hr ?_; (case hd => rfl); (case hg => rfl); (case hr => first | (go_simp; done) | (go_simp; rfl)); intro g1 hg w3 hbox hb; have K1 := Aside0.mk hbox; have L1 := Aside0.mk (HB0.out.trans (hb.mono HB0.out.size)); clear hb hbox hg HB0)
    | ((with_reducible refine gate_dst (N := 3) rfl ?_); refine box_event ?hg (N := 3) ?hd (cs := #[.int .i64 a.f0, .string a.f1, .string a.f2, .string a.f3, .string a.f4, .int .i64 a.f5, .int .i64 a.f6, .int .i64 a.f7, .int .i64 a.f8, .int .i64 a.f9, .int .i64 a.f10, .int .i64 a.f11, .int .i64 a.f12, .slice B a.f13.length d]) (t := 74) ?hr ?_; (case hd => rfl); (case hg => rfl); (case hr => first | (go_simp; done) | (go_simp; rfl)); intro g2 hg w4 hbox hb; have K2 := Aside0.mk hbox; have K1b := Aside0.mk (blk_below K1.out hb); have L2 := Aside0.mk (L1.out.trans (hb.mono L1.out.size)); clear hb hbox hg; have hx0 : w4.cell? ⟨g1, 0, none⟩ = some (.int .i64 a.f0) := (blk_cell K1b.out 0).trans rfl; have hx1 : w4.cell? ⟨g1, 1, none⟩ = some (.string a.f1) := (blk_cell K1b.out 1).trans rfl; have hx2 : w4.cell? ⟨g1, 2, none⟩ = some (.string a.f2) := (blk_cell K1b.out 2).trans rfl; have hx3 : w4.cell? ⟨g1, 3, none⟩ = some (.string a.f3) := (blk_cell K1b.out 3).trans rfl; have hx4 : w4.cell? ⟨g1, 4, none⟩ = some (.string a.f4) := (blk_cell K1b.out 4).trans rfl; have hx5 : w4.cell? ⟨g1, 5, none⟩ = some (.int .i64 a.f5) := (blk_cell K1b.out 5).trans rfl; have hx6 : w4.cell? ⟨g1, 6, none⟩ = some (.int .i64 a.f6) := (blk_cell K1b.out 6).trans rfl; have hx7 : w4.cell? ⟨g1, 7, none⟩ = some (.int .i64 a.f7) := (blk_cell K1b.out 7).trans rfl; have hx8 : w4.cell? ⟨g1, 8, none⟩ = some (.int .i64 a.f8) := (blk_cell K1b.out 8).trans rfl; have hx9 : w4.cell? ⟨g1, 9, none⟩ = some (.int .i64 a.f9) := (blk_cell K1b.out 9).trans rfl; have hx10 : w4.cell? ⟨g1, 10, none⟩ = some (.int .i64 a.f10) := (blk_cell K1b.out 10).trans rfl; have hx11 : w4.cell? ⟨g1, 11, none⟩ = some (.int .i64 a.f11) := (blk_cell K1b.out 11).trans rfl; have hx12 : w4.cell? ⟨g1, 12, none⟩ = some (.int .i64 a.f12) := (blk_cell K1b.out 12).trans rfl; have hx13 : w4.cell? ⟨g1, 13, none⟩ = some (.slice A a.f13.length c) := (blk_cell K1b.out 13).trans rfl; have hy0 : w4.cell? ⟨g2, 0, none⟩ = some (.int .i64 a.f0) := (blk_cell K2.out 0).trans rfl; have hy1 : w4.cell? ⟨g2, 1, none⟩ = some (.string a.f1) := (blk_cell K2.out 1).trans rfl; have hy2 : w4.cell? ⟨g2, 2, none⟩ = some (.string a.f2) := (blk_cell K2.out 2).trans rfl; have hy3 : w4.cell? ⟨g2, 3, none⟩ = some (.string a.f3) := (blk_cell K2.out 3).trans rfl; have hy4 : w4.cell? ⟨g2, 4, none⟩ = some (.string a.f4) := (blk_cell K2.out 4).trans rfl; have hy5 : w4.cell? ⟨g2, 5, none⟩ = some (.int .i64 a.f5) := (blk_cell K2.out 5).trans rfl; have hy6 : w4.cell? ⟨g2, 6, none⟩ = some (.int .i64 a.f6) := (blk_cell K2.out 6).trans rfl; have hy7 : w4.cell? ⟨g2, 7, none⟩ = some (.int .i64 a.f7) := (blk_cell K2.out 7).trans rfl; have hy8 : w4.cell? ⟨g2, 8, none⟩ = some (.int .i64 a.f8) := (blk_cell K2.out 8).trans rfl; have hy9 : w4.cell? ⟨g2, 9, none⟩ = some (.int .i64 a.f9) := (blk_cell K2.out 9).trans rfl; have hy10 : w4.cell? ⟨g2, 10, none⟩ = some (.int .i64 a.f10) := (blk_cell K2.out 10).trans rfl; have hy11 : w4.cell? ⟨g2, 11, none⟩ = some (.int .i64 a.f11) := (blk_cell K2.out 11).trans rfl; have hy12 : w4.cell? ⟨g2, 12, none⟩ = some (.int .i64 a.f12) := (blk_cell K2.out 12).trans rfl; have hy13 : w4.cell? ⟨g2, 13, none⟩ = some (.slice B a.f13.length d) := (blk_cell K2.out 13).trans rfl)
    | (go_at_call 93; ((with_reducible refine (HS3.out _ L2.out).mono ?_)); rintro e w5 ⟨rfl, hb⟩; have L3 := Aside0.mk (L2.out.trans (hb.mono L2.out.size)); clear hb))
  go_ret
  exact ⟨rfl, L3.out⟩
theorem low_cells14 {B : Nat} {w W : World} (h : Below B w W) {b : Nat} (hb : B ≤ b) {v0 v1 v2 v3 v4 v5 v6 v7 v8 v9 v10 v11 v12 v13 : Value} : Below B w ((((((((((((((W.setCell ⟨b, 0, none⟩ v0).setCell ⟨b, 1, none⟩ v1).setCell ⟨b, 2, none⟩ v2).setCell ⟨b, 3, none⟩ v3).setCell ⟨b, 4, none⟩ v4).setCell ⟨b, 5, none⟩ v5).setCell ⟨b, 6, none⟩ v6).setCell ⟨b, 7, none⟩ v7).setCell ⟨b, 8, none⟩ v8).setCell ⟨b, 9, none⟩ v9).setCell ⟨b, 10, none⟩ v10).setCell ⟨b, 11, none⟩ v11).setCell ⟨b, 12, none⟩ v12).setCell ⟨b, 13, none⟩ v13) :=
  (((((((((((((h.setCell hb _).setCell hb _).setCell hb _).setCell hb _).setCell hb _).setCell hb _).setCell hb _).setCell hb _).setCell hb _).setCell hb _).setCell hb _).setCell hb _).setCell hb _).setCell hb _
set_option maxRecDepth 100000 in
set_option maxHeartbeats 4000000 in
theorem plain_any (a : AskV) (A : Option Addr) (c : Nat) (w : World) : Calls Tryd.prog 44 #[.agg #[.int .i64 a.f0, .string a.f1, .string a.f2, .string a.f3, .string a.f4, .int .i64 a.f5, .int .i64 a.f6, .int .i64 a.f7, .int .i64 a.f8, .int .i64 a.f9, .int .i64 a.f10, .int .i64 a.f11, .int .i64 a.f12, .slice A a.f13.length c]] w fun e w' => e = .returned (.agg #[.int .i64 a.f0, .string a.f1, .string a.f2, .string a.f3, .string a.f4, .int .i64 a.f5, .int .i64 a.f6, .int .i64 a.f7, .int .i64 a.f8, .int .i64 a.f9, .int .i64 a.f10, .int .i64 a.f11, .int .i64 a.f12, .slice A a.f13.length c]) ∧ Below w.heap.size w w' := by
  have HB0 := Aside0.mk (Below.refl w.heap.size w)
  go_enter Tryd.func44, Tryd.ntmps44
  go_wp2_with (first
    | ((with_reducible refine gate_dst (N := 1) rfl ?_); refine box_event ?hg (N := 1) ?hd (cs := #[.int .i64 a.f0, .string a.f1, .string a.f2, .string a.f3, .string a.f4, .int .i64 a.f5, .int .i64 a.f6, .int .i64 a.f7, .int .i64 a.f8, .int .i64 a.f9, .int .i64 a.f10, .int .i64 a.f11, .int .i64 a.f12, .slice A a.f13.length c]) (t := 68) ?hr ?_; (case hd => rfl); (case hg => rfl); (case hr => first | (go_simp; done) | (go_simp; rfl)); intro g1 hg w3 hbox hb; have K1 := Aside0.mk hbox; have L1 := Aside0.mk (HB0.out.trans (hb.mono HB0.out.size)); clear hb hbox hg HB0)
    | ((with_reducible refine gate_dst (N := 2) rfl ?_); refine box_event ?hg (N := 2) ?hd (cs := #[.int .i64 0, .string ⟨#[]⟩, .string ⟨#[]⟩, .string ⟨#[]⟩, .string ⟨#[]⟩, .int .i64 0, .int .i64 0, .int .i64 0, .int .i64 0, .int .i64 0, .int .i64 0, .int .i64 0, .int .i64 0, .slice none 0 0]) (t := 74) ?hr ?_; (case hd => rfl); (case hg => rfl); (case hr => first | (go_simp; done) | (go_simp; rfl)); intro g2 hg w4 hbox hb; have K2 := Aside0.mk hbox; have K1b := Aside0.mk (blk_below K1.out hb); have L2 := Aside0.mk (L1.out.trans (hb.mono L1.out.size)); have G2 : Aside0 (w.heap.size ≤ g2) := ⟨by rw [hg]; exact L1.out.size⟩; have NE : g1 ≠ g2 := (by rw [hg]; exact Nat.ne_of_lt (blk_lt K1.out)); have NE' : g2 ≠ g1 := Ne.symm NE; clear hb hbox hg; have hx0 : w4.cell? ⟨g1, 0, none⟩ = some (.int .i64 a.f0) := (blk_cell K1b.out 0).trans rfl; have hx1 : w4.cell? ⟨g1, 1, none⟩ = some (.string a.f1) := (blk_cell K1b.out 1).trans rfl; have hx2 : w4.cell? ⟨g1, 2, none⟩ = some (.string a.f2) := (blk_cell K1b.out 2).trans rfl; have hx3 : w4.cell? ⟨g1, 3, none⟩ = some (.string a.f3) := (blk_cell K1b.out 3).trans rfl; have hx4 : w4.cell? ⟨g1, 4, none⟩ = some (.string a.f4) := (blk_cell K1b.out 4).trans rfl; have hx5 : w4.cell? ⟨g1, 5, none⟩ = some (.int .i64 a.f5) := (blk_cell K1b.out 5).trans rfl; have hx6 : w4.cell? ⟨g1, 6, none⟩ = some (.int .i64 a.f6) := (blk_cell K1b.out 6).trans rfl; have hx7 : w4.cell? ⟨g1, 7, none⟩ = some (.int .i64 a.f7) := (blk_cell K1b.out 7).trans rfl; have hx8 : w4.cell? ⟨g1, 8, none⟩ = some (.int .i64 a.f8) := (blk_cell K1b.out 8).trans rfl; have hx9 : w4.cell? ⟨g1, 9, none⟩ = some (.int .i64 a.f9) := (blk_cell K1b.out 9).trans rfl; have hx10 : w4.cell? ⟨g1, 10, none⟩ = some (.int .i64 a.f10) := (blk_cell K1b.out 10).trans rfl; have hx11 : w4.cell? ⟨g1, 11, none⟩ = some (.int .i64 a.f11) := (blk_cell K1b.out 11).trans rfl; have hx12 : w4.cell? ⟨g1, 12, none⟩ = some (.int .i64 a.f12) := (blk_cell K1b.out 12).trans rfl; have hx13 : w4.cell? ⟨g1, 13, none⟩ = some (.slice A a.f13.length c) := (blk_cell K1b.out 13).trans rfl; have hy0 : w4.cell? ⟨g2, 0, none⟩ = some (.int .i64 0) := (blk_cell K2.out 0).trans rfl; have hyz0 := blk_frozen K2.out 0; have hy1 : w4.cell? ⟨g2, 1, none⟩ = some (.string ⟨#[]⟩) := (blk_cell K2.out 1).trans rfl; have hyz1 := blk_frozen K2.out 1; have hy2 : w4.cell? ⟨g2, 2, none⟩ = some (.string ⟨#[]⟩) := (blk_cell K2.out 2).trans rfl; have hyz2 := blk_frozen K2.out 2; have hy3 : w4.cell? ⟨g2, 3, none⟩ = some (.string ⟨#[]⟩) := (blk_cell K2.out 3).trans rfl; have hyz3 := blk_frozen K2.out 3; have hy4 : w4.cell? ⟨g2, 4, none⟩ = some (.string ⟨#[]⟩) := (blk_cell K2.out 4).trans rfl; have hyz4 := blk_frozen K2.out 4; have hy5 : w4.cell? ⟨g2, 5, none⟩ = some (.int .i64 0) := (blk_cell K2.out 5).trans rfl; have hyz5 := blk_frozen K2.out 5; have hy6 : w4.cell? ⟨g2, 6, none⟩ = some (.int .i64 0) := (blk_cell K2.out 6).trans rfl; have hyz6 := blk_frozen K2.out 6; have hy7 : w4.cell? ⟨g2, 7, none⟩ = some (.int .i64 0) := (blk_cell K2.out 7).trans rfl; have hyz7 := blk_frozen K2.out 7; have hy8 : w4.cell? ⟨g2, 8, none⟩ = some (.int .i64 0) := (blk_cell K2.out 8).trans rfl; have hyz8 := blk_frozen K2.out 8; have hy9 : w4.cell? ⟨g2, 9, none⟩ = some (.int .i64 0) := (blk_cell K2.out 9).trans rfl; have hyz9 := blk_frozen K2.out 9; have hy10 : w4.cell? ⟨g2, 10, none⟩ = some (.int .i64 0) := (blk_cell K2.out 10).trans rfl; have hyz10 := blk_frozen K2.out 10; have hy11 : w4.cell? ⟨g2, 11, none⟩ = some (.int .i64 0) := (blk_cell K2.out 11).trans rfl; have hyz11 := blk_frozen K2.out 11; have hy12 : w4.cell? ⟨g2, 12, none⟩ = some (.int .i64 0) := (blk_cell K2.out 12).trans rfl; have hyz12 := blk_frozen K2.out 12; have hy13 : w4.cell? ⟨g2, 13, none⟩ = some (.slice none 0 0) := (blk_cell K2.out 13).trans rfl; have hyz13 := blk_frozen K2.out 13))
  refine bodyPost_ret (results_cell_row rfl _ _ g2 74 #[.int .i64 a.f0, .string a.f1, .string a.f2, .string a.f3, .string a.f4, .int .i64 a.f5, .int .i64 a.f6, .int .i64 a.f7, .int .i64 a.f8, .int .i64 a.f9, .int .i64 a.f10, .int .i64 a.f11, .int .i64 a.f12, .slice A a.f13.length c] (0, 0) _ rfl (blk_fill14 K2.out _ _ _ _ _ _ _ _ _ _ _ _ _ _) Tryd.underlying74 rfl (by kernel_rfl)) rfl ?_
  exact ⟨rfl, low_cells14 L2.out G2.out⟩
def TrueW (w : World) (e : Ending) (w' : World) : Prop := e = .returned (.bool true) ∧ Below w.heap.size w w'
end Go.Proofs.YtgfigkfcmkdjdaaDoor.B
end
