/- The functions that the law reaches, as plain Lean functions, and their contracts: texts merged. -/
import Derived.Laws.StructEq
import Derived.Test.YtgfigkfcmkdjdaaDoorzAskBack2
import Derived.Test.YtgfigkfcmkdjdaaDoorzAskBack0
import Derived.Test.YtgfigkfcmkdjdaaDoorzAskBack1
import Derived.Test.YtgfigkfcmkdjdaaDoorzAskBack3
import Derived.Test.YtgfigkfcmkdjdaaDoorzAskBack8
section
namespace Go.Proofs.YtgfigkfcmkdjdaaDoor.B
open Go.RowKit Go.Proofs.YtgfigkfcmkdjdaaDoorW.PrintWords Go.Proofs.YtgfigkfcmkdjdaaDoorW.PrintLast Go.Proofs.YtgfigkfcmkdjdaaDoorW.PrintMore
attribute [local go_sem] max2_int min2_int max_two min_two max_three min_three max_four min_four   -- for this text's walks alone
set_option linter.unusedVariables false
set_option linter.unusedSimpArgs false
def tag_Next_p.f (a0 : ByteArray) : Option (Int × ByteArray × Int × Int) := (tag_number.f a0).bind fun bt137 => (if bt137.2.2 = 0 then (if 0 ≤ bt137.2.1 then (if bt137.2.1 ≤ (a0.size : Int) then ((tag_text.f (a0.extract (bt137.2.1 : Int).toNat a0.size)).bind fun bt140 => (if bt140.2 = 0 then (some (bt137.1, bt140.1, wrap64 ((wrap64 (bt137.2.1 + (bt140.1.size : Int))) + 1), 0)) else (some (0, (⟨#[]⟩ : ByteArray), 0, bt140.2)))) else (none)) else (none)) else (some (0, (⟨#[]⟩ : ByteArray), 0, bt137.2.2)))
set_option maxHeartbeats 8000000 in
set_option maxRecDepth 100000 in
theorem tag_Next_p.calls (a0 : ByteArray) (r1 : Int) (r2 : ByteArray) (r3 : Int) (r4 : Int) (w : World) (h : tag_Next_p.f a0 = some (r1, r2, r3, r4)) :
    Calls Tryd.prog 123 #[.string a0] w fun e w' => e = .returned (.tuple #[.agg #[.int .i64 r1, .string r2], .int .i64 r3, .int .i64 r4]) ∧ Below w.heap.size w w' := by
  have hu78 := Tryd.underlying78
  have HB := Aside0.mk (Below.refl w.heap.size w)
  have H : ((tag_number.f a0).bind fun bt137 => (if bt137.2.2 = 0 then (if 0 ≤ bt137.2.1 then (if bt137.2.1 ≤ (a0.size : Int) then ((tag_text.f (a0.extract (bt137.2.1 : Int).toNat a0.size)).bind fun bt140 => (if bt140.2 = 0 then (some (bt137.1, bt140.1, wrap64 ((wrap64 (bt137.2.1 + (bt140.1.size : Int))) + 1), 0)) else (some (0, (⟨#[]⟩ : ByteArray), 0, bt140.2)))) else (none)) else (none)) else (some (0, (⟨#[]⟩ : ByteArray), 0, bt137.2.2)))) = some (r1, r2, r3, r4) := h
  clear h
  replace H := Option.bind_eq_some_iff.mp H
  obtain ⟨⟨t137, t138, t139⟩, A20, H⟩ := H
  replace H : (if t139 = 0 then (if 0 ≤ t138 then (if t138 ≤ (a0.size : Int) then ((tag_text.f (a0.extract (t138 : Int).toNat a0.size)).bind fun bt140 => (if bt140.2 = 0 then (some (t137, bt140.1, wrap64 ((wrap64 (t138 + (bt140.1.size : Int))) + 1), 0)) else (some (0, (⟨#[]⟩ : ByteArray), 0, bt140.2)))) else (none)) else (none)) else (some (0, (⟨#[]⟩ : ByteArray), 0, t139))) = some (r1, r2, r3, r4) := H
  have A2 := Aside0.mk A20
  clear A20
  by_cases c3 : t139 = 0
  · rw [if_pos c3] at H
    have c3b0 : (t139 == 0) = true := beq_iff_eq.mpr c3
    have c3b1 : (t139 != 0) = false := bne_eq_false_iff_eq.mpr c3
    clear c3
    by_cases c4 : 0 ≤ t138
    · rw [if_pos c4] at H
      have c4b0 := eq_true c4
      have c4b1 : decide (0 ≤ t138) = true := decide_eq_true c4
      clear c4
      by_cases c5 : t138 ≤ (a0.size : Int)
      · rw [if_pos c5] at H
        have c5b0 := eq_true c5
        have c5b1 : decide (t138 ≤ (a0.size : Int)) = true := decide_eq_true c5
        clear c5
        replace H := Option.bind_eq_some_iff.mp H
        obtain ⟨⟨t140, t141⟩, A60, H⟩ := H
        replace H : (if t141 = 0 then (some (t137, t140, wrap64 ((wrap64 (t138 + (t140.size : Int))) + 1), 0)) else (some (0, (⟨#[]⟩ : ByteArray), 0, t141))) = some (r1, r2, r3, r4) := H
        have A6 := Aside0.mk A60
        clear A60
        by_cases c7 : t141 = 0
        · rw [if_pos c7] at H
          have c7b0 : (t141 == 0) = true := beq_iff_eq.mpr c7
          have c7b1 : (t141 != 0) = false := bne_eq_false_iff_eq.mpr c7
          clear c7
          simp only [Option.some.injEq, Prod.mk.injEq] at H
          obtain ⟨rfl, rfl, rfl, rfl⟩ := H
          go_enter Tryd.func123, Tryd.ntmps123
          go_wp2_with (first | ((with_reducible refine gate_dst (N := 2) rfl ?_); refine box_event ?hg (N := 2) ?hd (cs := #[.int .i64 0, .string (⟨#[]⟩ : ByteArray)]) (t := 78) ?hr ?_; (case hd => rfl); (case hg => rfl); (case hr => first | (go_simp; done) | (go_simp; rfl)); intro gb136 hg w8 hbox hb; have n0_ := Aside0.mk (below_step (by repeat (first | (with_reducible first | exact HB.out | apply below_alloc | apply pw_below_drewN | apply below_drew1) | exact HB.out)) hb); have n1_ := Aside0.mk (hbox); have n2_ := Aside0.mk ((by rw [hg]; exact (below_size (by repeat (first | (with_reducible first | exact HB.out | apply below_alloc | apply pw_below_drewN | apply below_drew1) | exact HB.out))) : w.heap.size ≤ gb136)); have n3_ := Aside0.mk ((by rw [hg]; exact (below_size (by repeat (first | (with_reducible first | exact HB.out | apply below_alloc | apply pw_below_drewN | apply below_drew1) | exact HB.out))) : w.heap.size ≤ gb136)); clear HB; have HB := n0_; have BK136 := n1_; have GW136 := n2_; have GE136 := n3_; clear n0_ n1_ n2_ n3_; clear hb hbox hg) | ((with_reducible refine gate_callee (f := 140) rfl ?_); refine goesL_ (some 9) rfl rfl Tryd.func140 (by kernel_rfl) rfl #[.string a0] rfl (by (try simp only [List.map_toArray, List.map_cons, List.map_nil]); first | done | rfl | (simp only [List.length_drop, List.length_take]; rfl)) ?_; (with_reducible refine (tag_number.calls a0 t137 t138 t139 _ A2.out).mono ?_); rintro e w9 ⟨rfl, hb⟩; refine ⟨_, rfl, ?_⟩; have n0_ := Aside0.mk (blk_below (g := gb136) (o := .cells #[.int .i64 0, .string (⟨#[]⟩ : ByteArray)] 78 (0, 0)) (by (with_reducible repeat (first | refine blk_drewN ?_ _ | refine blk_drew ?_ | refine blk_alloc ?_ _)); exact BK136.out) hb); have n1_ := Aside0.mk (below_step (by repeat (first | (with_reducible first | exact HB.out | apply below_alloc | apply pw_below_drewN | apply below_drew1 | refine below_set ?_ GE136.out) | exact HB.out)) hb); clear BK136; clear HB; have BK136 := n0_; have HB := n1_; clear n0_ n1_; (try clear hb); (try clear hb2); (try clear hk); (try clear hi)) | ((with_reducible refine gate_callee (f := 141) rfl ?_); refine goesL_ (some 21) rfl rfl Tryd.func141 (by kernel_rfl) rfl #[.string (a0.extract (t138 : Int).toNat a0.size)] rfl (by (try simp only [List.map_toArray, List.map_cons, List.map_nil]); first | done | rfl | (simp only [List.length_drop, List.length_take]; rfl)) ?_; (with_reducible refine (tag_text.calls (a0.extract (t138 : Int).toNat a0.size) t140 t141 _ A6.out).mono ?_); rintro e w10 ⟨rfl, hb⟩; refine ⟨_, rfl, ?_⟩; have n0_ := Aside0.mk (blk_below (g := gb136) (o := .cells #[.int .i64 0, .string (⟨#[]⟩ : ByteArray)] 78 (0, 0)) (by (with_reducible repeat (first | refine blk_drewN ?_ _ | refine blk_drew ?_ | refine blk_alloc ?_ _)); exact BK136.out) hb); have n1_ := Aside0.mk (below_step (by repeat (first | (with_reducible first | exact HB.out | apply below_alloc | apply pw_below_drewN | apply below_drew1 | refine below_set ?_ GE136.out) | exact HB.out)) hb); clear BK136; clear HB; have BK136 := n0_; have HB := n1_; clear n0_ n1_; (try clear hb); (try clear hb2); (try clear hk); (try clear hi); have hcz11_0 : w10.cell? ⟨gb136, 0, none⟩ = some (.int .i64 0) := (blk_cell BK136.out 0).trans rfl; have hcz11_1 : w10.cell? ⟨gb136, 1, none⟩ = some (.string (⟨#[]⟩ : ByteArray)) := (blk_cell BK136.out 1).trans rfl; have hfz11_0 := blk_frozen BK136.out 0; have hfz11_1 := blk_frozen BK136.out 1))
          refine bodyPost_ret (results_ctt rfl _ _ gb136 78 #[.int .i64 t137, .string t140] (0, 0) _ rfl (by (with_reducible repeat (first | refine blk_drewN ?_ _ | refine blk_drew ?_ | refine blk_alloc ?_ _)); refine blk_put (cs := #[.int .i64 t137, .string (⟨#[]⟩ : ByteArray)]) ?_ 1 _ rfl; (with_reducible repeat (first | refine blk_drewN ?_ _ | refine blk_drew ?_ | refine blk_alloc ?_ _)); refine blk_put (cs := #[.int .i64 0, .string (⟨#[]⟩ : ByteArray)]) ?_ 0 _ rfl; (with_reducible repeat (first | refine blk_drewN ?_ _ | refine blk_drew ?_ | refine blk_alloc ?_ _)); exact BK136.out) Tryd.underlying78 rfl (by kernel_rfl)) rfl ?_
          exact ⟨by first | rfl | (simp [errW_none, errW_some] <;> rfl) | (simp [*, errW_none, errW_some] <;> rfl), by repeat (first | (with_reducible first | exact HB.out | apply below_alloc | apply pw_below_drewN | apply below_drew1 | refine below_set ?_ GE136.out) | exact HB.out)⟩
        · rw [if_neg c7] at H
          have c7b0 : (t141 == 0) = false := beq_eq_false_iff_ne.mpr c7
          have c7b1 : (t141 != 0) = true := bne_iff_ne.mpr c7
          simp only [Option.some.injEq, Prod.mk.injEq] at H
          obtain ⟨rfl, rfl, rfl, rfl⟩ := H
          go_enter Tryd.func123, Tryd.ntmps123
          go_wp2_with (first | ((with_reducible refine gate_dst (N := 2) rfl ?_); refine box_event ?hg (N := 2) ?hd (cs := #[.int .i64 0, .string (⟨#[]⟩ : ByteArray)]) (t := 78) ?hr ?_; (case hd => rfl); (case hg => rfl); (case hr => first | (go_simp; done) | (go_simp; rfl)); intro gb136 hg w12 hbox hb; have n0_ := Aside0.mk (below_step (by repeat (first | (with_reducible first | exact HB.out | apply below_alloc | apply pw_below_drewN | apply below_drew1) | exact HB.out)) hb); have n1_ := Aside0.mk (hbox); have n2_ := Aside0.mk ((by rw [hg]; exact (below_size (by repeat (first | (with_reducible first | exact HB.out | apply below_alloc | apply pw_below_drewN | apply below_drew1) | exact HB.out))) : w.heap.size ≤ gb136)); have n3_ := Aside0.mk ((by rw [hg]; exact (below_size (by repeat (first | (with_reducible first | exact HB.out | apply below_alloc | apply pw_below_drewN | apply below_drew1) | exact HB.out))) : w.heap.size ≤ gb136)); clear HB; have HB := n0_; have BK136 := n1_; have GW136 := n2_; have GE136 := n3_; clear n0_ n1_ n2_ n3_; clear hb hbox hg) | ((with_reducible refine gate_callee (f := 140) rfl ?_); refine goesL_ (some 9) rfl rfl Tryd.func140 (by kernel_rfl) rfl #[.string a0] rfl (by (try simp only [List.map_toArray, List.map_cons, List.map_nil]); first | done | rfl | (simp only [List.length_drop, List.length_take]; rfl)) ?_; (with_reducible refine (tag_number.calls a0 t137 t138 t139 _ A2.out).mono ?_); rintro e w13 ⟨rfl, hb⟩; refine ⟨_, rfl, ?_⟩; have n0_ := Aside0.mk (blk_below (g := gb136) (o := .cells #[.int .i64 0, .string (⟨#[]⟩ : ByteArray)] 78 (0, 0)) (by (with_reducible repeat (first | refine blk_drewN ?_ _ | refine blk_drew ?_ | refine blk_alloc ?_ _)); exact BK136.out) hb); have n1_ := Aside0.mk (below_step (by repeat (first | (with_reducible first | exact HB.out | apply below_alloc | apply pw_below_drewN | apply below_drew1 | refine below_set ?_ GE136.out) | exact HB.out)) hb); clear BK136; clear HB; have BK136 := n0_; have HB := n1_; clear n0_ n1_; (try clear hb); (try clear hb2); (try clear hk); (try clear hi)) | ((with_reducible refine gate_callee (f := 141) rfl ?_); refine goesL_ (some 21) rfl rfl Tryd.func141 (by kernel_rfl) rfl #[.string (a0.extract (t138 : Int).toNat a0.size)] rfl (by (try simp only [List.map_toArray, List.map_cons, List.map_nil]); first | done | rfl | (simp only [List.length_drop, List.length_take]; rfl)) ?_; (with_reducible refine (tag_text.calls (a0.extract (t138 : Int).toNat a0.size) t140 t141 _ A6.out).mono ?_); rintro e w14 ⟨rfl, hb⟩; refine ⟨_, rfl, ?_⟩; have n0_ := Aside0.mk (blk_below (g := gb136) (o := .cells #[.int .i64 0, .string (⟨#[]⟩ : ByteArray)] 78 (0, 0)) (by (with_reducible repeat (first | refine blk_drewN ?_ _ | refine blk_drew ?_ | refine blk_alloc ?_ _)); exact BK136.out) hb); have n1_ := Aside0.mk (below_step (by repeat (first | (with_reducible first | exact HB.out | apply below_alloc | apply pw_below_drewN | apply below_drew1 | refine below_set ?_ GE136.out) | exact HB.out)) hb); clear BK136; clear HB; have BK136 := n0_; have HB := n1_; clear n0_ n1_; (try clear hb); (try clear hb2); (try clear hk); (try clear hi); have hcz15_0 : w14.cell? ⟨gb136, 0, none⟩ = some (.int .i64 0) := (blk_cell BK136.out 0).trans rfl; have hcz15_1 : w14.cell? ⟨gb136, 1, none⟩ = some (.string (⟨#[]⟩ : ByteArray)) := (blk_cell BK136.out 1).trans rfl; have hfz15_0 := blk_frozen BK136.out 0; have hfz15_1 := blk_frozen BK136.out 1))
          refine bodyPost_ret (results_ctt rfl _ _ gb136 78 #[.int .i64 0, .string (⟨#[]⟩ : ByteArray)] (0, 0) _ rfl (by (with_reducible repeat (first | refine blk_drewN ?_ _ | refine blk_drew ?_ | refine blk_alloc ?_ _)); refine blk_put (cs := #[.int .i64 0, .string (⟨#[]⟩ : ByteArray)]) ?_ 1 _ rfl; (with_reducible repeat (first | refine blk_drewN ?_ _ | refine blk_drew ?_ | refine blk_alloc ?_ _)); refine blk_put (cs := #[.int .i64 0, .string (⟨#[]⟩ : ByteArray)]) ?_ 0 _ rfl; (with_reducible repeat (first | refine blk_drewN ?_ _ | refine blk_drew ?_ | refine blk_alloc ?_ _)); exact BK136.out) Tryd.underlying78 rfl (by kernel_rfl)) rfl ?_
          exact ⟨by first | rfl | (simp [errW_none, errW_some] <;> rfl) | (simp [*, errW_none, errW_some] <;> rfl), by repeat (first | (with_reducible first | exact HB.out | apply below_alloc | apply pw_below_drewN | apply below_drew1 | refine below_set ?_ GE136.out) | exact HB.out)⟩
      · rw [if_neg c5] at H
        exact absurd H (by simp)
    · rw [if_neg c4] at H
      exact absurd H (by simp)
  · rw [if_neg c3] at H
    have c3b0 : (t139 == 0) = false := beq_eq_false_iff_ne.mpr c3
    have c3b1 : (t139 != 0) = true := bne_iff_ne.mpr c3
    simp only [Option.some.injEq, Prod.mk.injEq] at H
    obtain ⟨rfl, rfl, rfl, rfl⟩ := H
    go_enter Tryd.func123, Tryd.ntmps123
    go_wp2_with (first | ((with_reducible refine gate_dst (N := 2) rfl ?_); refine box_event ?hg (N := 2) ?hd (cs := #[.int .i64 0, .string (⟨#[]⟩ : ByteArray)]) (t := 78) ?hr ?_; (case hd => rfl); (case hg => rfl); (case hr => first | (go_simp; done) | (go_simp; rfl)); intro gb136 hg w16 hbox hb; have n0_ := Aside0.mk (below_step (by repeat (first | (with_reducible first | exact HB.out | apply below_alloc | apply pw_below_drewN | apply below_drew1) | exact HB.out)) hb); have n1_ := Aside0.mk (hbox); have n2_ := Aside0.mk ((by rw [hg]; exact (below_size (by repeat (first | (with_reducible first | exact HB.out | apply below_alloc | apply pw_below_drewN | apply below_drew1) | exact HB.out))) : w.heap.size ≤ gb136)); have n3_ := Aside0.mk ((by rw [hg]; exact (below_size (by repeat (first | (with_reducible first | exact HB.out | apply below_alloc | apply pw_below_drewN | apply below_drew1) | exact HB.out))) : w.heap.size ≤ gb136)); clear HB; have HB := n0_; have BK136 := n1_; have GW136 := n2_; have GE136 := n3_; clear n0_ n1_ n2_ n3_; clear hb hbox hg) | ((with_reducible refine gate_callee (f := 140) rfl ?_); refine goesL_ (some 9) rfl rfl Tryd.func140 (by kernel_rfl) rfl #[.string a0] rfl (by (try simp only [List.map_toArray, List.map_cons, List.map_nil]); first | done | rfl | (simp only [List.length_drop, List.length_take]; rfl)) ?_; (with_reducible refine (tag_number.calls a0 t137 t138 t139 _ A2.out).mono ?_); rintro e w17 ⟨rfl, hb⟩; refine ⟨_, rfl, ?_⟩; have n0_ := Aside0.mk (blk_below (g := gb136) (o := .cells #[.int .i64 0, .string (⟨#[]⟩ : ByteArray)] 78 (0, 0)) (by (with_reducible repeat (first | refine blk_drewN ?_ _ | refine blk_drew ?_ | refine blk_alloc ?_ _)); exact BK136.out) hb); have n1_ := Aside0.mk (below_step (by repeat (first | (with_reducible first | exact HB.out | apply below_alloc | apply pw_below_drewN | apply below_drew1 | refine below_set ?_ GE136.out) | exact HB.out)) hb); clear BK136; clear HB; have BK136 := n0_; have HB := n1_; clear n0_ n1_; (try clear hb); (try clear hb2); (try clear hk); (try clear hi); have hcz18_0 : w17.cell? ⟨gb136, 0, none⟩ = some (.int .i64 0) := (blk_cell BK136.out 0).trans rfl; have hcz18_1 : w17.cell? ⟨gb136, 1, none⟩ = some (.string (⟨#[]⟩ : ByteArray)) := (blk_cell BK136.out 1).trans rfl; have hfz18_0 := blk_frozen BK136.out 0; have hfz18_1 := blk_frozen BK136.out 1))
    refine bodyPost_ret (results_ctt rfl _ _ gb136 78 #[.int .i64 0, .string (⟨#[]⟩ : ByteArray)] (0, 0) _ rfl (by (with_reducible repeat (first | refine blk_drewN ?_ _ | refine blk_drew ?_ | refine blk_alloc ?_ _)); refine blk_put (cs := #[.int .i64 0, .string (⟨#[]⟩ : ByteArray)]) ?_ 1 _ rfl; (with_reducible repeat (first | refine blk_drewN ?_ _ | refine blk_drew ?_ | refine blk_alloc ?_ _)); refine blk_put (cs := #[.int .i64 0, .string (⟨#[]⟩ : ByteArray)]) ?_ 0 _ rfl; (with_reducible repeat (first | refine blk_drewN ?_ _ | refine blk_drew ?_ | refine blk_alloc ?_ _)); exact BK136.out) Tryd.underlying78 rfl (by kernel_rfl)) rfl ?_
    exact ⟨by first | rfl | (simp [errW_none, errW_some] <;> rfl) | (simp [*, errW_none, errW_some] <;> rfl), by repeat (first | (with_reducible first | exact HB.out | apply below_alloc | apply pw_below_drewN | apply below_drew1 | refine below_set ?_ GE136.out) | exact HB.out)⟩
theorem nextL_numerr (l : List UInt8) (h : (numL l 0 0).2.2 ≠ 0) : nextL l = ((0, []), 0, (numL l 0 0).2.2) := by unfold nextL; simp only; rw [if_pos h]
theorem nextL_texterr (l : List UInt8) (h : (numL l 0 0).2.2 = 0) (h2 : (textL (l.drop (numL l 0 0).2.1) 0).2 ≠ 0) : nextL l = ((0, []), 0, (textL (l.drop (numL l 0 0).2.1) 0).2) := by
  unfold nextL; simp only; rw [if_neg (by simpa using h), if_pos h2]
theorem nextL_ok (l : List UInt8) (h : (numL l 0 0).2.2 = 0) (h2 : (textL (l.drop (numL l 0 0).2.1) 0).2 = 0) : nextL l = (((numL l 0 0).1, (l.drop (numL l 0 0).2.1).take (textL (l.drop (numL l 0 0).2.1) 0).1), (numL l 0 0).2.1 + (textL (l.drop (numL l 0 0).2.1) 0).1 + 1, 0) := by
  unfold nextL; simp only; rw [if_neg (by simpa using h), if_neg (by simpa using h2)]
theorem drop_list (s : ByteArray) (n : Nat) : (s.extract n s.size).data.toList = s.data.toList.drop n := by
  rw [ByteArray.data_extract, Array.toList_extract, List.extract_eq_take_drop]; exact List.take_of_length_le (by rw [List.length_drop, size_list]; omega)
def tag_Next.f (a0 : ByteArray) : Option (Int × ByteArray × Int × Int) := if a0.size ≤ big then some (((nextL a0.data.toList).1.1 : Int), ⟨(nextL a0.data.toList).1.2.toArray⟩, ((nextL a0.data.toList).2.1 : Int), ((nextL a0.data.toList).2.2 : Int)) else none
theorem tag_Next_eq (s : ByteArray) (hs : s.size ≤ big) : tag_Next_p.f s = tag_Next.f s := by
  unfold tag_Next.f tag_Next_p.f tag_number.f
  rw [if_pos hs, if_pos hs]
  simp only [Option.bind_some]
  by_cases h1 : (numL s.data.toList 0 0).2.2 = 0
  · have hn := numL_le s.data.toList 0 0 h1
    rw [size_list] at hn
    rw [if_pos (by omega), if_pos (by omega), if_pos (by omega), Int.toNat_natCast]
    have hz : (s.extract (numL s.data.toList 0 0).2.1 s.size).size ≤ big := by rw [ByteArray.size_extract]; omega
    unfold tag_text.f
    rw [if_pos hz]
    simp only [Option.bind_some]
    rw [drop_list]
    by_cases h2 : (textL (s.data.toList.drop (numL s.data.toList 0 0).2.1) 0).2 = 0
    · rw [if_pos (by omega), nextL_ok _ h1 h2, if_pos h2]
      have ht := textL_le _ (s.data.toList.drop (numL s.data.toList 0 0).2.1) 0 (Nat.le_refl _) h2
      rw [List.length_drop, size_list] at ht
      have e1 : (⟨((s.data.toList.drop (numL s.data.toList 0 0).2.1).take (textL (s.data.toList.drop (numL s.data.toList 0 0).2.1) 0).1).toArray⟩ : ByteArray) = (s.extract (numL s.data.toList 0 0).2.1 s.size).extract 0 (textL (s.data.toList.drop (numL s.data.toList 0 0).2.1) 0).1 := by
        apply ba_ext; rw [take_list, drop_list]
      have e2 : ((s.extract (numL s.data.toList 0 0).2.1 s.size).extract 0 (textL (s.data.toList.drop (numL s.data.toList 0 0).2.1) 0).1).size = (textL (s.data.toList.drop (numL s.data.toList 0 0).2.1) 0).1 := by
        rw [ByteArray.size_extract, ByteArray.size_extract]; omega
      rw [e1, e2]
      unfold big at hs
      rw [w64_sum1 _ _ (by omega)]
      simp
    · rw [if_neg (by omega), nextL_texterr _ h1 h2]; simp
  · rw [if_neg (by omega), nextL_numerr _ h1]; simp
theorem tag_Next.calls (a0 : ByteArray) (r1 : Int) (r2 : ByteArray) (r3 : Int) (r4 : Int) (w : World) (h : tag_Next.f a0 = some (r1, r2, r3, r4)) :
    Calls Tryd.prog 123 #[.string a0] w fun e w' => e = .returned (.tuple #[.agg #[.int .i64 r1, .string r2], .int .i64 r3, .int .i64 r4]) ∧ Below w.heap.size w w' := by
  by_cases c : a0.size ≤ big
  · exact tag_Next_p.calls a0 r1 r2 r3 r4 w ((tag_Next_eq a0 c).trans h)
  · unfold tag_Next.f at h; rw [if_neg c] at h; cases h
end Go.Proofs.YtgfigkfcmkdjdaaDoor.B
end
section
namespace Go.Proofs.YtgfigkfcmkdjdaaDoor.B
open Go.RowKit Go.Proofs.YtgfigkfcmkdjdaaDoorW.PrintWords Go.Proofs.YtgfigkfcmkdjdaaDoorW.PrintLast Go.Proofs.YtgfigkfcmkdjdaaDoorW.PrintMore
attribute [local go_sem] max2_int min2_int max_two min_two max_three min_three max_four min_four   -- for this text's walks alone
set_option linter.unusedVariables false
set_option linter.unusedSimpArgs false
def tag_Fields_p.l0 : Nat → ByteArray → List (S78) → Int → Option ((List (S78)) × Int × Int)
  | 0, _, _, _ => none
  | k + 1, x0, x2, x3 => if x3 < (x0.size : Int) then (if (x2.length : Int) = 64 then (some (x2, x3, 3)) else (if 0 ≤ x3 then (if x3 ≤ (x0.size : Int) then ((tag_Next.f (x0.extract (x3 : Int).toNat x0.size)).bind fun bt142 => (if bt142.2.2.2 = 0 then (if x2.length < 5864062014805 then (tag_Fields_p.l0 k x0 (x2 ++ [(⟨bt142.1, bt142.2.1⟩ : S78)]) (wrap64 (x3 + bt142.2.2.1))) else (none)) else (some (x2, x3, bt142.2.2.2)))) else (none)) else (none))) else (some (x2, x3, 0))
def tag_Fields_p.f (k : Nat) (a0 : ByteArray) : Option ((List (S78)) × Int × Int) := tag_Fields_p.l0 k a0 ([] : List (S78)) 0
theorem tag_Fields_p.mono_l : ∀ k, (∀ y0 y1 y2, LeO (tag_Fields_p.l0 k y0 y1 y2) (tag_Fields_p.l0 (k + 1) y0 y1 y2))
  | 0 => fun _ _ _ r h => by simp [tag_Fields_p.l0] at h
  | k + 1 => by
    have ih0 := tag_Fields_p.mono_l k
    · intro y0 y1 y2
      unfold tag_Fields_p.l0
      repeat' first
      | (with_reducible exact ih0 _ _ _)
      | (with_reducible exact LeO.refl _)
      | (with_reducible exact LeO.none _)
      | (with_reducible refine LeO.ite ?_ ?_)
      | (with_reducible refine LeO.bind ?_ (fun _ => ?_))
      | exact ih0 _ _ _
      | exact LeO.none _
      | refine LeO.ite ?_ ?_
      | refine LeO.bind ?_ (fun _ => ?_)
theorem tag_Fields_p.mono : ∀ a0 k, LeO (tag_Fields_p.f k a0) (tag_Fields_p.f (k + 1) a0) := by
  intro a0 k
  have ih0 := tag_Fields_p.mono_l k
  unfold tag_Fields_p.f
  repeat' first
      | (with_reducible exact ih0 _ _ _)
      | (with_reducible exact LeO.refl _)
      | (with_reducible exact LeO.none _)
      | (with_reducible refine LeO.ite ?_ ?_)
      | (with_reducible refine LeO.bind ?_ (fun _ => ?_))
      | exact ih0 _ _ _
      | exact LeO.none _
      | refine LeO.ite ?_ ?_
      | refine LeO.bind ?_ (fun _ => ?_)
set_option maxHeartbeats 8000000 in
set_option maxRecDepth 100000 in
theorem tag_Fields_p.calls (k : Nat) (a0 : ByteArray) (r1 : List (S78)) (r2 : Int) (r3 : Int) (w : World) (h : tag_Fields_p.f k a0 = some (r1, r2, r3)) :
    Calls Tryd.prog 100 #[.string a0] w fun e w' => ∃ v0_ : Value, e = .returned (.tuple #[v0_, .int .i64 r2, .int .i64 r3]) ∧ Kd.R k78 78 w' w.heap.size (fun _ => True) v0_ r1 ∧ Below w.heap.size w w' := by
  have hu78 := Tryd.underlying78
  have HB := Aside0.mk (Below.refl w.heap.size w)
  have H : (tag_Fields_p.l0 k a0 ([] : List (S78)) 0) = some (r1, r2, r3) := h
  clear h
  have H' := Aside0.mk H
  clear H
  go_enter Tryd.func100, Tryd.ntmps100
  go_wp2
  go_loopg [2, 3] k (fun kq v2 v3 w' => ∃ (x2_1 : List (S78)) (x3_1 : Int), v3 = .int .i64 x3_1 ∧ Aside0 (tag_Fields_p.l0 kq a0 x2_1 x3_1 = some (r1, r2, r3)) ∧ Aside0 (kq ≤ k) ∧ Aside0 (Kd.R k78 78 w' w.heap.size (fun _ => True) v2 x2_1) ∧ Aside0 (Below w.heap.size w w'))
  case atStart => exact ⟨(([] : List (S78))), (0), (by first | rfl | (simp; done) | (simp [*]; done)), H', ⟨Nat.le_refl _⟩, ⟨by first | exact Kd.R_nil _ _ _ _ _ | exact Kd.N_nil _ _ _ _ _ | exact Kd.V_nil _ _ _ _ _ | exact Kd.Q_nil _ _ _ _ _ | exact Kd.S_nil _ _ _ _ _⟩, ⟨by repeat (first | (with_reducible first | exact HB.out | apply below_alloc | apply pw_below_drewN | apply below_drew1) | exact HB.out)⟩⟩
  case round =>
    clear H'
    try clear c1
    obtain ⟨x2_1, x3_1, rfl, HA, HK1, HO_2, HB⟩ := hrel
    cases gk with
    | zero => exact absurd HA.out (by simp [tag_Fields_p.l0])
    | succ k1 =>
      have H := HA.out
      clear HA
      simp only [tag_Fields_p.l0] at H
      by_cases c2 : x3_1 < (a0.size : Int)
      · rw [if_pos c2] at H
        have c2b0 : decide (x3_1 < (a0.size : Int)) = true := decide_eq_true c2
        clear c2
        by_cases c3 : (x2_1.length : Int) = 64
        · rw [if_pos c3] at H
          have c3b0 : ((x2_1.length : Int) == 64) = true := beq_iff_eq.mpr c3
          have c3b1 : ((x2_1.length : Int) != 64) = false := bne_eq_false_iff_eq.mpr c3
          clear c3
          simp only [Option.some.injEq, Prod.mk.injEq] at H
          obtain ⟨rfl, rfl, rfl⟩ := H
          obtain ⟨Ao4, co4, eo4⟩ := Kd.R_slice HO_2.out
          subst eo4
          go_wp2
          go_ret3
          exact ⟨_, by first | rfl | (simp [errW_none, errW_some] <;> rfl) | (simp [*, errW_none, errW_some] <;> rfl), by (with_reducible repeat (first | apply Kd.R_alloc | apply Kd.R_drewN | apply Kd.R_drew)); exact HO_2.out, by repeat (first | (with_reducible first | exact HB.out | apply below_alloc | apply pw_below_drewN | apply below_drew1) | exact HB.out)⟩
        · rw [if_neg c3] at H
          have c3b0 : ((x2_1.length : Int) == 64) = false := beq_eq_false_iff_ne.mpr c3
          have c3b1 : ((x2_1.length : Int) != 64) = true := bne_iff_ne.mpr c3
          by_cases c5 : 0 ≤ x3_1
          · rw [if_pos c5] at H
            have c5b0 := eq_true c5
            have c5b1 : decide (0 ≤ x3_1) = true := decide_eq_true c5
            clear c5
            by_cases c6 : x3_1 ≤ (a0.size : Int)
            · rw [if_pos c6] at H
              have c6b0 := eq_true c6
              have c6b1 : decide (x3_1 ≤ (a0.size : Int)) = true := decide_eq_true c6
              clear c6
              replace H := Option.bind_eq_some_iff.mp H
              obtain ⟨⟨t142, t143, t144, t145⟩, A70, H⟩ := H
              replace H : (if t145 = 0 then (if x2_1.length < 5864062014805 then (tag_Fields_p.l0 k1 a0 (x2_1 ++ [(⟨t142, t143⟩ : S78)]) (wrap64 (x3_1 + t144))) else (none)) else (some (x2_1, x3_1, t145))) = some (r1, r2, r3) := H
              have A7 := Aside0.mk A70
              clear A70
              by_cases c8 : t145 = 0
              · rw [if_pos c8] at H
                have c8b0 : (t145 == 0) = true := beq_iff_eq.mpr c8
                have c8b1 : (t145 != 0) = false := bne_eq_false_iff_eq.mpr c8
                clear c8
                by_cases c9 : x2_1.length < 5864062014805
                · rw [if_pos c9] at H
                  have LMc9 := Aside0.mk c9
                  clear c9
                  obtain ⟨y147, hy147⟩ : ∃ y_ : List (S78), y_ = (x2_1 ++ [(⟨t142, t143⟩ : S78)]) := ⟨_, rfl⟩
                  replace H : (tag_Fields_p.l0 k1 a0 y147 (wrap64 (x3_1 + t144))) = some (r1, r2, r3) := by first | (rw [hy147]; with_reducible exact H) | (have H2_ := (Option.bind_some _ _).symm.trans H; rw [hy147]; with_reducible exact H2_) | (have H2_ := (Option.bind_some _ _).symm.trans H; with_reducible exact H2_) | with_reducible exact H | (rw [hy147]; exact H) | exact H
                  have Ny147 := Aside0.mk hy147
                  clear hy147
                  have H' := Aside0.mk H
                  clear H
                  obtain ⟨Ao10, co10, eo10⟩ := Kd.R_slice HO_2.out
                  subst eo10
                  go_wp2_with (first | ((with_reducible refine gate_callee (f := 123) rfl ?_); refine goesL_ (some 21) rfl rfl Tryd.func123 (by kernel_rfl) rfl #[.string (a0.extract (x3_1 : Int).toNat a0.size)] rfl (by (try simp only [List.map_toArray, List.map_cons, List.map_nil]); first | done | rfl | (simp only [List.length_drop, List.length_take]; rfl)) ?_; (with_reducible refine (tag_Next.calls (a0.extract (x3_1 : Int).toNat a0.size) t142 t143 t144 t145 _ A7.out).mono ?_); rintro e w11 ⟨rfl, hb⟩; refine ⟨_, rfl, ?_⟩; have n0_ := Aside0.mk (Kd.R_below (by (with_reducible repeat (first | apply Kd.R_alloc | apply Kd.R_drewN | apply Kd.R_drew)); exact HO_2.out) hb); have n1_ := Aside0.mk (below_step (by repeat (first | (with_reducible first | exact HB.out | apply below_alloc | apply pw_below_drewN | apply below_drew1) | exact HB.out)) hb); clear HO_2; clear HB; have HO_2 := n0_; have HB := n1_; clear n0_ n1_; (try clear hb); (try clear hb2); (try clear hk); (try clear hi)) | ((with_reducible refine gate_dst (N := 5) rfl ?_); refine box_event ?hg (N := 5) ?hd (cs := #[.int .i64 0, .string (⟨#[]⟩ : ByteArray)]) (t := 78) ?hr ?_; (case hd => rfl); (case hg => rfl); (case hr => first | (go_simp; done) | (go_simp; rfl)); intro gb146 hg w12 hbox hb; have n0_ := Aside0.mk (Kd.R_below (Kd.R_elderB (by (with_reducible repeat (first | apply Kd.R_alloc | apply Kd.R_drewN | apply Kd.R_drew)); exact HO_2.out) gb146 (Nat.le_of_eq hg.symm)) hb); have n1_ := Aside0.mk (below_step (by repeat (first | (with_reducible first | exact HB.out | apply below_alloc | apply pw_below_drewN | apply below_drew1) | exact HB.out)) hb); have n2_ := Aside0.mk (hbox); have n3_ := Aside0.mk ((by rw [hg]; exact (below_size (by repeat (first | (with_reducible first | exact HB.out | apply below_alloc | apply pw_below_drewN | apply below_drew1) | exact HB.out))) : w.heap.size ≤ gb146)); have n4_ := Aside0.mk ((by rw [hg]; exact (below_size (by repeat (first | (with_reducible first | exact HB.out | apply below_alloc | apply pw_below_drewN | apply below_drew1) | exact HB.out))) : w.heap.size ≤ gb146)); clear HO_2; clear HB; have HO_2 := n0_; have HB := n1_; have BK146 := n2_; have GW146 := n3_; have GE146 := n4_; clear n0_ n1_ n2_ n3_ n4_; clear hb hbox hg; have hcz13_0 : w12.cell? ⟨gb146, 0, none⟩ = some (.int .i64 0) := (blk_cell BK146.out 0).trans rfl; have hcz13_1 : w12.cell? ⟨gb146, 1, none⟩ = some (.string (⟨#[]⟩ : ByteArray)) := (blk_cell BK146.out 1).trans rfl; have hfz13_0 := blk_frozen BK146.out 0; have hfz13_1 := blk_frozen BK146.out 1) | ((with_reducible refine gate_builtin (b := .append) (xs := #[.tmp 30, .tmp 32]) rfl ?_); at_builtin; refine Kd.R_append k78 (w0 := w) w.heap.size rfl (.tmp 30) (.tmp 32) 79 78 (.agg #[(.int .i64 0), (.string ⟨#[]⟩)]) 24 rfl Tryd.underlying79 info78 rfl (by decide) (by omega) (.slice Ao10 x2_1.length co10) x2_1 (⟨t142, t143⟩ : S78) [.int .i64 t142, .string t143] (fun k_ => k_ ≠ gb146) (fun _ => False) rfl (by first | (go_simp; done) | (go_simp; rfl)) ?aP (fun _ hk => hk.elim) ?aF ?aO ?aB ?aS ?aL ?_; (case aP => exact k78_mkM _ _ _ (⟨t142, t143⟩ : S78)); (case aB => exact (by repeat (first | (with_reducible first | exact HB.out | apply below_alloc | apply pw_below_drewN | apply below_drew1 | refine below_set ?_ GE146.out) | exact HB.out))); (case aF => exact (fun k_ hk => Kd.freshB (g := gb146) (o := .cells #[.int .i64 t142, .string t143] 78 (0, 0)) (by (with_reducible repeat (first | refine blk_drewN ?_ _ | refine blk_drew ?_ | refine blk_alloc ?_ _)); refine blk_put (cs := #[.int .i64 t142, .string (⟨#[]⟩ : ByteArray)]) ?_ 1 _ rfl; (with_reducible repeat (first | refine blk_drewN ?_ _ | refine blk_drew ?_ | refine blk_alloc ?_ _)); refine blk_put (cs := #[.int .i64 0, .string (⟨#[]⟩ : ByteArray)]) ?_ 0 _ rfl; (with_reducible repeat (first | refine blk_drewN ?_ _ | refine blk_drew ?_ | refine blk_alloc ?_ _)); exact BK146.out) k_ hk)); (case aO => exact (by (with_reducible repeat (first | apply Kd.R_alloc | apply Kd.R_drewN | apply Kd.R_drew)); exact Kd.R_mono (Kd.R_far (p := ⟨gb146, 1, none⟩) (Kd.R_far (p := ⟨gb146, 0, none⟩) (Kd.R_mono HO_2.out (fun k_ hk => (⟨hk, hk.2⟩ : _ ∧ k_ ≠ gb146))) (fun _ hk => hk.2) (.int .i64 t142)) (fun _ hk => hk.2) (.string t143)) (fun _ hk => hk.1.2))); (case aS => exact (below_size (by repeat (first | (with_reducible first | exact HB.out | apply below_alloc | apply pw_below_drewN | apply below_drew1 | refine below_set ?_ GE146.out) | exact HB.out)))); (case aL => have := LMc9.out; omega); intro v148 w14 ho hb hg hat; rw [← Ny147.out] at ho; have n0_ := Aside0.mk (blk_grown (g := gb146) (o := .cells #[.int .i64 t142, .string t143] 78 (0, 0)) (by (with_reducible repeat (first | refine blk_drewN ?_ _ | refine blk_drew ?_ | refine blk_alloc ?_ _)); refine blk_put (cs := #[.int .i64 t142, .string (⟨#[]⟩ : ByteArray)]) ?_ 1 _ rfl; (with_reducible repeat (first | refine blk_drewN ?_ _ | refine blk_drew ?_ | refine blk_alloc ?_ _)); refine blk_put (cs := #[.int .i64 0, .string (⟨#[]⟩ : ByteArray)]) ?_ 0 _ rfl; (with_reducible repeat (first | refine blk_drewN ?_ _ | refine blk_drew ?_ | refine blk_alloc ?_ _)); exact BK146.out) hg (Kd.R_away HO_2.out (fun _ hk => hk.2))); have n1_ := Aside0.mk (hb); have n2_ := Aside0.mk (ho); clear BK146; clear HB; clear HO_2; have BK146 := n0_; have HB := n1_; have HO149 := n2_; clear n0_ n1_ n2_; clear ho hb hg hat))
                  go_roundg k1
                  case measure => have := HK1.out; omega
                  case rel => exact ⟨(y147), (wrap64 (x3_1 + t144)), (by first | rfl | (simp; done) | (simp [*]; done)), H', ⟨by have := HK1.out; omega⟩, ⟨by (with_reducible repeat (first | apply Kd.R_alloc | apply Kd.R_drewN | apply Kd.R_drew)); exact Kd.R_mono HO149.out (fun _ hk => trivial)⟩, ⟨by repeat (first | (with_reducible first | exact HB.out | apply below_alloc | apply pw_below_drewN | apply below_drew1 | refine below_set ?_ GE146.out) | exact HB.out)⟩⟩
                · rw [if_neg c9] at H
                  exact absurd H (by simp)
              · rw [if_neg c8] at H
                have c8b0 : (t145 == 0) = false := beq_eq_false_iff_ne.mpr c8
                have c8b1 : (t145 != 0) = true := bne_iff_ne.mpr c8
                simp only [Option.some.injEq, Prod.mk.injEq] at H
                obtain ⟨rfl, rfl, rfl⟩ := H
                obtain ⟨Ao15, co15, eo15⟩ := Kd.R_slice HO_2.out
                subst eo15
                go_wp2_with (first | ((with_reducible refine gate_callee (f := 123) rfl ?_); refine goesL_ (some 21) rfl rfl Tryd.func123 (by kernel_rfl) rfl #[.string (a0.extract (x3_1 : Int).toNat a0.size)] rfl (by (try simp only [List.map_toArray, List.map_cons, List.map_nil]); first | done | rfl | (simp only [List.length_drop, List.length_take]; rfl)) ?_; (with_reducible refine (tag_Next.calls (a0.extract (x3_1 : Int).toNat a0.size) t142 t143 t144 t145 _ A7.out).mono ?_); rintro e w16 ⟨rfl, hb⟩; refine ⟨_, rfl, ?_⟩; have n0_ := Aside0.mk (Kd.R_below (by (with_reducible repeat (first | apply Kd.R_alloc | apply Kd.R_drewN | apply Kd.R_drew)); exact HO_2.out) hb); have n1_ := Aside0.mk (below_step (by repeat (first | (with_reducible first | exact HB.out | apply below_alloc | apply pw_below_drewN | apply below_drew1) | exact HB.out)) hb); clear HO_2; clear HB; have HO_2 := n0_; have HB := n1_; clear n0_ n1_; (try clear hb); (try clear hb2); (try clear hk); (try clear hi)) | ((with_reducible refine gate_dst (N := 5) rfl ?_); refine box_event ?hg (N := 5) ?hd (cs := #[.int .i64 0, .string (⟨#[]⟩ : ByteArray)]) (t := 78) ?hr ?_; (case hd => rfl); (case hg => rfl); (case hr => first | (go_simp; done) | (go_simp; rfl)); intro gb146 hg w17 hbox hb; have n0_ := Aside0.mk (Kd.R_below (Kd.R_elderB (by (with_reducible repeat (first | apply Kd.R_alloc | apply Kd.R_drewN | apply Kd.R_drew)); exact HO_2.out) gb146 (Nat.le_of_eq hg.symm)) hb); have n1_ := Aside0.mk (below_step (by repeat (first | (with_reducible first | exact HB.out | apply below_alloc | apply pw_below_drewN | apply below_drew1) | exact HB.out)) hb); have n2_ := Aside0.mk (hbox); have n3_ := Aside0.mk ((by rw [hg]; exact (below_size (by repeat (first | (with_reducible first | exact HB.out | apply below_alloc | apply pw_below_drewN | apply below_drew1) | exact HB.out))) : w.heap.size ≤ gb146)); have n4_ := Aside0.mk ((by rw [hg]; exact (below_size (by repeat (first | (with_reducible first | exact HB.out | apply below_alloc | apply pw_below_drewN | apply below_drew1) | exact HB.out))) : w.heap.size ≤ gb146)); clear HO_2; clear HB; have HO_2 := n0_; have HB := n1_; have BK146 := n2_; have GW146 := n3_; have GE146 := n4_; clear n0_ n1_ n2_ n3_ n4_; clear hb hbox hg; have hcz18_0 : w17.cell? ⟨gb146, 0, none⟩ = some (.int .i64 0) := (blk_cell BK146.out 0).trans rfl; have hcz18_1 : w17.cell? ⟨gb146, 1, none⟩ = some (.string (⟨#[]⟩ : ByteArray)) := (blk_cell BK146.out 1).trans rfl; have hfz18_0 := blk_frozen BK146.out 0; have hfz18_1 := blk_frozen BK146.out 1))
                go_ret3
                exact ⟨_, by first | rfl | (simp [errW_none, errW_some] <;> rfl) | (simp [*, errW_none, errW_some] <;> rfl), by (with_reducible repeat (first | apply Kd.R_alloc | apply Kd.R_drewN | apply Kd.R_drew)); exact Kd.R_mono (Kd.R_far (p := ⟨gb146, 1, none⟩) (Kd.R_far (p := ⟨gb146, 0, none⟩) (Kd.R_mono HO_2.out (fun k_ hk => (⟨hk, hk.2⟩ : _ ∧ k_ ≠ gb146))) (fun _ hk => hk.2) (.int .i64 t142)) (fun _ hk => hk.2) (.string t143)) (fun _ hk => trivial), by repeat (first | (with_reducible first | exact HB.out | apply below_alloc | apply pw_below_drewN | apply below_drew1 | refine below_set ?_ GE146.out) | exact HB.out)⟩
            · rw [if_neg c6] at H
              exact absurd H (by simp)
          · rw [if_neg c5] at H
            exact absurd H (by simp)
      · rw [if_neg c2] at H
        have c2b0 : decide (x3_1 < (a0.size : Int)) = false := decide_eq_false c2
        clear c2
        simp only [Option.some.injEq, Prod.mk.injEq] at H
        obtain ⟨rfl, rfl, rfl⟩ := H
        go_wp2
        go_ret3
        exact ⟨_, by first | rfl | (simp [errW_none, errW_some] <;> rfl) | (simp [*, errW_none, errW_some] <;> rfl), by (with_reducible repeat (first | apply Kd.R_alloc | apply Kd.R_drewN | apply Kd.R_drew)); exact HO_2.out, by repeat (first | (with_reducible first | exact HB.out | apply below_alloc | apply pw_below_drewN | apply below_drew1) | exact HB.out)⟩
def mkF (p : Nat × List UInt8) : S78 := ⟨(p.1 : Int), ⟨p.2.toArray⟩⟩
theorem tag_Fields_loop (s : ByteArray) (hs : s.size ≤ big) (d : Nat) : ∀ (k pos : Nat) (xs : List S78), pos ≤ s.size → s.size - pos ≤ d → d < k → xs.length ≤ 64 →
    tag_Fields_p.l0 k s xs (pos : Int) = some (xs ++ (fieldsL (s.data.toList.drop pos) xs.length pos).1.map mkF, ((fieldsL (s.data.toList.drop pos) xs.length pos).2.1 : Int), ((fieldsL (s.data.toList.drop pos) xs.length pos).2.2 : Int)) := by
  induction d with
  | zero =>
    intro k pos xs hp hd hk hx
    obtain ⟨k, rfl⟩ : ∃ m, k = m + 1 := ⟨k - 1, by omega⟩
    simp only [tag_Fields_p.l0]
    rw [if_neg (by omega), drop_nil_of s pos (by omega), fieldsL_nil]
    simp
  | succ d ih =>
    intro k pos xs hp hd hk hx
    obtain ⟨k, rfl⟩ : ∃ m, k = m + 1 := ⟨k - 1, by omega⟩
    by_cases hlt : pos < s.size
    · have hne := drop_ne_nil s pos hlt
      simp only [tag_Fields_p.l0]
      rw [if_pos (by omega)]
      by_cases h64 : xs.length = 64
      · rw [if_pos (by omega), fieldsL_full _ hne _ _ (by omega)]; simp
      · rw [if_neg (by omega), if_pos (by omega), if_pos (by omega), Int.toNat_natCast]
        unfold tag_Next.f
        rw [if_pos (by rw [ByteArray.size_extract]; omega), drop_list]
        simp only [Option.bind_some]
        by_cases he : (nextL (s.data.toList.drop pos)).2.2 = 0
        · have h1 := nextL_pos _ he
          have h2 := nextL_le _ he
          rw [List.length_drop, size_list] at h2
          unfold big at hs
          rw [if_pos (by omega), if_pos (by omega), fieldsL_next _ hne _ _ (by omega) he, w64 (by omega) (by omega), ← Int.natCast_add, ih k (pos + (nextL (s.data.toList.drop pos)).2.1) _ (by omega) (by omega) (by omega) (by simp; omega)]
          simp [List.drop_drop, mkF]
        · rw [if_neg (by omega), fieldsL_err _ hne _ _ (by omega) he]; simp
    · obtain ⟨k, rfl⟩ : ∃ m, k = m + 0 := ⟨k, rfl⟩
      simp only [tag_Fields_p.l0]
      rw [if_neg (by omega), drop_nil_of s pos hlt, fieldsL_nil]
      simp
def tag_Fields.f (a0 : ByteArray) : Option ((List S78) × Int × Int) := if a0.size ≤ big then some ((fieldsL a0.data.toList 0 0).1.map mkF, ((fieldsL a0.data.toList 0 0).2.1 : Int), ((fieldsL a0.data.toList 0 0).2.2 : Int)) else none
theorem tag_Fields.calls (a0 : ByteArray) (r1 : List S78) (r2 : Int) (r3 : Int) (w : World) (h : tag_Fields.f a0 = some (r1, r2, r3)) :
    Calls Tryd.prog 100 #[.string a0] w fun e w' => ∃ v0_ : Value, e = .returned (.tuple #[v0_, .int .i64 r2, .int .i64 r3]) ∧ Kd.R k78 78 w' w.heap.size (fun _ => True) v0_ r1 ∧ Below w.heap.size w w' := by
  unfold tag_Fields.f at h
  by_cases c : a0.size ≤ big
  · rw [if_pos c] at h
    refine tag_Fields_p.calls (a0.size + 1) a0 r1 r2 r3 w (Eq.trans ?_ h)
    have := tag_Fields_loop a0 c a0.size (a0.size + 1) 0 [] (by omega) (by omega) (by omega) (by simp)
    simpa [tag_Fields_p.f] using this
  · rw [if_neg c] at h; cases h
end Go.Proofs.YtgfigkfcmkdjdaaDoor.B
end
