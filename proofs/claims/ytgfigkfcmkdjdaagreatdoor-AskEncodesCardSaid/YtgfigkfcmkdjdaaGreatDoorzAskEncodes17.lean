/- The functions that the law reaches, as plain Lean functions, and their contracts: texts merged. -/
import Derived.Laws.StructEq
import Derived.Test.YtgfigkfcmkdjdaaGreatDoorzAskEncodes2
import Derived.Test.YtgfigkfcmkdjdaaGreatDoorzAskEncodes0
import Derived.Test.YtgfigkfcmkdjdaaGreatDoorzAskEncodes1
import Derived.Test.YtgfigkfcmkdjdaaGreatDoorzAskEncodes3
import Derived.Test.YtgfigkfcmkdjdaaGreatDoorzAskEncodes4
import Derived.Test.YtgfigkfcmkdjdaaGreatDoorzAskEncodes5
import Derived.Test.YtgfigkfcmkdjdaaGreatDoorzAskEncodes6
import Derived.Test.YtgfigkfcmkdjdaaGreatDoorzAskEncodes7
import Derived.Test.YtgfigkfcmkdjdaaGreatDoorzAskEncodes8
import Derived.Test.YtgfigkfcmkdjdaaGreatDoorzAskEncodes9
import Derived.Test.YtgfigkfcmkdjdaaGreatDoorzAskEncodes10
import Derived.Test.YtgfigkfcmkdjdaaGreatDoorzAskEncodes11
import Derived.Test.YtgfigkfcmkdjdaaGreatDoorzAskEncodes12
import Derived.Test.YtgfigkfcmkdjdaaGreatDoorzAskEncodes13
import Derived.Test.YtgfigkfcmkdjdaaGreatDoorzAskEncodes15
import Derived.Test.YtgfigkfcmkdjdaaGreatDoorzAskEncodes16
section
namespace Go.Proofs.YtgfigkfcmkdjdaaGreatDoor.B
open Go.RowKit Go.Proofs.YtgfigkfcmkdjdaaGreatDoorW.PrintWords Go.Proofs.YtgfigkfcmkdjdaaGreatDoorW.PrintLast Go.Proofs.YtgfigkfcmkdjdaaGreatDoorW.PrintMore
attribute [local go_sem] max2_int min2_int max_two min_two max_three min_three max_four min_four   -- for this text's walks alone
set_option linter.unusedVariables false
set_option linter.unusedSimpArgs false
set_option maxHeartbeats 8000000 in
set_option maxRecDepth 100000 in
theorem rr_A (a0_0 : Int) (a0_1 a0_2 a0_3 a0_4 : ByteArray) (a0_5 a0_6 a0_7 a0_8 a0_9 a0_10 a0_11 a0_12 : Int) (A0_13 : Option Addr) (c0_13 : Nat) (l0_13 : List Int) (w : World) (Hi0 : Aside0 (∀ W, Calls Tryz.prog 24 #[.int .i64 a0_0, .int .i64 1, .int .i64 5] W fun e w' => e = .returned (.bool false) ∧ Drawn0 W w')) :
    Calls Tryz.prog 11 #[.agg #[.int .i64 a0_0, .string a0_1, .string a0_2, .string a0_3, .string a0_4, .int .i64 a0_5, .int .i64 a0_6, .int .i64 a0_7, .int .i64 a0_8, .int .i64 a0_9, .int .i64 a0_10, .int .i64 a0_11, .int .i64 a0_12, .slice A0_13 l0_13.length c0_13]] w fun e w' => e = .returned (.bool (false)) ∧ Below w.heap.size w w' := by
  have HB := Aside0.mk (Below.refl w.heap.size w)
  go_enter Tryz.func11, Tryz.ntmps11
  go_upto_region 1 with (first | ((with_reducible refine gate_dst (N := 1) rfl ?_); (try (refine gate_guard (by rfl) ?_; dsimp only)); refine box_event ?hg (N := 1) ?hd (cs := #[.int .i64 a0_0, .string a0_1, .string a0_2, .string a0_3, .string a0_4, .int .i64 a0_5, .int .i64 a0_6, .int .i64 a0_7, .int .i64 a0_8, .int .i64 a0_9, .int .i64 a0_10, .int .i64 a0_11, .int .i64 a0_12, .slice A0_13 l0_13.length c0_13]) (t := 32) ?hr ?_; (case hd => rfl); (case hg => rfl); (case hr => first | (go_simp; done) | (go_simp; rfl)); intro gb1 hg w1 hbox hb; have n0_ := Aside0.mk (below_step (by repeat (first | (with_reducible first | exact HB.out | apply below_alloc | apply pw_below_drewN | apply below_drew1) | exact HB.out)) hb); have n1_ := Aside0.mk (hbox); have n2_ := Aside0.mk ((by rw [hg]; exact (below_size (by repeat (first | (with_reducible first | exact HB.out | apply below_alloc | apply pw_below_drewN | apply below_drew1) | exact HB.out)))) : w.heap.size ≤ gb1); clear HB; have HB := n0_; have BK1 := n1_; have GE1 := n2_; clear n0_ n1_ n2_; clear hb hbox hg; (try clear hc hz); have hc := fun i => blk_cell BK1.out i; have hz := fun i => blk_frozen BK1.out i))
  clear hc hz
  have HL0 := Aside0.mk (below_drew1 HB.out)
  have BL0 := Aside0.mk (blk_drew BK1.out)
  refine start_ (n := 17) (S := fun w' => (∀ i, w'.cell? ⟨gb1, i, none⟩ = (#[.int .i64 a0_0, .string a0_1, .string a0_2, .string a0_3, .string a0_4, .int .i64 a0_5, .int .i64 a0_6, .int .i64 a0_7, .int .i64 a0_8, .int .i64 a0_9, .int .i64 a0_10, .int .i64 a0_11, .int .i64 a0_12, .slice A0_13 l0_13.length c0_13] : Array Value)[i]?) ∧ (gb1 < w'.heap.size)) (ds := []) #[false, false, false, false, false, false, false, false, false, false, false, false, false, false, false, false, false] (by kernel_rfl) rfl rfl ⟨(fun i => blk_cell BK1.out i), blk_lt BK1.out⟩ (fun hHeld => ?_)
  refine pure_ (i := 0) (N := some 5) (v := ?_) (a' := ?_) #[true, false, false, false, false, false, false, false, false, false, false, false, false, false, false, false, false] rfl rfl (by kernel_rfl) (fun _ _ _ h => h) (Or.inl ⟨by rfl, ?_⟩) ?_ ?_
  rotate_left
  · intro w'
    go_simp
    with_reducible rfl
  rotate_left
  · simp only [Act.put, List.setIfInBounds_toArray, List.set_cons_zero, List.set_cons_succ, i64_w, i32_w]
    rfl
  refine take_ (i := 1) (N := some 6) (v := ?_) (a' := ?_) #[true, true, false, false, false, false, false, false, false, false, false, false, false, false, false, false, false] rfl rfl (by kernel_rfl) (fun _ _ _ h => h) (Or.inl ⟨by rfl, ?_⟩) hHeld ?_ ?_
  rotate_left
  · rintro w' ⟨s0, s1⟩
    go_simp
    with_reducible rfl
  rotate_left
  · simp only [Act.put, List.setIfInBounds_toArray, List.set_cons_zero, List.set_cons_succ, i64_w, i32_w]
    rfl
  refine one_ (i := 2) (N := some 7) #[true, true, true, false, false, false, false, false, false, false, false, false, false, false, false, false, false] rfl rfl (by kernel_rfl) (by decide) (fun K hK => ?_)
  refine goes_ Tryz.func24 (by kernel_rfl) rfl #[.int .i64 a0_0, .int .i64 1, .int .i64 5] (by rfl) rfl rfl (by simp only [List.map_toArray, List.map_cons, List.map_nil]; rfl) ?_
  with_reducible refine (Hi0.out _).mono ?_
  rintro e2 v2 ⟨rfl, hd2⟩
  refine ⟨_, rfl, ?_⟩
  have hb2 := Drawn0.below hd2
  have HL2 := Aside0.mk (below_step HL0.out hb2)
  have BL2 := Aside0.mk (blk_below BL0.out hb2)
  refine hK.out _ _ ⟨(fun i => (hb2.cell (p := ⟨gb1, i, none⟩) hHeld.2).trans (hHeld.1 i)), (Nat.lt_of_lt_of_le hHeld.2 hb2.size)⟩ (fun hHeld => ?_)
  clear hK K
  refine norm_ (a' := ?_) ?_ ?_
  rotate_left
  · show Act.put _ (some 7) _ = _
    simp only [Act.put, List.setIfInBounds_toArray, List.set_cons_zero, List.set_cons_succ, i64_w, i32_w]
    rfl
  refine pure_ (i := 3) (N := some 8) (v := ?_) (a' := ?_) #[true, true, true, true, false, false, false, false, false, false, false, false, false, false, false, false, false] rfl rfl (by kernel_rfl) (fun _ _ _ h => h) (Or.inl ⟨by rfl, ?_⟩) ?_ ?_
  rotate_left
  · intro w'
    go_simp
    with_reducible rfl
  rotate_left
  · simp only [Act.put, List.setIfInBounds_toArray, List.set_cons_zero, List.set_cons_succ, i64_w, i32_w]
    rfl
  refine pure_ (i := 4) (N := some 9) (v := ?_) (a' := ?_) #[true, true, true, true, true, false, false, false, false, false, false, false, false, false, false, false, false] rfl rfl (by kernel_rfl) (fun _ _ _ h => h) (Or.inl ⟨by rfl, ?_⟩) ?_ ?_
  rotate_left
  · intro w'
    go_simp
    with_reducible rfl
  rotate_left
  · simp only [Act.put, List.setIfInBounds_toArray, List.set_cons_zero, List.set_cons_succ, i64_w, i32_w]
    rfl
  refine pure_ (i := 5) (N := some 10) (v := undef) (a' := ?_) #[true, true, true, true, true, true, false, false, false, false, false, false, false, false, false, false, false] rfl rfl (by kernel_rfl) (fun _ _ _ h => h) (Or.inr ⟨by rfl, rfl⟩) ?_ ?_
  rotate_left
  · simp only [Act.put, List.setIfInBounds_toArray, List.set_cons_zero, List.set_cons_succ, i64_w, i32_w]
    rfl
  refine pure_ (i := 6) (N := some 11) (v := undef) (a' := ?_) #[true, true, true, true, true, true, true, false, false, false, false, false, false, false, false, false, false] rfl rfl (by kernel_rfl) (fun _ _ _ h => h) (Or.inr ⟨by rfl, rfl⟩) ?_ ?_
  rotate_left
  · simp only [Act.put, List.setIfInBounds_toArray, List.set_cons_zero, List.set_cons_succ, i64_w, i32_w]
    rfl
  refine pure_ (i := 7) (N := some 12) (v := undef) (a' := ?_) #[true, true, true, true, true, true, true, true, false, false, false, false, false, false, false, false, false] rfl rfl (by kernel_rfl) (fun _ _ _ h => h) (Or.inr ⟨by rfl, rfl⟩) ?_ ?_
  rotate_left
  · simp only [Act.put, List.setIfInBounds_toArray, List.set_cons_zero, List.set_cons_succ, i64_w, i32_w]
    rfl
  refine pure_ (i := 8) (N := some 13) (v := undef) (a' := ?_) #[true, true, true, true, true, true, true, true, true, false, false, false, false, false, false, false, false] rfl rfl (by kernel_rfl) (fun _ _ _ h => h) (Or.inr ⟨by rfl, rfl⟩) ?_ ?_
  rotate_left
  · simp only [Act.put, List.setIfInBounds_toArray, List.set_cons_zero, List.set_cons_succ, i64_w, i32_w]
    rfl
  refine pure_ (i := 9) (N := some 14) (v := undef) (a' := ?_) #[true, true, true, true, true, true, true, true, true, true, false, false, false, false, false, false, false] rfl rfl (by kernel_rfl) (fun _ _ _ h => h) (Or.inr ⟨by rfl, rfl⟩) ?_ ?_
  rotate_left
  · simp only [Act.put, List.setIfInBounds_toArray, List.set_cons_zero, List.set_cons_succ, i64_w, i32_w]
    rfl
  refine pure_ (i := 10) (N := some 15) (v := ?_) (a' := ?_) #[true, true, true, true, true, true, true, true, true, true, true, false, false, false, false, false, false] rfl rfl (by kernel_rfl) (fun _ _ _ h => h) (Or.inl ⟨by rfl, ?_⟩) ?_ ?_
  rotate_left
  · intro w'
    go_simp
    with_reducible rfl
  rotate_left
  · simp only [Act.put, List.setIfInBounds_toArray, List.set_cons_zero, List.set_cons_succ, i64_w, i32_w]
    rfl
  refine pure_ (i := 11) (N := some 16) (v := ?_) (a' := ?_) #[true, true, true, true, true, true, true, true, true, true, true, true, false, false, false, false, false] rfl rfl (by kernel_rfl) (fun _ _ _ h => h) (Or.inl ⟨by rfl, ?_⟩) ?_ ?_
  rotate_left
  · intro w'
    go_simp
    with_reducible rfl
  rotate_left
  · simp only [Act.put, List.setIfInBounds_toArray, List.set_cons_zero, List.set_cons_succ, i64_w, i32_w]
    rfl
  refine pure_ (i := 12) (N := some 17) (v := undef) (a' := ?_) #[true, true, true, true, true, true, true, true, true, true, true, true, true, false, false, false, false] rfl rfl (by kernel_rfl) (fun _ _ _ h => h) (Or.inr ⟨by rfl, rfl⟩) ?_ ?_
  rotate_left
  · simp only [Act.put, List.setIfInBounds_toArray, List.set_cons_zero, List.set_cons_succ, i64_w, i32_w]
    rfl
  refine pure_ (i := 13) (N := some 18) (v := undef) (a' := ?_) #[true, true, true, true, true, true, true, true, true, true, true, true, true, true, false, false, false] rfl rfl (by kernel_rfl) (fun _ _ _ h => h) (Or.inr ⟨by rfl, rfl⟩) ?_ ?_
  rotate_left
  · simp only [Act.put, List.setIfInBounds_toArray, List.set_cons_zero, List.set_cons_succ, i64_w, i32_w]
    rfl
  refine pure_ (i := 14) (N := some 19) (v := undef) (a' := ?_) #[true, true, true, true, true, true, true, true, true, true, true, true, true, true, true, false, false] rfl rfl (by kernel_rfl) (fun _ _ _ h => h) (Or.inr ⟨by rfl, rfl⟩) ?_ ?_
  rotate_left
  · simp only [Act.put, List.setIfInBounds_toArray, List.set_cons_zero, List.set_cons_succ, i64_w, i32_w]
    rfl
  refine pure_ (i := 15) (N := some 20) (v := undef) (a' := ?_) #[true, true, true, true, true, true, true, true, true, true, true, true, true, true, true, true, false] rfl rfl (by kernel_rfl) (fun _ _ _ h => h) (Or.inr ⟨by rfl, rfl⟩) ?_ ?_
  rotate_left
  · simp only [Act.put, List.setIfInBounds_toArray, List.set_cons_zero, List.set_cons_succ, i64_w, i32_w]
    rfl
  refine pure_ (i := 16) (N := some 21) (v := ?_) (a' := ?_) #[true, true, true, true, true, true, true, true, true, true, true, true, true, true, true, true, true] rfl rfl (by kernel_rfl) (fun _ _ _ h => h) (Or.inl ⟨by rfl, ?_⟩) ?_ ?_
  rotate_left
  · intro w'
    go_simp
    with_reducible rfl
  rotate_left
  · simp only [Act.put, List.setIfInBounds_toArray, List.set_cons_zero, List.set_cons_succ, i64_w, i32_w]
    rfl
  refine done_ (by kernel_rfl) ?_
  clear HB BK1
  have HB := HL2
  have BK1 := BL2
  have hc := fun i => blk_cell BK1.out i
  have hz := fun i => blk_frozen BK1.out i
  go_wp2
  go_ret
  exact ⟨by first | rfl | (simp; done) | (simp [*]; done), by repeat (first | (with_reducible first | exact HB.out | apply below_alloc | apply pw_below_drewN | apply below_drew1 | refine below_set ?_ GE1.out) | exact HB.out)⟩
set_option maxHeartbeats 8000000 in
set_option maxRecDepth 100000 in
theorem rr_B (a0_0 : Int) (a0_1 a0_2 a0_3 a0_4 : ByteArray) (a0_5 a0_6 a0_7 a0_8 a0_9 a0_10 a0_11 a0_12 : Int) (A0_13 : Option Addr) (c0_13 : Nat) (l0_13 : List Int) (w : World) (k_0 : Int) (k_1 k_2 k_3 k_4 : ByteArray) (k_5 k_6 k_7 k_8 k_9 k_10 k_11 k_12 : Int) (K13 : Option Addr) (n13 m13 : Nat) (Hi0 : Aside0 (∀ W, Calls Tryz.prog 24 #[.int .i64 a0_0, .int .i64 1, .int .i64 5] W fun e w' => e = .returned (.bool true) ∧ Drawn0 W w')) (HKp : Aside0 (∀ W, Below w.heap.size w W → Calls Tryz.prog 25 #[.agg #[.int .i64 a0_0, .string a0_1, .string a0_2, .string a0_3, .string a0_4, .int .i64 a0_5, .int .i64 a0_6, .int .i64 a0_7, .int .i64 a0_8, .int .i64 a0_9, .int .i64 a0_10, .int .i64 a0_11, .int .i64 a0_12, .slice A0_13 l0_13.length c0_13]] W fun e w' => e = .returned (.agg #[.int .i64 k_0, .string k_1, .string k_2, .string k_3, .string k_4, .int .i64 k_5, .int .i64 k_6, .int .i64 k_7, .int .i64 k_8, .int .i64 k_9, .int .i64 k_10, .int .i64 k_11, .int .i64 k_12, .slice K13 n13 m13]) ∧ Below W.heap.size W w')) (HSm : Aside0 (∀ W, Below w.heap.size w W → Calls Tryz.prog 14 #[.agg #[.int .i64 a0_0, .string a0_1, .string a0_2, .string a0_3, .string a0_4, .int .i64 a0_5, .int .i64 a0_6, .int .i64 a0_7, .int .i64 a0_8, .int .i64 a0_9, .int .i64 a0_10, .int .i64 a0_11, .int .i64 a0_12, .slice A0_13 l0_13.length c0_13], .agg #[.int .i64 k_0, .string k_1, .string k_2, .string k_3, .string k_4, .int .i64 k_5, .int .i64 k_6, .int .i64 k_7, .int .i64 k_8, .int .i64 k_9, .int .i64 k_10, .int .i64 k_11, .int .i64 k_12, .slice K13 n13 m13]] W fun e w' => e = .returned (.bool false) ∧ Below W.heap.size W w')) :
    Calls Tryz.prog 11 #[.agg #[.int .i64 a0_0, .string a0_1, .string a0_2, .string a0_3, .string a0_4, .int .i64 a0_5, .int .i64 a0_6, .int .i64 a0_7, .int .i64 a0_8, .int .i64 a0_9, .int .i64 a0_10, .int .i64 a0_11, .int .i64 a0_12, .slice A0_13 l0_13.length c0_13]] w fun e w' => e = .returned (.bool (false)) ∧ Below w.heap.size w w' := by
  have HB := Aside0.mk (Below.refl w.heap.size w)
  go_enter Tryz.func11, Tryz.ntmps11
  go_upto_region 1 with (first | ((with_reducible refine gate_dst (N := 1) rfl ?_); (try (refine gate_guard (by rfl) ?_; dsimp only)); refine box_event ?hg (N := 1) ?hd (cs := #[.int .i64 a0_0, .string a0_1, .string a0_2, .string a0_3, .string a0_4, .int .i64 a0_5, .int .i64 a0_6, .int .i64 a0_7, .int .i64 a0_8, .int .i64 a0_9, .int .i64 a0_10, .int .i64 a0_11, .int .i64 a0_12, .slice A0_13 l0_13.length c0_13]) (t := 32) ?hr ?_; (case hd => rfl); (case hg => rfl); (case hr => first | (go_simp; done) | (go_simp; rfl)); intro gb1 hg w1 hbox hb; have n0_ := Aside0.mk (below_step (by repeat (first | (with_reducible first | exact HB.out | apply below_alloc | apply pw_below_drewN | apply below_drew1) | exact HB.out)) hb); have n1_ := Aside0.mk (hbox); have n2_ := Aside0.mk ((by rw [hg]; exact (below_size (by repeat (first | (with_reducible first | exact HB.out | apply below_alloc | apply pw_below_drewN | apply below_drew1) | exact HB.out)))) : w.heap.size ≤ gb1); clear HB; have HB := n0_; have BK1 := n1_; have GE1 := n2_; clear n0_ n1_ n2_; clear hb hbox hg; (try clear hc hz); have hc := fun i => blk_cell BK1.out i; have hz := fun i => blk_frozen BK1.out i))
  clear hc hz
  have HL0 := Aside0.mk (below_drew1 HB.out)
  have BL0 := Aside0.mk (blk_drew BK1.out)
  refine start_ (n := 17) (S := fun w' => (∀ i, w'.cell? ⟨gb1, i, none⟩ = (#[.int .i64 a0_0, .string a0_1, .string a0_2, .string a0_3, .string a0_4, .int .i64 a0_5, .int .i64 a0_6, .int .i64 a0_7, .int .i64 a0_8, .int .i64 a0_9, .int .i64 a0_10, .int .i64 a0_11, .int .i64 a0_12, .slice A0_13 l0_13.length c0_13] : Array Value)[i]?) ∧ (gb1 < w'.heap.size)) (ds := []) #[false, false, false, false, false, false, false, false, false, false, false, false, false, false, false, false, false] (by kernel_rfl) rfl rfl ⟨(fun i => blk_cell BK1.out i), blk_lt BK1.out⟩ (fun hHeld => ?_)
  refine pure_ (i := 0) (N := some 5) (v := ?_) (a' := ?_) #[true, false, false, false, false, false, false, false, false, false, false, false, false, false, false, false, false] rfl rfl (by kernel_rfl) (fun _ _ _ h => h) (Or.inl ⟨by rfl, ?_⟩) ?_ ?_
  rotate_left
  · intro w'
    go_simp
    with_reducible rfl
  rotate_left
  · simp only [Act.put, List.setIfInBounds_toArray, List.set_cons_zero, List.set_cons_succ, i64_w, i32_w]
    rfl
  refine take_ (i := 1) (N := some 6) (v := ?_) (a' := ?_) #[true, true, false, false, false, false, false, false, false, false, false, false, false, false, false, false, false] rfl rfl (by kernel_rfl) (fun _ _ _ h => h) (Or.inl ⟨by rfl, ?_⟩) hHeld ?_ ?_
  rotate_left
  · rintro w' ⟨s0, s1⟩
    go_simp
    with_reducible rfl
  rotate_left
  · simp only [Act.put, List.setIfInBounds_toArray, List.set_cons_zero, List.set_cons_succ, i64_w, i32_w]
    rfl
  refine one_ (i := 2) (N := some 7) #[true, true, true, false, false, false, false, false, false, false, false, false, false, false, false, false, false] rfl rfl (by kernel_rfl) (by decide) (fun K hK => ?_)
  refine goes_ Tryz.func24 (by kernel_rfl) rfl #[.int .i64 a0_0, .int .i64 1, .int .i64 5] (by rfl) rfl rfl (by simp only [List.map_toArray, List.map_cons, List.map_nil]; rfl) ?_
  with_reducible refine (Hi0.out _).mono ?_
  rintro e2 v2 ⟨rfl, hd2⟩
  refine ⟨_, rfl, ?_⟩
  have hb2 := Drawn0.below hd2
  have HL2 := Aside0.mk (below_step HL0.out hb2)
  have BL2 := Aside0.mk (blk_below BL0.out hb2)
  refine hK.out _ _ ⟨(fun i => (hb2.cell (p := ⟨gb1, i, none⟩) hHeld.2).trans (hHeld.1 i)), (Nat.lt_of_lt_of_le hHeld.2 hb2.size)⟩ (fun hHeld => ?_)
  clear hK K
  refine norm_ (a' := ?_) ?_ ?_
  rotate_left
  · show Act.put _ (some 7) _ = _
    simp only [Act.put, List.setIfInBounds_toArray, List.set_cons_zero, List.set_cons_succ, i64_w, i32_w]
    rfl
  refine pure_ (i := 3) (N := some 8) (v := ?_) (a' := ?_) #[true, true, true, true, false, false, false, false, false, false, false, false, false, false, false, false, false] rfl rfl (by kernel_rfl) (fun _ _ _ h => h) (Or.inl ⟨by rfl, ?_⟩) ?_ ?_
  rotate_left
  · intro w'
    go_simp
    with_reducible rfl
  rotate_left
  · simp only [Act.put, List.setIfInBounds_toArray, List.set_cons_zero, List.set_cons_succ, i64_w, i32_w]
    rfl
  refine pure_ (i := 4) (N := some 9) (v := ?_) (a' := ?_) #[true, true, true, true, true, false, false, false, false, false, false, false, false, false, false, false, false] rfl rfl (by kernel_rfl) (fun _ _ _ h => h) (Or.inl ⟨by rfl, ?_⟩) ?_ ?_
  rotate_left
  · intro w'
    go_simp
    with_reducible rfl
  rotate_left
  · simp only [Act.put, List.setIfInBounds_toArray, List.set_cons_zero, List.set_cons_succ, i64_w, i32_w]
    rfl
  refine take_ (i := 5) (N := some 10) (v := ?_) (a' := ?_) #[true, true, true, true, true, true, false, false, false, false, false, false, false, false, false, false, false] rfl rfl (by kernel_rfl) (fun _ _ _ h => h) (Or.inl ⟨by rfl, ?_⟩) hHeld ?_ ?_
  rotate_left
  · rintro w' ⟨s0, s1⟩
    go_simp
    with_reducible rfl
  rotate_left
  · simp only [Act.put, List.setIfInBounds_toArray, List.set_cons_zero, List.set_cons_succ, i64_w, i32_w]
    rfl
  refine take_ (i := 6) (N := some 11) (v := ?_) (a' := ?_) #[true, true, true, true, true, true, true, false, false, false, false, false, false, false, false, false, false] rfl rfl (by kernel_rfl) (fun _ _ _ h => h) (Or.inl ⟨by rfl, ?_⟩) hHeld ?_ ?_
  rotate_left
  · rintro w' ⟨s0, s1⟩
    go_simp
    with_reducible rfl
  rotate_left
  · simp only [Act.put, List.setIfInBounds_toArray, List.set_cons_zero, List.set_cons_succ, i64_w, i32_w]
    rfl
  refine one_ (i := 7) (N := some 12) #[true, true, true, true, true, true, true, true, false, false, false, false, false, false, false, false, false] rfl rfl (by kernel_rfl) (by decide) (fun K hK => ?_)
  refine goes_ Tryz.func25 (by kernel_rfl) rfl #[.agg #[.int .i64 a0_0, .string a0_1, .string a0_2, .string a0_3, .string a0_4, .int .i64 a0_5, .int .i64 a0_6, .int .i64 a0_7, .int .i64 a0_8, .int .i64 a0_9, .int .i64 a0_10, .int .i64 a0_11, .int .i64 a0_12, .slice A0_13 l0_13.length c0_13]] (by rfl) rfl rfl (by simp only [List.map_toArray, List.map_cons, List.map_nil]; rfl) ?_
  with_reducible refine (HKp.out _ HL2.out).mono ?_
  rintro e3 v3 ⟨rfl, hb3⟩
  refine ⟨_, rfl, ?_⟩
  have HL3 := Aside0.mk (below_step HL2.out hb3)
  have BL3 := Aside0.mk (blk_below BL2.out hb3)
  refine hK.out _ _ ⟨(fun i => (hb3.cell (p := ⟨gb1, i, none⟩) hHeld.2).trans (hHeld.1 i)), (Nat.lt_of_lt_of_le hHeld.2 hb3.size)⟩ (fun hHeld => ?_)
  clear hK K
  refine norm_ (a' := ?_) ?_ ?_
  rotate_left
  · show Act.put _ (some 12) _ = _
    simp only [Act.put, List.setIfInBounds_toArray, List.set_cons_zero, List.set_cons_succ, i64_w, i32_w]
    rfl
  refine one_ (i := 8) (N := some 13) #[true, true, true, true, true, true, true, true, true, false, false, false, false, false, false, false, false] rfl rfl (by kernel_rfl) (by decide) (fun K hK => ?_)
  refine goes_ Tryz.func14 (by kernel_rfl) rfl #[.agg #[.int .i64 a0_0, .string a0_1, .string a0_2, .string a0_3, .string a0_4, .int .i64 a0_5, .int .i64 a0_6, .int .i64 a0_7, .int .i64 a0_8, .int .i64 a0_9, .int .i64 a0_10, .int .i64 a0_11, .int .i64 a0_12, .slice A0_13 l0_13.length c0_13], .agg #[.int .i64 k_0, .string k_1, .string k_2, .string k_3, .string k_4, .int .i64 k_5, .int .i64 k_6, .int .i64 k_7, .int .i64 k_8, .int .i64 k_9, .int .i64 k_10, .int .i64 k_11, .int .i64 k_12, .slice K13 n13 m13]] (by rfl) rfl rfl (by simp only [List.map_toArray, List.map_cons, List.map_nil]; rfl) ?_
  with_reducible refine (HSm.out _ HL3.out).mono ?_
  rintro e4 v4 ⟨rfl, hb4⟩
  refine ⟨_, rfl, ?_⟩
  have HL4 := Aside0.mk (below_step HL3.out hb4)
  have BL4 := Aside0.mk (blk_below BL3.out hb4)
  refine hK.out _ _ ⟨(fun i => (hb4.cell (p := ⟨gb1, i, none⟩) hHeld.2).trans (hHeld.1 i)), (Nat.lt_of_lt_of_le hHeld.2 hb4.size)⟩ (fun hHeld => ?_)
  clear hK K
  refine norm_ (a' := ?_) ?_ ?_
  rotate_left
  · show Act.put _ (some 13) _ = _
    simp only [Act.put, List.setIfInBounds_toArray, List.set_cons_zero, List.set_cons_succ, i64_w, i32_w]
    rfl
  refine pure_ (i := 9) (N := some 14) (v := ?_) (a' := ?_) #[true, true, true, true, true, true, true, true, true, true, false, false, false, false, false, false, false] rfl rfl (by kernel_rfl) (fun _ _ _ h => h) (Or.inl ⟨by rfl, ?_⟩) ?_ ?_
  rotate_left
  · intro w'
    go_simp
    with_reducible rfl
  rotate_left
  · simp only [Act.put, List.setIfInBounds_toArray, List.set_cons_zero, List.set_cons_succ, i64_w, i32_w]
    rfl
  refine pure_ (i := 10) (N := some 15) (v := ?_) (a' := ?_) #[true, true, true, true, true, true, true, true, true, true, true, false, false, false, false, false, false] rfl rfl (by kernel_rfl) (fun _ _ _ h => h) (Or.inl ⟨by rfl, ?_⟩) ?_ ?_
  rotate_left
  · intro w'
    go_simp
    with_reducible rfl
  rotate_left
  · simp only [Act.put, List.setIfInBounds_toArray, List.set_cons_zero, List.set_cons_succ, i64_w, i32_w]
    rfl
  refine pure_ (i := 11) (N := some 16) (v := ?_) (a' := ?_) #[true, true, true, true, true, true, true, true, true, true, true, true, false, false, false, false, false] rfl rfl (by kernel_rfl) (fun _ _ _ h => h) (Or.inl ⟨by rfl, ?_⟩) ?_ ?_
  rotate_left
  · intro w'
    go_simp
    with_reducible rfl
  rotate_left
  · simp only [Act.put, List.setIfInBounds_toArray, List.set_cons_zero, List.set_cons_succ, i64_w, i32_w]
    rfl
  refine pure_ (i := 12) (N := some 17) (v := undef) (a' := ?_) #[true, true, true, true, true, true, true, true, true, true, true, true, true, false, false, false, false] rfl rfl (by kernel_rfl) (fun _ _ _ h => h) (Or.inr ⟨by rfl, rfl⟩) ?_ ?_
  rotate_left
  · simp only [Act.put, List.setIfInBounds_toArray, List.set_cons_zero, List.set_cons_succ, i64_w, i32_w]
    rfl
  refine pure_ (i := 13) (N := some 18) (v := undef) (a' := ?_) #[true, true, true, true, true, true, true, true, true, true, true, true, true, true, false, false, false] rfl rfl (by kernel_rfl) (fun _ _ _ h => h) (Or.inr ⟨by rfl, rfl⟩) ?_ ?_
  rotate_left
  · simp only [Act.put, List.setIfInBounds_toArray, List.set_cons_zero, List.set_cons_succ, i64_w, i32_w]
    rfl
  refine pure_ (i := 14) (N := some 19) (v := undef) (a' := ?_) #[true, true, true, true, true, true, true, true, true, true, true, true, true, true, true, false, false] rfl rfl (by kernel_rfl) (fun _ _ _ h => h) (Or.inr ⟨by rfl, rfl⟩) ?_ ?_
  rotate_left
  · simp only [Act.put, List.setIfInBounds_toArray, List.set_cons_zero, List.set_cons_succ, i64_w, i32_w]
    rfl
  refine pure_ (i := 15) (N := some 20) (v := undef) (a' := ?_) #[true, true, true, true, true, true, true, true, true, true, true, true, true, true, true, true, false] rfl rfl (by kernel_rfl) (fun _ _ _ h => h) (Or.inr ⟨by rfl, rfl⟩) ?_ ?_
  rotate_left
  · simp only [Act.put, List.setIfInBounds_toArray, List.set_cons_zero, List.set_cons_succ, i64_w, i32_w]
    rfl
  refine pure_ (i := 16) (N := some 21) (v := ?_) (a' := ?_) #[true, true, true, true, true, true, true, true, true, true, true, true, true, true, true, true, true] rfl rfl (by kernel_rfl) (fun _ _ _ h => h) (Or.inl ⟨by rfl, ?_⟩) ?_ ?_
  rotate_left
  · intro w'
    go_simp
    with_reducible rfl
  rotate_left
  · simp only [Act.put, List.setIfInBounds_toArray, List.set_cons_zero, List.set_cons_succ, i64_w, i32_w]
    rfl
  refine done_ (by kernel_rfl) ?_
  clear HB BK1
  have HB := HL4
  have BK1 := BL4
  have hc := fun i => blk_cell BK1.out i
  have hz := fun i => blk_frozen BK1.out i
  go_wp2
  go_ret
  exact ⟨by first | rfl | (simp; done) | (simp [*]; done), by repeat (first | (with_reducible first | exact HB.out | apply below_alloc | apply pw_below_drewN | apply below_drew1 | refine below_set ?_ GE1.out) | exact HB.out)⟩
set_option maxHeartbeats 8000000 in
set_option maxRecDepth 100000 in
theorem rr_C (a0_0 : Int) (a0_1 a0_2 a0_3 a0_4 : ByteArray) (a0_5 a0_6 a0_7 a0_8 a0_9 a0_10 a0_11 a0_12 : Int) (A0_13 : Option Addr) (c0_13 : Nat) (l0_13 : List Int) (w : World) (k_0 : Int) (k_1 k_2 k_3 k_4 : ByteArray) (k_5 k_6 k_7 k_8 k_9 k_10 k_11 k_12 : Int) (K13 : Option Addr) (n13 m13 : Nat) (Hi0 : Aside0 (∀ W, Calls Tryz.prog 24 #[.int .i64 a0_0, .int .i64 1, .int .i64 5] W fun e w' => e = .returned (.bool true) ∧ Drawn0 W w')) (HKp : Aside0 (∀ W, Below w.heap.size w W → Calls Tryz.prog 25 #[.agg #[.int .i64 a0_0, .string a0_1, .string a0_2, .string a0_3, .string a0_4, .int .i64 a0_5, .int .i64 a0_6, .int .i64 a0_7, .int .i64 a0_8, .int .i64 a0_9, .int .i64 a0_10, .int .i64 a0_11, .int .i64 a0_12, .slice A0_13 l0_13.length c0_13]] W fun e w' => e = .returned (.agg #[.int .i64 k_0, .string k_1, .string k_2, .string k_3, .string k_4, .int .i64 k_5, .int .i64 k_6, .int .i64 k_7, .int .i64 k_8, .int .i64 k_9, .int .i64 k_10, .int .i64 k_11, .int .i64 k_12, .slice K13 n13 m13]) ∧ Below W.heap.size W w')) (HSm : Aside0 (∀ W, Below w.heap.size w W → Calls Tryz.prog 14 #[.agg #[.int .i64 a0_0, .string a0_1, .string a0_2, .string a0_3, .string a0_4, .int .i64 a0_5, .int .i64 a0_6, .int .i64 a0_7, .int .i64 a0_8, .int .i64 a0_9, .int .i64 a0_10, .int .i64 a0_11, .int .i64 a0_12, .slice A0_13 l0_13.length c0_13], .agg #[.int .i64 k_0, .string k_1, .string k_2, .string k_3, .string k_4, .int .i64 k_5, .int .i64 k_6, .int .i64 k_7, .int .i64 k_8, .int .i64 k_9, .int .i64 k_10, .int .i64 k_11, .int .i64 k_12, .slice K13 n13 m13]] W fun e w' => e = .returned (.bool true) ∧ Below W.heap.size W w')) (Hv1 : Aside0 (∀ W, Calls Tryz.prog 26 #[.string a0_1] W fun e w' => e = .returned (.bool false) ∧ Below W.heap.size W w')) :
    Calls Tryz.prog 11 #[.agg #[.int .i64 a0_0, .string a0_1, .string a0_2, .string a0_3, .string a0_4, .int .i64 a0_5, .int .i64 a0_6, .int .i64 a0_7, .int .i64 a0_8, .int .i64 a0_9, .int .i64 a0_10, .int .i64 a0_11, .int .i64 a0_12, .slice A0_13 l0_13.length c0_13]] w fun e w' => e = .returned (.bool (false)) ∧ Below w.heap.size w w' := by
  have HB := Aside0.mk (Below.refl w.heap.size w)
  go_enter Tryz.func11, Tryz.ntmps11
  go_upto_region 1 with (first | ((with_reducible refine gate_dst (N := 1) rfl ?_); (try (refine gate_guard (by rfl) ?_; dsimp only)); refine box_event ?hg (N := 1) ?hd (cs := #[.int .i64 a0_0, .string a0_1, .string a0_2, .string a0_3, .string a0_4, .int .i64 a0_5, .int .i64 a0_6, .int .i64 a0_7, .int .i64 a0_8, .int .i64 a0_9, .int .i64 a0_10, .int .i64 a0_11, .int .i64 a0_12, .slice A0_13 l0_13.length c0_13]) (t := 32) ?hr ?_; (case hd => rfl); (case hg => rfl); (case hr => first | (go_simp; done) | (go_simp; rfl)); intro gb1 hg w1 hbox hb; have n0_ := Aside0.mk (below_step (by repeat (first | (with_reducible first | exact HB.out | apply below_alloc | apply pw_below_drewN | apply below_drew1) | exact HB.out)) hb); have n1_ := Aside0.mk (hbox); have n2_ := Aside0.mk ((by rw [hg]; exact (below_size (by repeat (first | (with_reducible first | exact HB.out | apply below_alloc | apply pw_below_drewN | apply below_drew1) | exact HB.out)))) : w.heap.size ≤ gb1); clear HB; have HB := n0_; have BK1 := n1_; have GE1 := n2_; clear n0_ n1_ n2_; clear hb hbox hg; (try clear hc hz); have hc := fun i => blk_cell BK1.out i; have hz := fun i => blk_frozen BK1.out i))
  clear hc hz
  have HL0 := Aside0.mk (below_drew1 HB.out)
  have BL0 := Aside0.mk (blk_drew BK1.out)
  refine start_ (n := 17) (S := fun w' => (∀ i, w'.cell? ⟨gb1, i, none⟩ = (#[.int .i64 a0_0, .string a0_1, .string a0_2, .string a0_3, .string a0_4, .int .i64 a0_5, .int .i64 a0_6, .int .i64 a0_7, .int .i64 a0_8, .int .i64 a0_9, .int .i64 a0_10, .int .i64 a0_11, .int .i64 a0_12, .slice A0_13 l0_13.length c0_13] : Array Value)[i]?) ∧ (gb1 < w'.heap.size)) (ds := []) #[false, false, false, false, false, false, false, false, false, false, false, false, false, false, false, false, false] (by kernel_rfl) rfl rfl ⟨(fun i => blk_cell BK1.out i), blk_lt BK1.out⟩ (fun hHeld => ?_)
  refine pure_ (i := 0) (N := some 5) (v := ?_) (a' := ?_) #[true, false, false, false, false, false, false, false, false, false, false, false, false, false, false, false, false] rfl rfl (by kernel_rfl) (fun _ _ _ h => h) (Or.inl ⟨by rfl, ?_⟩) ?_ ?_
  rotate_left
  · intro w'
    go_simp
    with_reducible rfl
  rotate_left
  · simp only [Act.put, List.setIfInBounds_toArray, List.set_cons_zero, List.set_cons_succ, i64_w, i32_w]
    rfl
  refine take_ (i := 1) (N := some 6) (v := ?_) (a' := ?_) #[true, true, false, false, false, false, false, false, false, false, false, false, false, false, false, false, false] rfl rfl (by kernel_rfl) (fun _ _ _ h => h) (Or.inl ⟨by rfl, ?_⟩) hHeld ?_ ?_
  rotate_left
  · rintro w' ⟨s0, s1⟩
    go_simp
    with_reducible rfl
  rotate_left
  · simp only [Act.put, List.setIfInBounds_toArray, List.set_cons_zero, List.set_cons_succ, i64_w, i32_w]
    rfl
  refine one_ (i := 2) (N := some 7) #[true, true, true, false, false, false, false, false, false, false, false, false, false, false, false, false, false] rfl rfl (by kernel_rfl) (by decide) (fun K hK => ?_)
  refine goes_ Tryz.func24 (by kernel_rfl) rfl #[.int .i64 a0_0, .int .i64 1, .int .i64 5] (by rfl) rfl rfl (by simp only [List.map_toArray, List.map_cons, List.map_nil]; rfl) ?_
  with_reducible refine (Hi0.out _).mono ?_
  rintro e2 v2 ⟨rfl, hd2⟩
  refine ⟨_, rfl, ?_⟩
  have hb2 := Drawn0.below hd2
  have HL2 := Aside0.mk (below_step HL0.out hb2)
  have BL2 := Aside0.mk (blk_below BL0.out hb2)
  refine hK.out _ _ ⟨(fun i => (hb2.cell (p := ⟨gb1, i, none⟩) hHeld.2).trans (hHeld.1 i)), (Nat.lt_of_lt_of_le hHeld.2 hb2.size)⟩ (fun hHeld => ?_)
  clear hK K
  refine norm_ (a' := ?_) ?_ ?_
  rotate_left
  · show Act.put _ (some 7) _ = _
    simp only [Act.put, List.setIfInBounds_toArray, List.set_cons_zero, List.set_cons_succ, i64_w, i32_w]
    rfl
  refine pure_ (i := 3) (N := some 8) (v := ?_) (a' := ?_) #[true, true, true, true, false, false, false, false, false, false, false, false, false, false, false, false, false] rfl rfl (by kernel_rfl) (fun _ _ _ h => h) (Or.inl ⟨by rfl, ?_⟩) ?_ ?_
  rotate_left
  · intro w'
    go_simp
    with_reducible rfl
  rotate_left
  · simp only [Act.put, List.setIfInBounds_toArray, List.set_cons_zero, List.set_cons_succ, i64_w, i32_w]
    rfl
  refine pure_ (i := 4) (N := some 9) (v := ?_) (a' := ?_) #[true, true, true, true, true, false, false, false, false, false, false, false, false, false, false, false, false] rfl rfl (by kernel_rfl) (fun _ _ _ h => h) (Or.inl ⟨by rfl, ?_⟩) ?_ ?_
  rotate_left
  · intro w'
    go_simp
    with_reducible rfl
  rotate_left
  · simp only [Act.put, List.setIfInBounds_toArray, List.set_cons_zero, List.set_cons_succ, i64_w, i32_w]
    rfl
  refine take_ (i := 5) (N := some 10) (v := ?_) (a' := ?_) #[true, true, true, true, true, true, false, false, false, false, false, false, false, false, false, false, false] rfl rfl (by kernel_rfl) (fun _ _ _ h => h) (Or.inl ⟨by rfl, ?_⟩) hHeld ?_ ?_
  rotate_left
  · rintro w' ⟨s0, s1⟩
    go_simp
    with_reducible rfl
  rotate_left
  · simp only [Act.put, List.setIfInBounds_toArray, List.set_cons_zero, List.set_cons_succ, i64_w, i32_w]
    rfl
  refine take_ (i := 6) (N := some 11) (v := ?_) (a' := ?_) #[true, true, true, true, true, true, true, false, false, false, false, false, false, false, false, false, false] rfl rfl (by kernel_rfl) (fun _ _ _ h => h) (Or.inl ⟨by rfl, ?_⟩) hHeld ?_ ?_
  rotate_left
  · rintro w' ⟨s0, s1⟩
    go_simp
    with_reducible rfl
  rotate_left
  · simp only [Act.put, List.setIfInBounds_toArray, List.set_cons_zero, List.set_cons_succ, i64_w, i32_w]
    rfl
  refine one_ (i := 7) (N := some 12) #[true, true, true, true, true, true, true, true, false, false, false, false, false, false, false, false, false] rfl rfl (by kernel_rfl) (by decide) (fun K hK => ?_)
  refine goes_ Tryz.func25 (by kernel_rfl) rfl #[.agg #[.int .i64 a0_0, .string a0_1, .string a0_2, .string a0_3, .string a0_4, .int .i64 a0_5, .int .i64 a0_6, .int .i64 a0_7, .int .i64 a0_8, .int .i64 a0_9, .int .i64 a0_10, .int .i64 a0_11, .int .i64 a0_12, .slice A0_13 l0_13.length c0_13]] (by rfl) rfl rfl (by simp only [List.map_toArray, List.map_cons, List.map_nil]; rfl) ?_
  with_reducible refine (HKp.out _ HL2.out).mono ?_
  rintro e3 v3 ⟨rfl, hb3⟩
  refine ⟨_, rfl, ?_⟩
  have HL3 := Aside0.mk (below_step HL2.out hb3)
  have BL3 := Aside0.mk (blk_below BL2.out hb3)
  refine hK.out _ _ ⟨(fun i => (hb3.cell (p := ⟨gb1, i, none⟩) hHeld.2).trans (hHeld.1 i)), (Nat.lt_of_lt_of_le hHeld.2 hb3.size)⟩ (fun hHeld => ?_)
  clear hK K
  refine norm_ (a' := ?_) ?_ ?_
  rotate_left
  · show Act.put _ (some 12) _ = _
    simp only [Act.put, List.setIfInBounds_toArray, List.set_cons_zero, List.set_cons_succ, i64_w, i32_w]
    rfl
  refine one_ (i := 8) (N := some 13) #[true, true, true, true, true, true, true, true, true, false, false, false, false, false, false, false, false] rfl rfl (by kernel_rfl) (by decide) (fun K hK => ?_)
  refine goes_ Tryz.func14 (by kernel_rfl) rfl #[.agg #[.int .i64 a0_0, .string a0_1, .string a0_2, .string a0_3, .string a0_4, .int .i64 a0_5, .int .i64 a0_6, .int .i64 a0_7, .int .i64 a0_8, .int .i64 a0_9, .int .i64 a0_10, .int .i64 a0_11, .int .i64 a0_12, .slice A0_13 l0_13.length c0_13], .agg #[.int .i64 k_0, .string k_1, .string k_2, .string k_3, .string k_4, .int .i64 k_5, .int .i64 k_6, .int .i64 k_7, .int .i64 k_8, .int .i64 k_9, .int .i64 k_10, .int .i64 k_11, .int .i64 k_12, .slice K13 n13 m13]] (by rfl) rfl rfl (by simp only [List.map_toArray, List.map_cons, List.map_nil]; rfl) ?_
  with_reducible refine (HSm.out _ HL3.out).mono ?_
  rintro e4 v4 ⟨rfl, hb4⟩
  refine ⟨_, rfl, ?_⟩
  have HL4 := Aside0.mk (below_step HL3.out hb4)
  have BL4 := Aside0.mk (blk_below BL3.out hb4)
  refine hK.out _ _ ⟨(fun i => (hb4.cell (p := ⟨gb1, i, none⟩) hHeld.2).trans (hHeld.1 i)), (Nat.lt_of_lt_of_le hHeld.2 hb4.size)⟩ (fun hHeld => ?_)
  clear hK K
  refine norm_ (a' := ?_) ?_ ?_
  rotate_left
  · show Act.put _ (some 13) _ = _
    simp only [Act.put, List.setIfInBounds_toArray, List.set_cons_zero, List.set_cons_succ, i64_w, i32_w]
    rfl
  refine pure_ (i := 9) (N := some 14) (v := ?_) (a' := ?_) #[true, true, true, true, true, true, true, true, true, true, false, false, false, false, false, false, false] rfl rfl (by kernel_rfl) (fun _ _ _ h => h) (Or.inl ⟨by rfl, ?_⟩) ?_ ?_
  rotate_left
  · intro w'
    go_simp
    with_reducible rfl
  rotate_left
  · simp only [Act.put, List.setIfInBounds_toArray, List.set_cons_zero, List.set_cons_succ, i64_w, i32_w]
    rfl
  refine pure_ (i := 10) (N := some 15) (v := ?_) (a' := ?_) #[true, true, true, true, true, true, true, true, true, true, true, false, false, false, false, false, false] rfl rfl (by kernel_rfl) (fun _ _ _ h => h) (Or.inl ⟨by rfl, ?_⟩) ?_ ?_
  rotate_left
  · intro w'
    go_simp
    with_reducible rfl
  rotate_left
  · simp only [Act.put, List.setIfInBounds_toArray, List.set_cons_zero, List.set_cons_succ, i64_w, i32_w]
    rfl
  refine pure_ (i := 11) (N := some 16) (v := ?_) (a' := ?_) #[true, true, true, true, true, true, true, true, true, true, true, true, false, false, false, false, false] rfl rfl (by kernel_rfl) (fun _ _ _ h => h) (Or.inl ⟨by rfl, ?_⟩) ?_ ?_
  rotate_left
  · intro w'
    go_simp
    with_reducible rfl
  rotate_left
  · simp only [Act.put, List.setIfInBounds_toArray, List.set_cons_zero, List.set_cons_succ, i64_w, i32_w]
    rfl
  refine pure_ (i := 12) (N := some 17) (v := ?_) (a' := ?_) #[true, true, true, true, true, true, true, true, true, true, true, true, true, false, false, false, false] rfl rfl (by kernel_rfl) (fun _ _ _ h => h) (Or.inl ⟨by rfl, ?_⟩) ?_ ?_
  rotate_left
  · intro w'
    go_simp
    with_reducible rfl
  rotate_left
  · simp only [Act.put, List.setIfInBounds_toArray, List.set_cons_zero, List.set_cons_succ, i64_w, i32_w]
    rfl
  refine take_ (i := 13) (N := some 18) (v := ?_) (a' := ?_) #[true, true, true, true, true, true, true, true, true, true, true, true, true, true, false, false, false] rfl rfl (by kernel_rfl) (fun _ _ _ h => h) (Or.inl ⟨by rfl, ?_⟩) hHeld ?_ ?_
  rotate_left
  · rintro w' ⟨s0, s1⟩
    go_simp
    with_reducible rfl
  rotate_left
  · simp only [Act.put, List.setIfInBounds_toArray, List.set_cons_zero, List.set_cons_succ, i64_w, i32_w]
    rfl
  refine one_ (i := 14) (N := some 19) #[true, true, true, true, true, true, true, true, true, true, true, true, true, true, true, false, false] rfl rfl (by kernel_rfl) (by decide) (fun K hK => ?_)
  refine goes_ Tryz.func26 (by kernel_rfl) rfl #[.string a0_1] (by rfl) rfl rfl (by simp only [List.map_toArray, List.map_cons, List.map_nil]; rfl) ?_
  with_reducible refine (Hv1.out _).mono ?_
  rintro e5 v5 ⟨rfl, hb5⟩
  refine ⟨_, rfl, ?_⟩
  have HL5 := Aside0.mk (below_step HL4.out hb5)
  have BL5 := Aside0.mk (blk_below BL4.out hb5)
  refine hK.out _ _ ⟨(fun i => (hb5.cell (p := ⟨gb1, i, none⟩) hHeld.2).trans (hHeld.1 i)), (Nat.lt_of_lt_of_le hHeld.2 hb5.size)⟩ (fun hHeld => ?_)
  clear hK K
  refine norm_ (a' := ?_) ?_ ?_
  rotate_left
  · show Act.put _ (some 19) _ = _
    simp only [Act.put, List.setIfInBounds_toArray, List.set_cons_zero, List.set_cons_succ, i64_w, i32_w]
    rfl
  refine pure_ (i := 15) (N := some 20) (v := ?_) (a' := ?_) #[true, true, true, true, true, true, true, true, true, true, true, true, true, true, true, true, false] rfl rfl (by kernel_rfl) (fun _ _ _ h => h) (Or.inl ⟨by rfl, ?_⟩) ?_ ?_
  rotate_left
  · intro w'
    go_simp
    with_reducible rfl
  rotate_left
  · simp only [Act.put, List.setIfInBounds_toArray, List.set_cons_zero, List.set_cons_succ, i64_w, i32_w]
    rfl
  refine pure_ (i := 16) (N := some 21) (v := ?_) (a' := ?_) #[true, true, true, true, true, true, true, true, true, true, true, true, true, true, true, true, true] rfl rfl (by kernel_rfl) (fun _ _ _ h => h) (Or.inl ⟨by rfl, ?_⟩) ?_ ?_
  rotate_left
  · intro w'
    go_simp
    with_reducible rfl
  rotate_left
  · simp only [Act.put, List.setIfInBounds_toArray, List.set_cons_zero, List.set_cons_succ, i64_w, i32_w]
    rfl
  refine done_ (by kernel_rfl) ?_
  clear HB BK1
  have HB := HL5
  have BK1 := BL5
  have hc := fun i => blk_cell BK1.out i
  have hz := fun i => blk_frozen BK1.out i
  go_wp2
  go_ret
  exact ⟨by first | rfl | (simp; done) | (simp [*]; done), by repeat (first | (with_reducible first | exact HB.out | apply below_alloc | apply pw_below_drewN | apply below_drew1 | refine below_set ?_ GE1.out) | exact HB.out)⟩
set_option maxHeartbeats 8000000 in
set_option maxRecDepth 100000 in
theorem rr_n (a0_0 : Int) (a0_1 a0_2 a0_3 a0_4 : ByteArray) (a0_5 a0_6 a0_7 a0_8 a0_9 a0_10 a0_11 a0_12 : Int) (A0_13 : Option Addr) (c0_13 : Nat) (l0_13 : List Int) (w : World) (k_0 : Int) (k_1 k_2 k_3 k_4 : ByteArray) (k_5 k_6 k_7 k_8 k_9 k_10 k_11 k_12 : Int) (K13 : Option Addr) (n13 m13 : Nat) (Hi0 : Aside0 (∀ W, Calls Tryz.prog 24 #[.int .i64 a0_0, .int .i64 1, .int .i64 5] W fun e w' => e = .returned (.bool true) ∧ Drawn0 W w')) (HKp : Aside0 (∀ W, Below w.heap.size w W → Calls Tryz.prog 25 #[.agg #[.int .i64 a0_0, .string a0_1, .string a0_2, .string a0_3, .string a0_4, .int .i64 a0_5, .int .i64 a0_6, .int .i64 a0_7, .int .i64 a0_8, .int .i64 a0_9, .int .i64 a0_10, .int .i64 a0_11, .int .i64 a0_12, .slice A0_13 l0_13.length c0_13]] W fun e w' => e = .returned (.agg #[.int .i64 k_0, .string k_1, .string k_2, .string k_3, .string k_4, .int .i64 k_5, .int .i64 k_6, .int .i64 k_7, .int .i64 k_8, .int .i64 k_9, .int .i64 k_10, .int .i64 k_11, .int .i64 k_12, .slice K13 n13 m13]) ∧ Below W.heap.size W w')) (HSm : Aside0 (∀ W, Below w.heap.size w W → Calls Tryz.prog 14 #[.agg #[.int .i64 a0_0, .string a0_1, .string a0_2, .string a0_3, .string a0_4, .int .i64 a0_5, .int .i64 a0_6, .int .i64 a0_7, .int .i64 a0_8, .int .i64 a0_9, .int .i64 a0_10, .int .i64 a0_11, .int .i64 a0_12, .slice A0_13 l0_13.length c0_13], .agg #[.int .i64 k_0, .string k_1, .string k_2, .string k_3, .string k_4, .int .i64 k_5, .int .i64 k_6, .int .i64 k_7, .int .i64 k_8, .int .i64 k_9, .int .i64 k_10, .int .i64 k_11, .int .i64 k_12, .slice K13 n13 m13]] W fun e w' => e = .returned (.bool true) ∧ Below W.heap.size W w')) (Hv1 : Aside0 (∀ W, Calls Tryz.prog 26 #[.string a0_1] W fun e w' => e = .returned (.bool true) ∧ Below W.heap.size W w')) (vt iq ip ie q3 : Bool) (f01 : (a0_0 == 1) = false) (f0n : (a0_0 != 1) = true) (f03 : (a0_0 == 3) = q3) (Hv2 : Aside0 (∀ W, Calls Tryz.prog 26 #[.string a0_2] W fun e w' => e = .returned (.bool vt) ∧ Below W.heap.size W w')) (Hiq : Aside0 (∀ W, Calls Tryz.prog 24 #[.int .i64 a0_6, .int .i64 1, .int .i64 1099511627776] W fun e w' => e = .returned (.bool iq) ∧ Drawn0 W w')) (Hip : Aside0 (∀ W, Calls Tryz.prog 24 #[.int .i64 a0_7, .int .i64 1, .int .i64 1099511627776] W fun e w' => e = .returned (.bool ip) ∧ Drawn0 W w')) (Hie : Aside0 (∀ W, Calls Tryz.prog 24 #[.int .i64 a0_10, .int .i64 0, .int .i64 1099511627776] W fun e w' => e = .returned (.bool ie) ∧ Drawn0 W w')) :
    Calls Tryz.prog 11 #[.agg #[.int .i64 a0_0, .string a0_1, .string a0_2, .string a0_3, .string a0_4, .int .i64 a0_5, .int .i64 a0_6, .int .i64 a0_7, .int .i64 a0_8, .int .i64 a0_9, .int .i64 a0_10, .int .i64 a0_11, .int .i64 a0_12, .slice A0_13 l0_13.length c0_13]] w fun e w' => e = .returned (.bool (vt && (!q3 || (iq && (ip && ie))))) ∧ Below w.heap.size w w' := by
  have HB := Aside0.mk (Below.refl w.heap.size w)
  go_enter Tryz.func11, Tryz.ntmps11
  go_upto_region 1 with (first | ((with_reducible refine gate_dst (N := 1) rfl ?_); (try (refine gate_guard (by rfl) ?_; dsimp only)); refine box_event ?hg (N := 1) ?hd (cs := #[.int .i64 a0_0, .string a0_1, .string a0_2, .string a0_3, .string a0_4, .int .i64 a0_5, .int .i64 a0_6, .int .i64 a0_7, .int .i64 a0_8, .int .i64 a0_9, .int .i64 a0_10, .int .i64 a0_11, .int .i64 a0_12, .slice A0_13 l0_13.length c0_13]) (t := 32) ?hr ?_; (case hd => rfl); (case hg => rfl); (case hr => first | (go_simp; done) | (go_simp; rfl)); intro gb1 hg w1 hbox hb; have n0_ := Aside0.mk (below_step (by repeat (first | (with_reducible first | exact HB.out | apply below_alloc | apply pw_below_drewN | apply below_drew1) | exact HB.out)) hb); have n1_ := Aside0.mk (hbox); have n2_ := Aside0.mk ((by rw [hg]; exact (below_size (by repeat (first | (with_reducible first | exact HB.out | apply below_alloc | apply pw_below_drewN | apply below_drew1) | exact HB.out)))) : w.heap.size ≤ gb1); clear HB; have HB := n0_; have BK1 := n1_; have GE1 := n2_; clear n0_ n1_ n2_; clear hb hbox hg; (try clear hc hz); have hc := fun i => blk_cell BK1.out i; have hz := fun i => blk_frozen BK1.out i))
  clear hc hz
  have HL0 := Aside0.mk (below_drew1 HB.out)
  have BL0 := Aside0.mk (blk_drew BK1.out)
  refine start_ (n := 17) (S := fun w' => (∀ i, w'.cell? ⟨gb1, i, none⟩ = (#[.int .i64 a0_0, .string a0_1, .string a0_2, .string a0_3, .string a0_4, .int .i64 a0_5, .int .i64 a0_6, .int .i64 a0_7, .int .i64 a0_8, .int .i64 a0_9, .int .i64 a0_10, .int .i64 a0_11, .int .i64 a0_12, .slice A0_13 l0_13.length c0_13] : Array Value)[i]?) ∧ (gb1 < w'.heap.size)) (ds := []) #[false, false, false, false, false, false, false, false, false, false, false, false, false, false, false, false, false] (by kernel_rfl) rfl rfl ⟨(fun i => blk_cell BK1.out i), blk_lt BK1.out⟩ (fun hHeld => ?_)
  refine pure_ (i := 0) (N := some 5) (v := ?_) (a' := ?_) #[true, false, false, false, false, false, false, false, false, false, false, false, false, false, false, false, false] rfl rfl (by kernel_rfl) (fun _ _ _ h => h) (Or.inl ⟨by rfl, ?_⟩) ?_ ?_
  rotate_left
  · intro w'
    go_simp
    with_reducible rfl
  rotate_left
  · simp only [Act.put, List.setIfInBounds_toArray, List.set_cons_zero, List.set_cons_succ, i64_w, i32_w]
    rfl
  refine take_ (i := 1) (N := some 6) (v := ?_) (a' := ?_) #[true, true, false, false, false, false, false, false, false, false, false, false, false, false, false, false, false] rfl rfl (by kernel_rfl) (fun _ _ _ h => h) (Or.inl ⟨by rfl, ?_⟩) hHeld ?_ ?_
  rotate_left
  · rintro w' ⟨s0, s1⟩
    go_simp
    with_reducible rfl
  rotate_left
  · simp only [Act.put, List.setIfInBounds_toArray, List.set_cons_zero, List.set_cons_succ, i64_w, i32_w]
    rfl
  refine one_ (i := 2) (N := some 7) #[true, true, true, false, false, false, false, false, false, false, false, false, false, false, false, false, false] rfl rfl (by kernel_rfl) (by decide) (fun K hK => ?_)
  refine goes_ Tryz.func24 (by kernel_rfl) rfl #[.int .i64 a0_0, .int .i64 1, .int .i64 5] (by rfl) rfl rfl (by simp only [List.map_toArray, List.map_cons, List.map_nil]; rfl) ?_
  with_reducible refine (Hi0.out _).mono ?_
  rintro e2 v2 ⟨rfl, hd2⟩
  refine ⟨_, rfl, ?_⟩
  have hb2 := Drawn0.below hd2
  have HL2 := Aside0.mk (below_step HL0.out hb2)
  have BL2 := Aside0.mk (blk_below BL0.out hb2)
  refine hK.out _ _ ⟨(fun i => (hb2.cell (p := ⟨gb1, i, none⟩) hHeld.2).trans (hHeld.1 i)), (Nat.lt_of_lt_of_le hHeld.2 hb2.size)⟩ (fun hHeld => ?_)
  clear hK K
  refine norm_ (a' := ?_) ?_ ?_
  rotate_left
  · show Act.put _ (some 7) _ = _
    simp only [Act.put, List.setIfInBounds_toArray, List.set_cons_zero, List.set_cons_succ, i64_w, i32_w]
    rfl
  refine pure_ (i := 3) (N := some 8) (v := ?_) (a' := ?_) #[true, true, true, true, false, false, false, false, false, false, false, false, false, false, false, false, false] rfl rfl (by kernel_rfl) (fun _ _ _ h => h) (Or.inl ⟨by rfl, ?_⟩) ?_ ?_
  rotate_left
  · intro w'
    go_simp
    with_reducible rfl
  rotate_left
  · simp only [Act.put, List.setIfInBounds_toArray, List.set_cons_zero, List.set_cons_succ, i64_w, i32_w]
    rfl
  refine pure_ (i := 4) (N := some 9) (v := ?_) (a' := ?_) #[true, true, true, true, true, false, false, false, false, false, false, false, false, false, false, false, false] rfl rfl (by kernel_rfl) (fun _ _ _ h => h) (Or.inl ⟨by rfl, ?_⟩) ?_ ?_
  rotate_left
  · intro w'
    go_simp
    with_reducible rfl
  rotate_left
  · simp only [Act.put, List.setIfInBounds_toArray, List.set_cons_zero, List.set_cons_succ, i64_w, i32_w]
    rfl
  refine take_ (i := 5) (N := some 10) (v := ?_) (a' := ?_) #[true, true, true, true, true, true, false, false, false, false, false, false, false, false, false, false, false] rfl rfl (by kernel_rfl) (fun _ _ _ h => h) (Or.inl ⟨by rfl, ?_⟩) hHeld ?_ ?_
  rotate_left
  · rintro w' ⟨s0, s1⟩
    go_simp
    with_reducible rfl
  rotate_left
  · simp only [Act.put, List.setIfInBounds_toArray, List.set_cons_zero, List.set_cons_succ, i64_w, i32_w]
    rfl
  refine take_ (i := 6) (N := some 11) (v := ?_) (a' := ?_) #[true, true, true, true, true, true, true, false, false, false, false, false, false, false, false, false, false] rfl rfl (by kernel_rfl) (fun _ _ _ h => h) (Or.inl ⟨by rfl, ?_⟩) hHeld ?_ ?_
  rotate_left
  · rintro w' ⟨s0, s1⟩
    go_simp
    with_reducible rfl
  rotate_left
  · simp only [Act.put, List.setIfInBounds_toArray, List.set_cons_zero, List.set_cons_succ, i64_w, i32_w]
    rfl
  refine one_ (i := 7) (N := some 12) #[true, true, true, true, true, true, true, true, false, false, false, false, false, false, false, false, false] rfl rfl (by kernel_rfl) (by decide) (fun K hK => ?_)
  refine goes_ Tryz.func25 (by kernel_rfl) rfl #[.agg #[.int .i64 a0_0, .string a0_1, .string a0_2, .string a0_3, .string a0_4, .int .i64 a0_5, .int .i64 a0_6, .int .i64 a0_7, .int .i64 a0_8, .int .i64 a0_9, .int .i64 a0_10, .int .i64 a0_11, .int .i64 a0_12, .slice A0_13 l0_13.length c0_13]] (by rfl) rfl rfl (by simp only [List.map_toArray, List.map_cons, List.map_nil]; rfl) ?_
  with_reducible refine (HKp.out _ HL2.out).mono ?_
  rintro e3 v3 ⟨rfl, hb3⟩
  refine ⟨_, rfl, ?_⟩
  have HL3 := Aside0.mk (below_step HL2.out hb3)
  have BL3 := Aside0.mk (blk_below BL2.out hb3)
  refine hK.out _ _ ⟨(fun i => (hb3.cell (p := ⟨gb1, i, none⟩) hHeld.2).trans (hHeld.1 i)), (Nat.lt_of_lt_of_le hHeld.2 hb3.size)⟩ (fun hHeld => ?_)
  clear hK K
  refine norm_ (a' := ?_) ?_ ?_
  rotate_left
  · show Act.put _ (some 12) _ = _
    simp only [Act.put, List.setIfInBounds_toArray, List.set_cons_zero, List.set_cons_succ, i64_w, i32_w]
    rfl
  refine one_ (i := 8) (N := some 13) #[true, true, true, true, true, true, true, true, true, false, false, false, false, false, false, false, false] rfl rfl (by kernel_rfl) (by decide) (fun K hK => ?_)
  refine goes_ Tryz.func14 (by kernel_rfl) rfl #[.agg #[.int .i64 a0_0, .string a0_1, .string a0_2, .string a0_3, .string a0_4, .int .i64 a0_5, .int .i64 a0_6, .int .i64 a0_7, .int .i64 a0_8, .int .i64 a0_9, .int .i64 a0_10, .int .i64 a0_11, .int .i64 a0_12, .slice A0_13 l0_13.length c0_13], .agg #[.int .i64 k_0, .string k_1, .string k_2, .string k_3, .string k_4, .int .i64 k_5, .int .i64 k_6, .int .i64 k_7, .int .i64 k_8, .int .i64 k_9, .int .i64 k_10, .int .i64 k_11, .int .i64 k_12, .slice K13 n13 m13]] (by rfl) rfl rfl (by simp only [List.map_toArray, List.map_cons, List.map_nil]; rfl) ?_
  with_reducible refine (HSm.out _ HL3.out).mono ?_
  rintro e4 v4 ⟨rfl, hb4⟩
  refine ⟨_, rfl, ?_⟩
  have HL4 := Aside0.mk (below_step HL3.out hb4)
  have BL4 := Aside0.mk (blk_below BL3.out hb4)
  refine hK.out _ _ ⟨(fun i => (hb4.cell (p := ⟨gb1, i, none⟩) hHeld.2).trans (hHeld.1 i)), (Nat.lt_of_lt_of_le hHeld.2 hb4.size)⟩ (fun hHeld => ?_)
  clear hK K
  refine norm_ (a' := ?_) ?_ ?_
  rotate_left
  · show Act.put _ (some 13) _ = _
    simp only [Act.put, List.setIfInBounds_toArray, List.set_cons_zero, List.set_cons_succ, i64_w, i32_w]
    rfl
  refine pure_ (i := 9) (N := some 14) (v := ?_) (a' := ?_) #[true, true, true, true, true, true, true, true, true, true, false, false, false, false, false, false, false] rfl rfl (by kernel_rfl) (fun _ _ _ h => h) (Or.inl ⟨by rfl, ?_⟩) ?_ ?_
  rotate_left
  · intro w'
    go_simp
    with_reducible rfl
  rotate_left
  · simp only [Act.put, List.setIfInBounds_toArray, List.set_cons_zero, List.set_cons_succ, i64_w, i32_w]
    rfl
  refine pure_ (i := 10) (N := some 15) (v := ?_) (a' := ?_) #[true, true, true, true, true, true, true, true, true, true, true, false, false, false, false, false, false] rfl rfl (by kernel_rfl) (fun _ _ _ h => h) (Or.inl ⟨by rfl, ?_⟩) ?_ ?_
  rotate_left
  · intro w'
    go_simp
    with_reducible rfl
  rotate_left
  · simp only [Act.put, List.setIfInBounds_toArray, List.set_cons_zero, List.set_cons_succ, i64_w, i32_w]
    rfl
  refine pure_ (i := 11) (N := some 16) (v := ?_) (a' := ?_) #[true, true, true, true, true, true, true, true, true, true, true, true, false, false, false, false, false] rfl rfl (by kernel_rfl) (fun _ _ _ h => h) (Or.inl ⟨by rfl, ?_⟩) ?_ ?_
  rotate_left
  · intro w'
    go_simp
    with_reducible rfl
  rotate_left
  · simp only [Act.put, List.setIfInBounds_toArray, List.set_cons_zero, List.set_cons_succ, i64_w, i32_w]
    rfl
  refine pure_ (i := 12) (N := some 17) (v := ?_) (a' := ?_) #[true, true, true, true, true, true, true, true, true, true, true, true, true, false, false, false, false] rfl rfl (by kernel_rfl) (fun _ _ _ h => h) (Or.inl ⟨by rfl, ?_⟩) ?_ ?_
  rotate_left
  · intro w'
    go_simp
    with_reducible rfl
  rotate_left
  · simp only [Act.put, List.setIfInBounds_toArray, List.set_cons_zero, List.set_cons_succ, i64_w, i32_w]
    rfl
  refine take_ (i := 13) (N := some 18) (v := ?_) (a' := ?_) #[true, true, true, true, true, true, true, true, true, true, true, true, true, true, false, false, false] rfl rfl (by kernel_rfl) (fun _ _ _ h => h) (Or.inl ⟨by rfl, ?_⟩) hHeld ?_ ?_
  rotate_left
  · rintro w' ⟨s0, s1⟩
    go_simp
    with_reducible rfl
  rotate_left
  · simp only [Act.put, List.setIfInBounds_toArray, List.set_cons_zero, List.set_cons_succ, i64_w, i32_w]
    rfl
  refine one_ (i := 14) (N := some 19) #[true, true, true, true, true, true, true, true, true, true, true, true, true, true, true, false, false] rfl rfl (by kernel_rfl) (by decide) (fun K hK => ?_)
  refine goes_ Tryz.func26 (by kernel_rfl) rfl #[.string a0_1] (by rfl) rfl rfl (by simp only [List.map_toArray, List.map_cons, List.map_nil]; rfl) ?_
  with_reducible refine (Hv1.out _).mono ?_
  rintro e5 v5 ⟨rfl, hb5⟩
  refine ⟨_, rfl, ?_⟩
  have HL5 := Aside0.mk (below_step HL4.out hb5)
  have BL5 := Aside0.mk (blk_below BL4.out hb5)
  refine hK.out _ _ ⟨(fun i => (hb5.cell (p := ⟨gb1, i, none⟩) hHeld.2).trans (hHeld.1 i)), (Nat.lt_of_lt_of_le hHeld.2 hb5.size)⟩ (fun hHeld => ?_)
  clear hK K
  refine norm_ (a' := ?_) ?_ ?_
  rotate_left
  · show Act.put _ (some 19) _ = _
    simp only [Act.put, List.setIfInBounds_toArray, List.set_cons_zero, List.set_cons_succ, i64_w, i32_w]
    rfl
  refine pure_ (i := 15) (N := some 20) (v := ?_) (a' := ?_) #[true, true, true, true, true, true, true, true, true, true, true, true, true, true, true, true, false] rfl rfl (by kernel_rfl) (fun _ _ _ h => h) (Or.inl ⟨by rfl, ?_⟩) ?_ ?_
  rotate_left
  · intro w'
    go_simp
    with_reducible rfl
  rotate_left
  · simp only [Act.put, List.setIfInBounds_toArray, List.set_cons_zero, List.set_cons_succ, i64_w, i32_w]
    rfl
  refine pure_ (i := 16) (N := some 21) (v := ?_) (a' := ?_) #[true, true, true, true, true, true, true, true, true, true, true, true, true, true, true, true, true] rfl rfl (by kernel_rfl) (fun _ _ _ h => h) (Or.inl ⟨by rfl, ?_⟩) ?_ ?_
  rotate_left
  · intro w'
    go_simp
    with_reducible rfl
  rotate_left
  · simp only [Act.put, List.setIfInBounds_toArray, List.set_cons_zero, List.set_cons_succ, i64_w, i32_w]
    rfl
  refine done_ (by kernel_rfl) ?_
  clear HB BK1
  have HB := HL5
  have BK1 := BL5
  have hc := fun i => blk_cell BK1.out i
  have hz := fun i => blk_frozen BK1.out i
  cases vt; rotate_left; cases q3; rotate_left; cases iq; rotate_left; cases ip; rotate_left; cases ie
  all_goals
    go_wp2_with (first | ((with_reducible refine gate_callee (f := 26) rfl ?_); refine goesL_ _ rfl rfl Tryz.func26 (by kernel_rfl) rfl #[.string a0_2] rfl (by (try simp only [List.map_toArray, List.map_cons, List.map_nil]); first | done | rfl | (simp only [List.length_drop, List.length_take]; rfl)) ?_; (with_reducible refine (Hv2.out _).mono ?_); rintro e y1 ⟨rfl, hb⟩; refine ⟨_, rfl, ?_⟩; have n0_ := Aside0.mk (blk_below (by (with_reducible repeat (first | refine blk_drewN ?_ _ | refine blk_drew ?_ | refine blk_alloc ?_ _)); exact BK1.out) hb); have n1_ := Aside0.mk (below_step (by repeat (first | (with_reducible first | exact HB.out | apply below_alloc | apply pw_below_drewN | apply below_drew1 | refine below_set ?_ GE1.out) | exact HB.out)) hb); clear BK1; clear HB; have BK1 := n0_; have HB := n1_; clear n0_ n1_; clear hb; (try clear hc hz); have hc := fun i => blk_cell BK1.out i; have hz := fun i => blk_frozen BK1.out i) | (go_at_call 26; (with_reducible refine (Hv2.out _).mono ?_); rintro e y1 ⟨rfl, hb⟩; have n0_ := Aside0.mk (blk_below (by (with_reducible repeat (first | refine blk_drewN ?_ _ | refine blk_drew ?_ | refine blk_alloc ?_ _)); exact BK1.out) hb); have n1_ := Aside0.mk (below_step (by repeat (first | (with_reducible first | exact HB.out | apply below_alloc | apply pw_below_drewN | apply below_drew1 | refine below_set ?_ GE1.out) | exact HB.out)) hb); clear BK1; clear HB; have BK1 := n0_; have HB := n1_; clear n0_ n1_; clear hb; (try clear hc hz); have hc := fun i => blk_cell BK1.out i; have hz := fun i => blk_frozen BK1.out i) | ((with_reducible refine gate_callee (f := 24) rfl ?_); refine goesL_ _ rfl rfl Tryz.func24 (by kernel_rfl) rfl #[.int .i64 a0_6, .int .i64 1, .int .i64 1099511627776] rfl (by (try simp only [List.map_toArray, List.map_cons, List.map_nil]); first | done | rfl | (simp only [List.length_drop, List.length_take]; rfl)) ?_; (with_reducible refine (Hiq.out _).mono ?_); rintro e y20 ⟨rfl, hd⟩; refine ⟨_, rfl, ?_⟩; have hb := Drawn0.below hd; clear hd; have n0_ := Aside0.mk (blk_below (by (with_reducible repeat (first | refine blk_drewN ?_ _ | refine blk_drew ?_ | refine blk_alloc ?_ _)); exact BK1.out) hb); have n1_ := Aside0.mk (below_step (by repeat (first | (with_reducible first | exact HB.out | apply below_alloc | apply pw_below_drewN | apply below_drew1 | refine below_set ?_ GE1.out) | exact HB.out)) hb); clear BK1; clear HB; have BK1 := n0_; have HB := n1_; clear n0_ n1_; clear hb; (try clear hc hz); have hc := fun i => blk_cell BK1.out i; have hz := fun i => blk_frozen BK1.out i) | (go_at_call 24; (with_reducible refine (Hiq.out _).mono ?_); rintro e y20 ⟨rfl, hd⟩; have hb := Drawn0.below hd; clear hd; have n0_ := Aside0.mk (blk_below (by (with_reducible repeat (first | refine blk_drewN ?_ _ | refine blk_drew ?_ | refine blk_alloc ?_ _)); exact BK1.out) hb); have n1_ := Aside0.mk (below_step (by repeat (first | (with_reducible first | exact HB.out | apply below_alloc | apply pw_below_drewN | apply below_drew1 | refine below_set ?_ GE1.out) | exact HB.out)) hb); clear BK1; clear HB; have BK1 := n0_; have HB := n1_; clear n0_ n1_; clear hb; (try clear hc hz); have hc := fun i => blk_cell BK1.out i; have hz := fun i => blk_frozen BK1.out i) | ((with_reducible refine gate_callee (f := 24) rfl ?_); refine goesL_ _ rfl rfl Tryz.func24 (by kernel_rfl) rfl #[.int .i64 a0_7, .int .i64 1, .int .i64 1099511627776] rfl (by (try simp only [List.map_toArray, List.map_cons, List.map_nil]); first | done | rfl | (simp only [List.length_drop, List.length_take]; rfl)) ?_; (with_reducible refine (Hip.out _).mono ?_); rintro e y21 ⟨rfl, hd⟩; refine ⟨_, rfl, ?_⟩; have hb := Drawn0.below hd; clear hd; have n0_ := Aside0.mk (blk_below (by (with_reducible repeat (first | refine blk_drewN ?_ _ | refine blk_drew ?_ | refine blk_alloc ?_ _)); exact BK1.out) hb); have n1_ := Aside0.mk (below_step (by repeat (first | (with_reducible first | exact HB.out | apply below_alloc | apply pw_below_drewN | apply below_drew1 | refine below_set ?_ GE1.out) | exact HB.out)) hb); clear BK1; clear HB; have BK1 := n0_; have HB := n1_; clear n0_ n1_; clear hb; (try clear hc hz); have hc := fun i => blk_cell BK1.out i; have hz := fun i => blk_frozen BK1.out i) | (go_at_call 24; (with_reducible refine (Hip.out _).mono ?_); rintro e y21 ⟨rfl, hd⟩; have hb := Drawn0.below hd; clear hd; have n0_ := Aside0.mk (blk_below (by (with_reducible repeat (first | refine blk_drewN ?_ _ | refine blk_drew ?_ | refine blk_alloc ?_ _)); exact BK1.out) hb); have n1_ := Aside0.mk (below_step (by repeat (first | (with_reducible first | exact HB.out | apply below_alloc | apply pw_below_drewN | apply below_drew1 | refine below_set ?_ GE1.out) | exact HB.out)) hb); clear BK1; clear HB; have BK1 := n0_; have HB := n1_; clear n0_ n1_; clear hb; (try clear hc hz); have hc := fun i => blk_cell BK1.out i; have hz := fun i => blk_frozen BK1.out i) | ((with_reducible refine gate_callee (f := 24) rfl ?_); refine goesL_ _ rfl rfl Tryz.func24 (by kernel_rfl) rfl #[.int .i64 a0_10, .int .i64 0, .int .i64 1099511627776] rfl (by (try simp only [List.map_toArray, List.map_cons, List.map_nil]); first | done | rfl | (simp only [List.length_drop, List.length_take]; rfl)) ?_; (with_reducible refine (Hie.out _).mono ?_); rintro e y22 ⟨rfl, hd⟩; refine ⟨_, rfl, ?_⟩; have hb := Drawn0.below hd; clear hd; have n0_ := Aside0.mk (blk_below (by (with_reducible repeat (first | refine blk_drewN ?_ _ | refine blk_drew ?_ | refine blk_alloc ?_ _)); exact BK1.out) hb); have n1_ := Aside0.mk (below_step (by repeat (first | (with_reducible first | exact HB.out | apply below_alloc | apply pw_below_drewN | apply below_drew1 | refine below_set ?_ GE1.out) | exact HB.out)) hb); clear BK1; clear HB; have BK1 := n0_; have HB := n1_; clear n0_ n1_; clear hb; (try clear hc hz); have hc := fun i => blk_cell BK1.out i; have hz := fun i => blk_frozen BK1.out i) | (go_at_call 24; (with_reducible refine (Hie.out _).mono ?_); rintro e y22 ⟨rfl, hd⟩; have hb := Drawn0.below hd; clear hd; have n0_ := Aside0.mk (blk_below (by (with_reducible repeat (first | refine blk_drewN ?_ _ | refine blk_drew ?_ | refine blk_alloc ?_ _)); exact BK1.out) hb); have n1_ := Aside0.mk (below_step (by repeat (first | (with_reducible first | exact HB.out | apply below_alloc | apply pw_below_drewN | apply below_drew1 | refine below_set ?_ GE1.out) | exact HB.out)) hb); clear BK1; clear HB; have BK1 := n0_; have HB := n1_; clear n0_ n1_; clear hb; (try clear hc hz); have hc := fun i => blk_cell BK1.out i; have hz := fun i => blk_frozen BK1.out i))
    go_ret
    exact ⟨by first | rfl | (simp; done) | (simp [*]; done), by repeat (first | (with_reducible first | exact HB.out | apply below_alloc | apply pw_below_drewN | apply below_drew1 | refine below_set ?_ GE1.out) | exact HB.out)⟩
set_option maxHeartbeats 8000000 in
set_option maxRecDepth 100000 in
theorem rr_y (a0_0 : Int) (a0_1 a0_2 a0_3 a0_4 : ByteArray) (a0_5 a0_6 a0_7 a0_8 a0_9 a0_10 a0_11 a0_12 : Int) (A0_13 : Option Addr) (c0_13 : Nat) (l0_13 : List Int) (w : World) (k_0 : Int) (k_1 k_2 k_3 k_4 : ByteArray) (k_5 k_6 k_7 k_8 k_9 k_10 k_11 k_12 : Int) (K13 : Option Addr) (n13 m13 : Nat) (Hi0 : Aside0 (∀ W, Calls Tryz.prog 24 #[.int .i64 a0_0, .int .i64 1, .int .i64 5] W fun e w' => e = .returned (.bool true) ∧ Drawn0 W w')) (HKp : Aside0 (∀ W, Below w.heap.size w W → Calls Tryz.prog 25 #[.agg #[.int .i64 a0_0, .string a0_1, .string a0_2, .string a0_3, .string a0_4, .int .i64 a0_5, .int .i64 a0_6, .int .i64 a0_7, .int .i64 a0_8, .int .i64 a0_9, .int .i64 a0_10, .int .i64 a0_11, .int .i64 a0_12, .slice A0_13 l0_13.length c0_13]] W fun e w' => e = .returned (.agg #[.int .i64 k_0, .string k_1, .string k_2, .string k_3, .string k_4, .int .i64 k_5, .int .i64 k_6, .int .i64 k_7, .int .i64 k_8, .int .i64 k_9, .int .i64 k_10, .int .i64 k_11, .int .i64 k_12, .slice K13 n13 m13]) ∧ Below W.heap.size W w')) (HSm : Aside0 (∀ W, Below w.heap.size w W → Calls Tryz.prog 14 #[.agg #[.int .i64 a0_0, .string a0_1, .string a0_2, .string a0_3, .string a0_4, .int .i64 a0_5, .int .i64 a0_6, .int .i64 a0_7, .int .i64 a0_8, .int .i64 a0_9, .int .i64 a0_10, .int .i64 a0_11, .int .i64 a0_12, .slice A0_13 l0_13.length c0_13], .agg #[.int .i64 k_0, .string k_1, .string k_2, .string k_3, .string k_4, .int .i64 k_5, .int .i64 k_6, .int .i64 k_7, .int .i64 k_8, .int .i64 k_9, .int .i64 k_10, .int .i64 k_11, .int .i64 k_12, .slice K13 n13 m13]] W fun e w' => e = .returned (.bool true) ∧ Below W.heap.size W w')) (Hv1 : Aside0 (∀ W, Calls Tryz.prog 26 #[.string a0_1] W fun e w' => e = .returned (.bool true) ∧ Below W.heap.size W w')) (iq ip ie va vs isd ial ist ir ish bw g3 g4 : Bool) (f01 : (a0_0 == 1) = true) (f0n : (a0_0 != 1) = false) (f83 : (a0_8 == 3) = g3) (f84 : (a0_8 == 4) = g4) (Hiq : Aside0 (∀ W, Calls Tryz.prog 24 #[.int .i64 a0_6, .int .i64 1, .int .i64 1099511627776] W fun e w' => e = .returned (.bool iq) ∧ Drawn0 W w')) (Hip : Aside0 (∀ W, Calls Tryz.prog 24 #[.int .i64 a0_7, .int .i64 1, .int .i64 1099511627776] W fun e w' => e = .returned (.bool ip) ∧ Drawn0 W w')) (Hie : Aside0 (∀ W, Calls Tryz.prog 24 #[.int .i64 a0_10, .int .i64 0, .int .i64 1099511627776] W fun e w' => e = .returned (.bool ie) ∧ Drawn0 W w')) (Hisd : Aside0 (∀ W, Calls Tryz.prog 24 #[.int .i64 a0_5, .int .i64 1, .int .i64 2] W fun e w' => e = .returned (.bool isd) ∧ Drawn0 W w')) (Hial : Aside0 (∀ W, Calls Tryz.prog 24 #[.int .i64 a0_8, .int .i64 1, .int .i64 4] W fun e w' => e = .returned (.bool ial) ∧ Drawn0 W w')) (Hist : Aside0 (∀ W, Calls Tryz.prog 24 #[.int .i64 a0_9, .int .i64 0, .int .i64 1099511627776] W fun e w' => e = .returned (.bool ist) ∧ Drawn0 W w')) (Hir : Aside0 (∀ W, Calls Tryz.prog 24 #[.int .i64 a0_11, .int .i64 1, .int .i64 10000] W fun e w' => e = .returned (.bool ir) ∧ Drawn0 W w')) (Hish : Aside0 (∀ W, Calls Tryz.prog 24 #[.int .i64 a0_12, .int .i64 1, .int .i64 1099511627776] W fun e w' => e = .returned (.bool ish) ∧ Drawn0 W w')) (Hva : Aside0 (∀ W, Calls Tryz.prog 26 #[.string a0_3] W fun e w' => e = .returned (.bool va) ∧ Below W.heap.size W w')) (Hvs : Aside0 (∀ W, Calls Tryz.prog 26 #[.string a0_4] W fun e w' => e = .returned (.bool vs) ∧ Below W.heap.size W w')) (wt we : Int) (HWh : Aside0 (∀ W, Below w.heap.size w W → Calls Tryz.prog 27 #[.agg #[.int .i64 a0_0, .string a0_1, .string a0_2, .string a0_3, .string a0_4, .int .i64 a0_5, .int .i64 a0_6, .int .i64 a0_7, .int .i64 a0_8, .int .i64 a0_9, .int .i64 a0_10, .int .i64 a0_11, .int .i64 a0_12, .slice A0_13 l0_13.length c0_13]] W fun e w' => e = .returned (.tuple #[.int .i64 wt, .int .i64 we]) ∧ Below W.heap.size W w')) (few : (we == 0) = bw) :
    Calls Tryz.prog 11 #[.agg #[.int .i64 a0_0, .string a0_1, .string a0_2, .string a0_3, .string a0_4, .int .i64 a0_5, .int .i64 a0_6, .int .i64 a0_7, .int .i64 a0_8, .int .i64 a0_9, .int .i64 a0_10, .int .i64 a0_11, .int .i64 a0_12, .slice A0_13 l0_13.length c0_13]] w fun e w' => e = .returned (.bool (iq && (ip && (ie && (va && (vs && (isd && (ial && (ist && ((!g3 || ir) && ((!g4 || ish) && bw))))))))))) ∧ Below w.heap.size w w' := by
  have HB := Aside0.mk (Below.refl w.heap.size w)
  go_enter Tryz.func11, Tryz.ntmps11
  go_upto_region 1 with (first | ((with_reducible refine gate_dst (N := 1) rfl ?_); (try (refine gate_guard (by rfl) ?_; dsimp only)); refine box_event ?hg (N := 1) ?hd (cs := #[.int .i64 a0_0, .string a0_1, .string a0_2, .string a0_3, .string a0_4, .int .i64 a0_5, .int .i64 a0_6, .int .i64 a0_7, .int .i64 a0_8, .int .i64 a0_9, .int .i64 a0_10, .int .i64 a0_11, .int .i64 a0_12, .slice A0_13 l0_13.length c0_13]) (t := 32) ?hr ?_; (case hd => rfl); (case hg => rfl); (case hr => first | (go_simp; done) | (go_simp; rfl)); intro gb1 hg w1 hbox hb; have n0_ := Aside0.mk (below_step (by repeat (first | (with_reducible first | exact HB.out | apply below_alloc | apply pw_below_drewN | apply below_drew1) | exact HB.out)) hb); have n1_ := Aside0.mk (hbox); have n2_ := Aside0.mk ((by rw [hg]; exact (below_size (by repeat (first | (with_reducible first | exact HB.out | apply below_alloc | apply pw_below_drewN | apply below_drew1) | exact HB.out)))) : w.heap.size ≤ gb1); clear HB; have HB := n0_; have BK1 := n1_; have GE1 := n2_; clear n0_ n1_ n2_; clear hb hbox hg; (try clear hc hz); have hc := fun i => blk_cell BK1.out i; have hz := fun i => blk_frozen BK1.out i))
  clear hc hz
  have HL0 := Aside0.mk (below_drew1 HB.out)
  have BL0 := Aside0.mk (blk_drew BK1.out)
  refine start_ (n := 17) (S := fun w' => (∀ i, w'.cell? ⟨gb1, i, none⟩ = (#[.int .i64 a0_0, .string a0_1, .string a0_2, .string a0_3, .string a0_4, .int .i64 a0_5, .int .i64 a0_6, .int .i64 a0_7, .int .i64 a0_8, .int .i64 a0_9, .int .i64 a0_10, .int .i64 a0_11, .int .i64 a0_12, .slice A0_13 l0_13.length c0_13] : Array Value)[i]?) ∧ (gb1 < w'.heap.size)) (ds := []) #[false, false, false, false, false, false, false, false, false, false, false, false, false, false, false, false, false] (by kernel_rfl) rfl rfl ⟨(fun i => blk_cell BK1.out i), blk_lt BK1.out⟩ (fun hHeld => ?_)
  refine pure_ (i := 0) (N := some 5) (v := ?_) (a' := ?_) #[true, false, false, false, false, false, false, false, false, false, false, false, false, false, false, false, false] rfl rfl (by kernel_rfl) (fun _ _ _ h => h) (Or.inl ⟨by rfl, ?_⟩) ?_ ?_
  rotate_left
  · intro w'
    go_simp
    with_reducible rfl
  rotate_left
  · simp only [Act.put, List.setIfInBounds_toArray, List.set_cons_zero, List.set_cons_succ, i64_w, i32_w]
    rfl
  refine take_ (i := 1) (N := some 6) (v := ?_) (a' := ?_) #[true, true, false, false, false, false, false, false, false, false, false, false, false, false, false, false, false] rfl rfl (by kernel_rfl) (fun _ _ _ h => h) (Or.inl ⟨by rfl, ?_⟩) hHeld ?_ ?_
  rotate_left
  · rintro w' ⟨s0, s1⟩
    go_simp
    with_reducible rfl
  rotate_left
  · simp only [Act.put, List.setIfInBounds_toArray, List.set_cons_zero, List.set_cons_succ, i64_w, i32_w]
    rfl
  refine one_ (i := 2) (N := some 7) #[true, true, true, false, false, false, false, false, false, false, false, false, false, false, false, false, false] rfl rfl (by kernel_rfl) (by decide) (fun K hK => ?_)
  refine goes_ Tryz.func24 (by kernel_rfl) rfl #[.int .i64 a0_0, .int .i64 1, .int .i64 5] (by rfl) rfl rfl (by simp only [List.map_toArray, List.map_cons, List.map_nil]; rfl) ?_
  with_reducible refine (Hi0.out _).mono ?_
  rintro e2 v2 ⟨rfl, hd2⟩
  refine ⟨_, rfl, ?_⟩
  have hb2 := Drawn0.below hd2
  have HL2 := Aside0.mk (below_step HL0.out hb2)
  have BL2 := Aside0.mk (blk_below BL0.out hb2)
  refine hK.out _ _ ⟨(fun i => (hb2.cell (p := ⟨gb1, i, none⟩) hHeld.2).trans (hHeld.1 i)), (Nat.lt_of_lt_of_le hHeld.2 hb2.size)⟩ (fun hHeld => ?_)
  clear hK K
  refine norm_ (a' := ?_) ?_ ?_
  rotate_left
  · show Act.put _ (some 7) _ = _
    simp only [Act.put, List.setIfInBounds_toArray, List.set_cons_zero, List.set_cons_succ, i64_w, i32_w]
    rfl
  refine pure_ (i := 3) (N := some 8) (v := ?_) (a' := ?_) #[true, true, true, true, false, false, false, false, false, false, false, false, false, false, false, false, false] rfl rfl (by kernel_rfl) (fun _ _ _ h => h) (Or.inl ⟨by rfl, ?_⟩) ?_ ?_
  rotate_left
  · intro w'
    go_simp
    with_reducible rfl
  rotate_left
  · simp only [Act.put, List.setIfInBounds_toArray, List.set_cons_zero, List.set_cons_succ, i64_w, i32_w]
    rfl
  refine pure_ (i := 4) (N := some 9) (v := ?_) (a' := ?_) #[true, true, true, true, true, false, false, false, false, false, false, false, false, false, false, false, false] rfl rfl (by kernel_rfl) (fun _ _ _ h => h) (Or.inl ⟨by rfl, ?_⟩) ?_ ?_
  rotate_left
  · intro w'
    go_simp
    with_reducible rfl
  rotate_left
  · simp only [Act.put, List.setIfInBounds_toArray, List.set_cons_zero, List.set_cons_succ, i64_w, i32_w]
    rfl
  refine take_ (i := 5) (N := some 10) (v := ?_) (a' := ?_) #[true, true, true, true, true, true, false, false, false, false, false, false, false, false, false, false, false] rfl rfl (by kernel_rfl) (fun _ _ _ h => h) (Or.inl ⟨by rfl, ?_⟩) hHeld ?_ ?_
  rotate_left
  · rintro w' ⟨s0, s1⟩
    go_simp
    with_reducible rfl
  rotate_left
  · simp only [Act.put, List.setIfInBounds_toArray, List.set_cons_zero, List.set_cons_succ, i64_w, i32_w]
    rfl
  refine take_ (i := 6) (N := some 11) (v := ?_) (a' := ?_) #[true, true, true, true, true, true, true, false, false, false, false, false, false, false, false, false, false] rfl rfl (by kernel_rfl) (fun _ _ _ h => h) (Or.inl ⟨by rfl, ?_⟩) hHeld ?_ ?_
  rotate_left
  · rintro w' ⟨s0, s1⟩
    go_simp
    with_reducible rfl
  rotate_left
  · simp only [Act.put, List.setIfInBounds_toArray, List.set_cons_zero, List.set_cons_succ, i64_w, i32_w]
    rfl
  refine one_ (i := 7) (N := some 12) #[true, true, true, true, true, true, true, true, false, false, false, false, false, false, false, false, false] rfl rfl (by kernel_rfl) (by decide) (fun K hK => ?_)
  refine goes_ Tryz.func25 (by kernel_rfl) rfl #[.agg #[.int .i64 a0_0, .string a0_1, .string a0_2, .string a0_3, .string a0_4, .int .i64 a0_5, .int .i64 a0_6, .int .i64 a0_7, .int .i64 a0_8, .int .i64 a0_9, .int .i64 a0_10, .int .i64 a0_11, .int .i64 a0_12, .slice A0_13 l0_13.length c0_13]] (by rfl) rfl rfl (by simp only [List.map_toArray, List.map_cons, List.map_nil]; rfl) ?_
  with_reducible refine (HKp.out _ HL2.out).mono ?_
  rintro e3 v3 ⟨rfl, hb3⟩
  refine ⟨_, rfl, ?_⟩
  have HL3 := Aside0.mk (below_step HL2.out hb3)
  have BL3 := Aside0.mk (blk_below BL2.out hb3)
  refine hK.out _ _ ⟨(fun i => (hb3.cell (p := ⟨gb1, i, none⟩) hHeld.2).trans (hHeld.1 i)), (Nat.lt_of_lt_of_le hHeld.2 hb3.size)⟩ (fun hHeld => ?_)
  clear hK K
  refine norm_ (a' := ?_) ?_ ?_
  rotate_left
  · show Act.put _ (some 12) _ = _
    simp only [Act.put, List.setIfInBounds_toArray, List.set_cons_zero, List.set_cons_succ, i64_w, i32_w]
    rfl
  refine one_ (i := 8) (N := some 13) #[true, true, true, true, true, true, true, true, true, false, false, false, false, false, false, false, false] rfl rfl (by kernel_rfl) (by decide) (fun K hK => ?_)
  refine goes_ Tryz.func14 (by kernel_rfl) rfl #[.agg #[.int .i64 a0_0, .string a0_1, .string a0_2, .string a0_3, .string a0_4, .int .i64 a0_5, .int .i64 a0_6, .int .i64 a0_7, .int .i64 a0_8, .int .i64 a0_9, .int .i64 a0_10, .int .i64 a0_11, .int .i64 a0_12, .slice A0_13 l0_13.length c0_13], .agg #[.int .i64 k_0, .string k_1, .string k_2, .string k_3, .string k_4, .int .i64 k_5, .int .i64 k_6, .int .i64 k_7, .int .i64 k_8, .int .i64 k_9, .int .i64 k_10, .int .i64 k_11, .int .i64 k_12, .slice K13 n13 m13]] (by rfl) rfl rfl (by simp only [List.map_toArray, List.map_cons, List.map_nil]; rfl) ?_
  with_reducible refine (HSm.out _ HL3.out).mono ?_
  rintro e4 v4 ⟨rfl, hb4⟩
  refine ⟨_, rfl, ?_⟩
  have HL4 := Aside0.mk (below_step HL3.out hb4)
  have BL4 := Aside0.mk (blk_below BL3.out hb4)
  refine hK.out _ _ ⟨(fun i => (hb4.cell (p := ⟨gb1, i, none⟩) hHeld.2).trans (hHeld.1 i)), (Nat.lt_of_lt_of_le hHeld.2 hb4.size)⟩ (fun hHeld => ?_)
  clear hK K
  refine norm_ (a' := ?_) ?_ ?_
  rotate_left
  · show Act.put _ (some 13) _ = _
    simp only [Act.put, List.setIfInBounds_toArray, List.set_cons_zero, List.set_cons_succ, i64_w, i32_w]
    rfl
  refine pure_ (i := 9) (N := some 14) (v := ?_) (a' := ?_) #[true, true, true, true, true, true, true, true, true, true, false, false, false, false, false, false, false] rfl rfl (by kernel_rfl) (fun _ _ _ h => h) (Or.inl ⟨by rfl, ?_⟩) ?_ ?_
  rotate_left
  · intro w'
    go_simp
    with_reducible rfl
  rotate_left
  · simp only [Act.put, List.setIfInBounds_toArray, List.set_cons_zero, List.set_cons_succ, i64_w, i32_w]
    rfl
  refine pure_ (i := 10) (N := some 15) (v := ?_) (a' := ?_) #[true, true, true, true, true, true, true, true, true, true, true, false, false, false, false, false, false] rfl rfl (by kernel_rfl) (fun _ _ _ h => h) (Or.inl ⟨by rfl, ?_⟩) ?_ ?_
  rotate_left
  · intro w'
    go_simp
    with_reducible rfl
  rotate_left
  · simp only [Act.put, List.setIfInBounds_toArray, List.set_cons_zero, List.set_cons_succ, i64_w, i32_w]
    rfl
  refine pure_ (i := 11) (N := some 16) (v := ?_) (a' := ?_) #[true, true, true, true, true, true, true, true, true, true, true, true, false, false, false, false, false] rfl rfl (by kernel_rfl) (fun _ _ _ h => h) (Or.inl ⟨by rfl, ?_⟩) ?_ ?_
  rotate_left
  · intro w'
    go_simp
    with_reducible rfl
  rotate_left
  · simp only [Act.put, List.setIfInBounds_toArray, List.set_cons_zero, List.set_cons_succ, i64_w, i32_w]
    rfl
  refine pure_ (i := 12) (N := some 17) (v := ?_) (a' := ?_) #[true, true, true, true, true, true, true, true, true, true, true, true, true, false, false, false, false] rfl rfl (by kernel_rfl) (fun _ _ _ h => h) (Or.inl ⟨by rfl, ?_⟩) ?_ ?_
  rotate_left
  · intro w'
    go_simp
    with_reducible rfl
  rotate_left
  · simp only [Act.put, List.setIfInBounds_toArray, List.set_cons_zero, List.set_cons_succ, i64_w, i32_w]
    rfl
  refine take_ (i := 13) (N := some 18) (v := ?_) (a' := ?_) #[true, true, true, true, true, true, true, true, true, true, true, true, true, true, false, false, false] rfl rfl (by kernel_rfl) (fun _ _ _ h => h) (Or.inl ⟨by rfl, ?_⟩) hHeld ?_ ?_
  rotate_left
  · rintro w' ⟨s0, s1⟩
    go_simp
    with_reducible rfl
  rotate_left
  · simp only [Act.put, List.setIfInBounds_toArray, List.set_cons_zero, List.set_cons_succ, i64_w, i32_w]
    rfl
  refine one_ (i := 14) (N := some 19) #[true, true, true, true, true, true, true, true, true, true, true, true, true, true, true, false, false] rfl rfl (by kernel_rfl) (by decide) (fun K hK => ?_)
  refine goes_ Tryz.func26 (by kernel_rfl) rfl #[.string a0_1] (by rfl) rfl rfl (by simp only [List.map_toArray, List.map_cons, List.map_nil]; rfl) ?_
  with_reducible refine (Hv1.out _).mono ?_
  rintro e5 v5 ⟨rfl, hb5⟩
  refine ⟨_, rfl, ?_⟩
  have HL5 := Aside0.mk (below_step HL4.out hb5)
  have BL5 := Aside0.mk (blk_below BL4.out hb5)
  refine hK.out _ _ ⟨(fun i => (hb5.cell (p := ⟨gb1, i, none⟩) hHeld.2).trans (hHeld.1 i)), (Nat.lt_of_lt_of_le hHeld.2 hb5.size)⟩ (fun hHeld => ?_)
  clear hK K
  refine norm_ (a' := ?_) ?_ ?_
  rotate_left
  · show Act.put _ (some 19) _ = _
    simp only [Act.put, List.setIfInBounds_toArray, List.set_cons_zero, List.set_cons_succ, i64_w, i32_w]
    rfl
  refine pure_ (i := 15) (N := some 20) (v := ?_) (a' := ?_) #[true, true, true, true, true, true, true, true, true, true, true, true, true, true, true, true, false] rfl rfl (by kernel_rfl) (fun _ _ _ h => h) (Or.inl ⟨by rfl, ?_⟩) ?_ ?_
  rotate_left
  · intro w'
    go_simp
    with_reducible rfl
  rotate_left
  · simp only [Act.put, List.setIfInBounds_toArray, List.set_cons_zero, List.set_cons_succ, i64_w, i32_w]
    rfl
  refine pure_ (i := 16) (N := some 21) (v := ?_) (a' := ?_) #[true, true, true, true, true, true, true, true, true, true, true, true, true, true, true, true, true] rfl rfl (by kernel_rfl) (fun _ _ _ h => h) (Or.inl ⟨by rfl, ?_⟩) ?_ ?_
  rotate_left
  · intro w'
    go_simp
    with_reducible rfl
  rotate_left
  · simp only [Act.put, List.setIfInBounds_toArray, List.set_cons_zero, List.set_cons_succ, i64_w, i32_w]
    rfl
  refine done_ (by kernel_rfl) ?_
  clear HB BK1
  have HB := HL5
  have BK1 := BL5
  have hc := fun i => blk_cell BK1.out i
  have hz := fun i => blk_frozen BK1.out i
  cases iq; rotate_left; cases ip; rotate_left; cases ie; rotate_left; cases va; rotate_left; cases vs; rotate_left; cases isd; rotate_left; cases ial; rotate_left; cases ist; rotate_left; cases g3; cases g4; rotate_left; cases ish; rotate_left 2; cases ir; rotate_left; cases g4; rotate_left; cases ish
  all_goals
    go_wp2_with (first | ((with_reducible refine gate_callee (f := 24) rfl ?_); refine goesL_ _ rfl rfl Tryz.func24 (by kernel_rfl) rfl #[.int .i64 a0_6, .int .i64 1, .int .i64 1099511627776] rfl (by (try simp only [List.map_toArray, List.map_cons, List.map_nil]); first | done | rfl | (simp only [List.length_drop, List.length_take]; rfl)) ?_; (with_reducible refine (Hiq.out _).mono ?_); rintro e y20 ⟨rfl, hd⟩; refine ⟨_, rfl, ?_⟩; have hb := Drawn0.below hd; clear hd; have n0_ := Aside0.mk (blk_below (by (with_reducible repeat (first | refine blk_drewN ?_ _ | refine blk_drew ?_ | refine blk_alloc ?_ _)); exact BK1.out) hb); have n1_ := Aside0.mk (below_step (by repeat (first | (with_reducible first | exact HB.out | apply below_alloc | apply pw_below_drewN | apply below_drew1 | refine below_set ?_ GE1.out) | exact HB.out)) hb); clear BK1; clear HB; have BK1 := n0_; have HB := n1_; clear n0_ n1_; clear hb; (try clear hc hz); have hc := fun i => blk_cell BK1.out i; have hz := fun i => blk_frozen BK1.out i) | (go_at_call 24; (with_reducible refine (Hiq.out _).mono ?_); rintro e y20 ⟨rfl, hd⟩; have hb := Drawn0.below hd; clear hd; have n0_ := Aside0.mk (blk_below (by (with_reducible repeat (first | refine blk_drewN ?_ _ | refine blk_drew ?_ | refine blk_alloc ?_ _)); exact BK1.out) hb); have n1_ := Aside0.mk (below_step (by repeat (first | (with_reducible first | exact HB.out | apply below_alloc | apply pw_below_drewN | apply below_drew1 | refine below_set ?_ GE1.out) | exact HB.out)) hb); clear BK1; clear HB; have BK1 := n0_; have HB := n1_; clear n0_ n1_; clear hb; (try clear hc hz); have hc := fun i => blk_cell BK1.out i; have hz := fun i => blk_frozen BK1.out i) | ((with_reducible refine gate_callee (f := 24) rfl ?_); refine goesL_ _ rfl rfl Tryz.func24 (by kernel_rfl) rfl #[.int .i64 a0_7, .int .i64 1, .int .i64 1099511627776] rfl (by (try simp only [List.map_toArray, List.map_cons, List.map_nil]); first | done | rfl | (simp only [List.length_drop, List.length_take]; rfl)) ?_; (with_reducible refine (Hip.out _).mono ?_); rintro e y21 ⟨rfl, hd⟩; refine ⟨_, rfl, ?_⟩; have hb := Drawn0.below hd; clear hd; have n0_ := Aside0.mk (blk_below (by (with_reducible repeat (first | refine blk_drewN ?_ _ | refine blk_drew ?_ | refine blk_alloc ?_ _)); exact BK1.out) hb); have n1_ := Aside0.mk (below_step (by repeat (first | (with_reducible first | exact HB.out | apply below_alloc | apply pw_below_drewN | apply below_drew1 | refine below_set ?_ GE1.out) | exact HB.out)) hb); clear BK1; clear HB; have BK1 := n0_; have HB := n1_; clear n0_ n1_; clear hb; (try clear hc hz); have hc := fun i => blk_cell BK1.out i; have hz := fun i => blk_frozen BK1.out i) | (go_at_call 24; (with_reducible refine (Hip.out _).mono ?_); rintro e y21 ⟨rfl, hd⟩; have hb := Drawn0.below hd; clear hd; have n0_ := Aside0.mk (blk_below (by (with_reducible repeat (first | refine blk_drewN ?_ _ | refine blk_drew ?_ | refine blk_alloc ?_ _)); exact BK1.out) hb); have n1_ := Aside0.mk (below_step (by repeat (first | (with_reducible first | exact HB.out | apply below_alloc | apply pw_below_drewN | apply below_drew1 | refine below_set ?_ GE1.out) | exact HB.out)) hb); clear BK1; clear HB; have BK1 := n0_; have HB := n1_; clear n0_ n1_; clear hb; (try clear hc hz); have hc := fun i => blk_cell BK1.out i; have hz := fun i => blk_frozen BK1.out i) | ((with_reducible refine gate_callee (f := 24) rfl ?_); refine goesL_ _ rfl rfl Tryz.func24 (by kernel_rfl) rfl #[.int .i64 a0_10, .int .i64 0, .int .i64 1099511627776] rfl (by (try simp only [List.map_toArray, List.map_cons, List.map_nil]); first | done | rfl | (simp only [List.length_drop, List.length_take]; rfl)) ?_; (with_reducible refine (Hie.out _).mono ?_); rintro e y22 ⟨rfl, hd⟩; refine ⟨_, rfl, ?_⟩; have hb := Drawn0.below hd; clear hd; have n0_ := Aside0.mk (blk_below (by (with_reducible repeat (first | refine blk_drewN ?_ _ | refine blk_drew ?_ | refine blk_alloc ?_ _)); exact BK1.out) hb); have n1_ := Aside0.mk (below_step (by repeat (first | (with_reducible first | exact HB.out | apply below_alloc | apply pw_below_drewN | apply below_drew1 | refine below_set ?_ GE1.out) | exact HB.out)) hb); clear BK1; clear HB; have BK1 := n0_; have HB := n1_; clear n0_ n1_; clear hb; (try clear hc hz); have hc := fun i => blk_cell BK1.out i; have hz := fun i => blk_frozen BK1.out i) | (go_at_call 24; (with_reducible refine (Hie.out _).mono ?_); rintro e y22 ⟨rfl, hd⟩; have hb := Drawn0.below hd; clear hd; have n0_ := Aside0.mk (blk_below (by (with_reducible repeat (first | refine blk_drewN ?_ _ | refine blk_drew ?_ | refine blk_alloc ?_ _)); exact BK1.out) hb); have n1_ := Aside0.mk (below_step (by repeat (first | (with_reducible first | exact HB.out | apply below_alloc | apply pw_below_drewN | apply below_drew1 | refine below_set ?_ GE1.out) | exact HB.out)) hb); clear BK1; clear HB; have BK1 := n0_; have HB := n1_; clear n0_ n1_; clear hb; (try clear hc hz); have hc := fun i => blk_cell BK1.out i; have hz := fun i => blk_frozen BK1.out i) | ((with_reducible refine gate_callee (f := 26) rfl ?_); refine goesL_ _ rfl rfl Tryz.func26 (by kernel_rfl) rfl #[.string a0_3] rfl (by (try simp only [List.map_toArray, List.map_cons, List.map_nil]); first | done | rfl | (simp only [List.length_drop, List.length_take]; rfl)) ?_; (with_reducible refine (Hva.out _).mono ?_); rintro e y3 ⟨rfl, hb⟩; refine ⟨_, rfl, ?_⟩; have n0_ := Aside0.mk (blk_below (by (with_reducible repeat (first | refine blk_drewN ?_ _ | refine blk_drew ?_ | refine blk_alloc ?_ _)); exact BK1.out) hb); have n1_ := Aside0.mk (below_step (by repeat (first | (with_reducible first | exact HB.out | apply below_alloc | apply pw_below_drewN | apply below_drew1 | refine below_set ?_ GE1.out) | exact HB.out)) hb); clear BK1; clear HB; have BK1 := n0_; have HB := n1_; clear n0_ n1_; clear hb; (try clear hc hz); have hc := fun i => blk_cell BK1.out i; have hz := fun i => blk_frozen BK1.out i) | (go_at_call 26; (with_reducible refine (Hva.out _).mono ?_); rintro e y3 ⟨rfl, hb⟩; have n0_ := Aside0.mk (blk_below (by (with_reducible repeat (first | refine blk_drewN ?_ _ | refine blk_drew ?_ | refine blk_alloc ?_ _)); exact BK1.out) hb); have n1_ := Aside0.mk (below_step (by repeat (first | (with_reducible first | exact HB.out | apply below_alloc | apply pw_below_drewN | apply below_drew1 | refine below_set ?_ GE1.out) | exact HB.out)) hb); clear BK1; clear HB; have BK1 := n0_; have HB := n1_; clear n0_ n1_; clear hb; (try clear hc hz); have hc := fun i => blk_cell BK1.out i; have hz := fun i => blk_frozen BK1.out i) | ((with_reducible refine gate_callee (f := 26) rfl ?_); refine goesL_ _ rfl rfl Tryz.func26 (by kernel_rfl) rfl #[.string a0_4] rfl (by (try simp only [List.map_toArray, List.map_cons, List.map_nil]); first | done | rfl | (simp only [List.length_drop, List.length_take]; rfl)) ?_; (with_reducible refine (Hvs.out _).mono ?_); rintro e y4 ⟨rfl, hb⟩; refine ⟨_, rfl, ?_⟩; have n0_ := Aside0.mk (blk_below (by (with_reducible repeat (first | refine blk_drewN ?_ _ | refine blk_drew ?_ | refine blk_alloc ?_ _)); exact BK1.out) hb); have n1_ := Aside0.mk (below_step (by repeat (first | (with_reducible first | exact HB.out | apply below_alloc | apply pw_below_drewN | apply below_drew1 | refine below_set ?_ GE1.out) | exact HB.out)) hb); clear BK1; clear HB; have BK1 := n0_; have HB := n1_; clear n0_ n1_; clear hb; (try clear hc hz); have hc := fun i => blk_cell BK1.out i; have hz := fun i => blk_frozen BK1.out i) | (go_at_call 26; (with_reducible refine (Hvs.out _).mono ?_); rintro e y4 ⟨rfl, hb⟩; have n0_ := Aside0.mk (blk_below (by (with_reducible repeat (first | refine blk_drewN ?_ _ | refine blk_drew ?_ | refine blk_alloc ?_ _)); exact BK1.out) hb); have n1_ := Aside0.mk (below_step (by repeat (first | (with_reducible first | exact HB.out | apply below_alloc | apply pw_below_drewN | apply below_drew1 | refine below_set ?_ GE1.out) | exact HB.out)) hb); clear BK1; clear HB; have BK1 := n0_; have HB := n1_; clear n0_ n1_; clear hb; (try clear hc hz); have hc := fun i => blk_cell BK1.out i; have hz := fun i => blk_frozen BK1.out i) | ((with_reducible refine gate_callee (f := 24) rfl ?_); refine goesL_ _ rfl rfl Tryz.func24 (by kernel_rfl) rfl #[.int .i64 a0_5, .int .i64 1, .int .i64 2] rfl (by (try simp only [List.map_toArray, List.map_cons, List.map_nil]); first | done | rfl | (simp only [List.length_drop, List.length_take]; rfl)) ?_; (with_reducible refine (Hisd.out _).mono ?_); rintro e y50 ⟨rfl, hd⟩; refine ⟨_, rfl, ?_⟩; have hb := Drawn0.below hd; clear hd; have n0_ := Aside0.mk (blk_below (by (with_reducible repeat (first | refine blk_drewN ?_ _ | refine blk_drew ?_ | refine blk_alloc ?_ _)); exact BK1.out) hb); have n1_ := Aside0.mk (below_step (by repeat (first | (with_reducible first | exact HB.out | apply below_alloc | apply pw_below_drewN | apply below_drew1 | refine below_set ?_ GE1.out) | exact HB.out)) hb); clear BK1; clear HB; have BK1 := n0_; have HB := n1_; clear n0_ n1_; clear hb; (try clear hc hz); have hc := fun i => blk_cell BK1.out i; have hz := fun i => blk_frozen BK1.out i) | (go_at_call 24; (with_reducible refine (Hisd.out _).mono ?_); rintro e y50 ⟨rfl, hd⟩; have hb := Drawn0.below hd; clear hd; have n0_ := Aside0.mk (blk_below (by (with_reducible repeat (first | refine blk_drewN ?_ _ | refine blk_drew ?_ | refine blk_alloc ?_ _)); exact BK1.out) hb); have n1_ := Aside0.mk (below_step (by repeat (first | (with_reducible first | exact HB.out | apply below_alloc | apply pw_below_drewN | apply below_drew1 | refine below_set ?_ GE1.out) | exact HB.out)) hb); clear BK1; clear HB; have BK1 := n0_; have HB := n1_; clear n0_ n1_; clear hb; (try clear hc hz); have hc := fun i => blk_cell BK1.out i; have hz := fun i => blk_frozen BK1.out i) | ((with_reducible refine gate_callee (f := 24) rfl ?_); refine goesL_ _ rfl rfl Tryz.func24 (by kernel_rfl) rfl #[.int .i64 a0_8, .int .i64 1, .int .i64 4] rfl (by (try simp only [List.map_toArray, List.map_cons, List.map_nil]); first | done | rfl | (simp only [List.length_drop, List.length_take]; rfl)) ?_; (with_reducible refine (Hial.out _).mono ?_); rintro e y51 ⟨rfl, hd⟩; refine ⟨_, rfl, ?_⟩; have hb := Drawn0.below hd; clear hd; have n0_ := Aside0.mk (blk_below (by (with_reducible repeat (first | refine blk_drewN ?_ _ | refine blk_drew ?_ | refine blk_alloc ?_ _)); exact BK1.out) hb); have n1_ := Aside0.mk (below_step (by repeat (first | (with_reducible first | exact HB.out | apply below_alloc | apply pw_below_drewN | apply below_drew1 | refine below_set ?_ GE1.out) | exact HB.out)) hb); clear BK1; clear HB; have BK1 := n0_; have HB := n1_; clear n0_ n1_; clear hb; (try clear hc hz); have hc := fun i => blk_cell BK1.out i; have hz := fun i => blk_frozen BK1.out i) | (go_at_call 24; (with_reducible refine (Hial.out _).mono ?_); rintro e y51 ⟨rfl, hd⟩; have hb := Drawn0.below hd; clear hd; have n0_ := Aside0.mk (blk_below (by (with_reducible repeat (first | refine blk_drewN ?_ _ | refine blk_drew ?_ | refine blk_alloc ?_ _)); exact BK1.out) hb); have n1_ := Aside0.mk (below_step (by repeat (first | (with_reducible first | exact HB.out | apply below_alloc | apply pw_below_drewN | apply below_drew1 | refine below_set ?_ GE1.out) | exact HB.out)) hb); clear BK1; clear HB; have BK1 := n0_; have HB := n1_; clear n0_ n1_; clear hb; (try clear hc hz); have hc := fun i => blk_cell BK1.out i; have hz := fun i => blk_frozen BK1.out i) | ((with_reducible refine gate_callee (f := 24) rfl ?_); refine goesL_ _ rfl rfl Tryz.func24 (by kernel_rfl) rfl #[.int .i64 a0_9, .int .i64 0, .int .i64 1099511627776] rfl (by (try simp only [List.map_toArray, List.map_cons, List.map_nil]); first | done | rfl | (simp only [List.length_drop, List.length_take]; rfl)) ?_; (with_reducible refine (Hist.out _).mono ?_); rintro e y52 ⟨rfl, hd⟩; refine ⟨_, rfl, ?_⟩; have hb := Drawn0.below hd; clear hd; have n0_ := Aside0.mk (blk_below (by (with_reducible repeat (first | refine blk_drewN ?_ _ | refine blk_drew ?_ | refine blk_alloc ?_ _)); exact BK1.out) hb); have n1_ := Aside0.mk (below_step (by repeat (first | (with_reducible first | exact HB.out | apply below_alloc | apply pw_below_drewN | apply below_drew1 | refine below_set ?_ GE1.out) | exact HB.out)) hb); clear BK1; clear HB; have BK1 := n0_; have HB := n1_; clear n0_ n1_; clear hb; (try clear hc hz); have hc := fun i => blk_cell BK1.out i; have hz := fun i => blk_frozen BK1.out i) | (go_at_call 24; (with_reducible refine (Hist.out _).mono ?_); rintro e y52 ⟨rfl, hd⟩; have hb := Drawn0.below hd; clear hd; have n0_ := Aside0.mk (blk_below (by (with_reducible repeat (first | refine blk_drewN ?_ _ | refine blk_drew ?_ | refine blk_alloc ?_ _)); exact BK1.out) hb); have n1_ := Aside0.mk (below_step (by repeat (first | (with_reducible first | exact HB.out | apply below_alloc | apply pw_below_drewN | apply below_drew1 | refine below_set ?_ GE1.out) | exact HB.out)) hb); clear BK1; clear HB; have BK1 := n0_; have HB := n1_; clear n0_ n1_; clear hb; (try clear hc hz); have hc := fun i => blk_cell BK1.out i; have hz := fun i => blk_frozen BK1.out i) | ((with_reducible refine gate_callee (f := 24) rfl ?_); refine goesL_ _ rfl rfl Tryz.func24 (by kernel_rfl) rfl #[.int .i64 a0_11, .int .i64 1, .int .i64 10000] rfl (by (try simp only [List.map_toArray, List.map_cons, List.map_nil]); first | done | rfl | (simp only [List.length_drop, List.length_take]; rfl)) ?_; (with_reducible refine (Hir.out _).mono ?_); rintro e y60 ⟨rfl, hd⟩; refine ⟨_, rfl, ?_⟩; have hb := Drawn0.below hd; clear hd; have n0_ := Aside0.mk (blk_below (by (with_reducible repeat (first | refine blk_drewN ?_ _ | refine blk_drew ?_ | refine blk_alloc ?_ _)); exact BK1.out) hb); have n1_ := Aside0.mk (below_step (by repeat (first | (with_reducible first | exact HB.out | apply below_alloc | apply pw_below_drewN | apply below_drew1 | refine below_set ?_ GE1.out) | exact HB.out)) hb); clear BK1; clear HB; have BK1 := n0_; have HB := n1_; clear n0_ n1_; clear hb; (try clear hc hz); have hc := fun i => blk_cell BK1.out i; have hz := fun i => blk_frozen BK1.out i) | (go_at_call 24; (with_reducible refine (Hir.out _).mono ?_); rintro e y60 ⟨rfl, hd⟩; have hb := Drawn0.below hd; clear hd; have n0_ := Aside0.mk (blk_below (by (with_reducible repeat (first | refine blk_drewN ?_ _ | refine blk_drew ?_ | refine blk_alloc ?_ _)); exact BK1.out) hb); have n1_ := Aside0.mk (below_step (by repeat (first | (with_reducible first | exact HB.out | apply below_alloc | apply pw_below_drewN | apply below_drew1 | refine below_set ?_ GE1.out) | exact HB.out)) hb); clear BK1; clear HB; have BK1 := n0_; have HB := n1_; clear n0_ n1_; clear hb; (try clear hc hz); have hc := fun i => blk_cell BK1.out i; have hz := fun i => blk_frozen BK1.out i) | ((with_reducible refine gate_callee (f := 24) rfl ?_); refine goesL_ _ rfl rfl Tryz.func24 (by kernel_rfl) rfl #[.int .i64 a0_12, .int .i64 1, .int .i64 1099511627776] rfl (by (try simp only [List.map_toArray, List.map_cons, List.map_nil]); first | done | rfl | (simp only [List.length_drop, List.length_take]; rfl)) ?_; (with_reducible refine (Hish.out _).mono ?_); rintro e y61 ⟨rfl, hd⟩; refine ⟨_, rfl, ?_⟩; have hb := Drawn0.below hd; clear hd; have n0_ := Aside0.mk (blk_below (by (with_reducible repeat (first | refine blk_drewN ?_ _ | refine blk_drew ?_ | refine blk_alloc ?_ _)); exact BK1.out) hb); have n1_ := Aside0.mk (below_step (by repeat (first | (with_reducible first | exact HB.out | apply below_alloc | apply pw_below_drewN | apply below_drew1 | refine below_set ?_ GE1.out) | exact HB.out)) hb); clear BK1; clear HB; have BK1 := n0_; have HB := n1_; clear n0_ n1_; clear hb; (try clear hc hz); have hc := fun i => blk_cell BK1.out i; have hz := fun i => blk_frozen BK1.out i) | (go_at_call 24; (with_reducible refine (Hish.out _).mono ?_); rintro e y61 ⟨rfl, hd⟩; have hb := Drawn0.below hd; clear hd; have n0_ := Aside0.mk (blk_below (by (with_reducible repeat (first | refine blk_drewN ?_ _ | refine blk_drew ?_ | refine blk_alloc ?_ _)); exact BK1.out) hb); have n1_ := Aside0.mk (below_step (by repeat (first | (with_reducible first | exact HB.out | apply below_alloc | apply pw_below_drewN | apply below_drew1 | refine below_set ?_ GE1.out) | exact HB.out)) hb); clear BK1; clear HB; have BK1 := n0_; have HB := n1_; clear n0_ n1_; clear hb; (try clear hc hz); have hc := fun i => blk_cell BK1.out i; have hz := fun i => blk_frozen BK1.out i) | ((with_reducible refine gate_callee (f := 27) rfl ?_); refine goesL_ _ rfl rfl Tryz.func27 (by kernel_rfl) rfl #[.agg #[.int .i64 a0_0, .string a0_1, .string a0_2, .string a0_3, .string a0_4, .int .i64 a0_5, .int .i64 a0_6, .int .i64 a0_7, .int .i64 a0_8, .int .i64 a0_9, .int .i64 a0_10, .int .i64 a0_11, .int .i64 a0_12, .slice A0_13 l0_13.length c0_13]] rfl (by (try simp only [List.map_toArray, List.map_cons, List.map_nil]); first | done | rfl | (simp only [List.length_drop, List.length_take]; rfl)) ?_; (with_reducible refine (HWh.out _ ?sideb).mono ?_); (case sideb => repeat (first | (with_reducible first | exact HB.out | apply below_alloc | apply pw_below_drewN | apply below_drew1 | refine below_set ?_ GE1.out) | exact HB.out)); rintro e y9 ⟨rfl, hb⟩; refine ⟨_, rfl, ?_⟩; have n0_ := Aside0.mk (blk_below (by (with_reducible repeat (first | refine blk_drewN ?_ _ | refine blk_drew ?_ | refine blk_alloc ?_ _)); exact BK1.out) hb); have n1_ := Aside0.mk (below_step (by repeat (first | (with_reducible first | exact HB.out | apply below_alloc | apply pw_below_drewN | apply below_drew1 | refine below_set ?_ GE1.out) | exact HB.out)) hb); clear BK1; clear HB; have BK1 := n0_; have HB := n1_; clear n0_ n1_; clear hb; (try clear hc hz); have hc := fun i => blk_cell BK1.out i; have hz := fun i => blk_frozen BK1.out i) | (go_at_call 27; (with_reducible refine (HWh.out _ ?sideb).mono ?_); (case sideb => repeat (first | (with_reducible first | exact HB.out | apply below_alloc | apply pw_below_drewN | apply below_drew1 | refine below_set ?_ GE1.out) | exact HB.out)); rintro e y9 ⟨rfl, hb⟩; have n0_ := Aside0.mk (blk_below (by (with_reducible repeat (first | refine blk_drewN ?_ _ | refine blk_drew ?_ | refine blk_alloc ?_ _)); exact BK1.out) hb); have n1_ := Aside0.mk (below_step (by repeat (first | (with_reducible first | exact HB.out | apply below_alloc | apply pw_below_drewN | apply below_drew1 | refine below_set ?_ GE1.out) | exact HB.out)) hb); clear BK1; clear HB; have BK1 := n0_; have HB := n1_; clear n0_ n1_; clear hb; (try clear hc hz); have hc := fun i => blk_cell BK1.out i; have hz := fun i => blk_frozen BK1.out i))
    go_ret
    exact ⟨by first | rfl | (simp; done) | (simp [*]; done), by repeat (first | (with_reducible first | exact HB.out | apply below_alloc | apply pw_below_drewN | apply below_drew1 | refine below_set ?_ GE1.out) | exact HB.out)⟩
def RefA (a : AskV) : Prop := (1 ≤ a.f0 ∧ a.f0 ≤ 5) ∧ a = keptA a ∧ validB a.f1 ∧ (a.f0 ≠ 1 → validB a.f2) ∧
  ((a.f0 = 1 ∨ a.f0 = 3) → (1 ≤ a.f6 ∧ a.f6 ≤ 1099511627776) ∧ (1 ≤ a.f7 ∧ a.f7 ≤ 1099511627776) ∧ (0 ≤ a.f10 ∧ a.f10 ≤ 1099511627776)) ∧
  (a.f0 = 1 → validB a.f3 ∧ validB a.f4 ∧ (1 ≤ a.f5 ∧ a.f5 ≤ 2) ∧ (1 ≤ a.f8 ∧ a.f8 ≤ 4) ∧ (0 ≤ a.f9 ∧ a.f9 ≤ 1099511627776) ∧ (a.f8 = 3 → 1 ≤ a.f11 ∧ a.f11 ≤ 10000) ∧ (a.f8 = 4 → 1 ≤ a.f12 ∧ a.f12 ≤ 1099511627776) ∧ (wholeA a).2 = 0)
theorem whole_zero (a : AskV) (h : a.f0 = 1) : (wholeA a).2 = 0 ↔ (1 ≤ wrap64 (a.f10 - a.f9) ∧ wrap64 (a.f10 - a.f9) ≤ 1073741824) ∧ (a.f8 = 2 → curveOk a.f13 = true) := by
  unfold wholeA
  rw [if_pos h]
  by_cases c1 : 1 ≤ wrap64 (a.f10 - a.f9) ∧ wrap64 (a.f10 - a.f9) ≤ 1073741824
  · rw [if_pos c1]
    by_cases c2 : a.f8 = 2
    · rw [if_pos c2]
      by_cases c3 : curveOk a.f13 = true
      · rw [if_pos c3]; exact ⟨fun _ => ⟨c1, fun _ => c3⟩, fun _ => rfl⟩
      · rw [if_neg c3]; exact ⟨fun h => absurd h (by decide), fun h => absurd (h.2 c2) c3⟩
    · rw [if_neg c2]; exact ⟨fun _ => ⟨c1, fun g => absurd g c2⟩, fun _ => rfl⟩
  · rw [if_neg c1]; exact ⟨fun h => absurd h (by decide), fun h => absurd h.1 c1⟩
theorem right_iff (a : AskV) : RightA a ↔ RefA a := by
  by_cases k1 : a.f0 = 1
  · have w0 := whole_zero a k1
    obtain ⟨f0, f1, f2, f3, f4, f5, f6, f7, f8, f9, f10, f11, f12, l⟩ := a
    simp only at k1 w0
    subst k1
    simp only [RightA, RefA, FreshA, WorthA, AlgoA, keptA, w0, AskV.mk.injEq, if_true, true_and, and_true, ne_eq, not_true_eq_false, false_and, or_false, true_or, forall_const, false_implies]
    constructor
    · rintro ⟨hr, v1, va, vs, t0, sd, ⟨q, p, e⟩, st, sp, al⟩
      refine ⟨hr, ⟨t0, ?_, ?_, ?_⟩, v1, ⟨q, p, e⟩, va, vs, sd, ?_, st, ?_, ?_, sp, ?_⟩
      all_goals (rcases al with ⟨g, x, y, z⟩ | ⟨g, x, y, z⟩ | ⟨g, x, y, z⟩ | ⟨g, x, y, z⟩ <;> subst g <;> simp_all)
    · rintro ⟨hr, ⟨t0, x1, x2, x3⟩, v1, ⟨q, p, e⟩, va, vs, sd, ga, st, r3, r4, sp, cv⟩
      refine ⟨hr, v1, va, vs, t0, sd, ⟨q, p, e⟩, st, sp, ?_⟩
      have y1 : f8 ≠ 3 → f11 = 0 := fun h => x1.trans (if_neg h)
      have y2 : f8 ≠ 4 → f12 = 0 := fun h => x2.trans (if_neg h)
      have y3 : f8 ≠ 2 → l = [] := fun h => x3.trans (if_neg h)
      clear x1 x2 x3
      have : f8 = 1 ∨ f8 = 2 ∨ f8 = 3 ∨ f8 = 4 := by omega
      rcases this with g | g | g | g
      · exact .inl ⟨g, y3 (by omega), y1 (by omega), y2 (by omega)⟩
      · exact .inr (.inl ⟨g, cv g, y1 (by omega), y2 (by omega)⟩)
      · exact .inr (.inr (.inl ⟨g, y3 (by omega), r3 g, y2 (by omega)⟩))
      · exact .inr (.inr (.inr ⟨g, y3 (by omega), y1 (by omega), r4 g⟩))
  · obtain ⟨f0, f1, f2, f3, f4, f5, f6, f7, f8, f9, f10, f11, f12, l⟩ := a
    simp only at k1
    by_cases k3 : f0 = 3
    · subst k3
      simp only [RightA, RefA, BareA, WorthA, keptA, AskV.mk.injEq]
      simp
      constructor
      · rintro ⟨v1, v2, ⟨b3, b4, b5, b8, b9, b11, b12, bl⟩, q, p, e⟩
        simp_all
      · rintro ⟨⟨b3, b4, b5, b8, b9, b11, b12, bl⟩, v1, v2, q, p, e⟩
        simp_all
    · simp only [RightA, RefA, BareA, WorthA, keptA, if_neg k1, if_neg k3, AskV.mk.injEq]
      simp [k1, k3]
      intro _ _
      constructor
      · rintro ⟨v1, v2, ⟨b3, b4, b5, b8, b9, b11, b12, bl⟩, q, p, e⟩
        simp_all
      · rintro ⟨⟨b3, b4, b5, q, p, b8, b9, e, b11, b12, bl⟩, v1, v2⟩
        simp_all
theorem ref_right_loop (l : List Int) (hl : l.length ≤ 64) : ∀ (n i : Nat) (s : Int), i + n = l.length → 0 ≤ s → s ≤ 1048576 * (i : Int) → spigotref03_Right.l0 (n + 1) l s (i : Int) = some (curveGo (decide (s > 0)) (l.drop i)) := by
  intro n
  induction n with
  | zero =>
    intro i s hi h0 h1
    rw [List.drop_eq_nil_of_le (by omega), spigotref03_Right.l0, if_neg (by omega)]; rfl
  | succ n ih =>
    intro i s hi h0 h1
    have hlt : i < l.length := by omega
    have hr : rd l (i : Int) = l[i] := by unfold rd; rw [Int.toNat_natCast, List.getD_eq_getElem?_getD, List.getElem?_eq_getElem hlt]; rfl
    have hw : wrap64 ((i : Int) + 1) = ((i + 1 : Nat) : Int) := by rw [w64 (by omega) (by omega)]; omega
    rw [List.drop_eq_getElem_cons hlt, spigotref03_Right.l0, if_pos (by omega), if_pos (by omega), hr, hw, curveGo]
    generalize l[i] = x at *
    by_cases c1 : x < 0
    · rw [if_pos c1, if_pos c1]
    rw [if_neg c1, if_neg c1]
    by_cases c2 : x > 1048576
    · rw [if_pos c2, if_pos c2]
    rw [if_neg c2, if_neg c2, w64 (x := s + x) (by omega) (by omega), ih (i + 1) (s + x) (by omega) (by omega) (by omega)]
    by_cases c3 : s > 0
    · rw [if_pos (decide_eq_true c3), decide_eq_true (show s + x > 0 by omega)]
    · rw [if_neg (by rw [decide_eq_false c3]; decide), show s + x = x by omega]
theorem ref_right_f (l : List Int) : spigotref03_Right.f 66 l = some (curveOk l) := by
  have hj : ∀ b : Bool, spigotref03_Right.j0 66 l b = if b = true then some false else spigotref03_Right.l0 65 l 0 0 := fun b => by
    first | rfl | (rw [spigotref03_Right.j0]; done) | (cases b <;> rw [spigotref03_Right.j0] <;> rfl)
  unfold spigotref03_Right.f curveOk
  by_cases c1 : (l.length : Int) < 1
  · rw [if_pos c1, hj, if_pos rfl, decide_eq_false (show ¬ 1 ≤ l.length by omega)]; rfl
  rw [if_neg c1, hj, decide_eq_true (show 1 ≤ l.length by omega)]
  by_cases c2 : (l.length : Int) > 64
  · rw [if_pos (decide_eq_true c2), decide_eq_false (show ¬ l.length ≤ 64 by omega)]; rfl
  rw [if_neg (by rw [decide_eq_false c2]; decide), decide_eq_true (show l.length ≤ 64 by omega)]
  have h := ref_right_loop l (by omega) l.length 0 0 (by omega) (by omega) (by omega)
  rw [List.drop_zero] at h
  obtain ⟨d, hd⟩ : ∃ d, 65 = (l.length + 1) + d := ⟨64 - l.length, by omega⟩
  have hm : spigotref03_Right.l0 65 l 0 0 = some (curveGo false l) := by
    rw [hd]
    clear hd
    induction d with
    | zero => exact h
    | succ d ihd =>
      rw [show l.length + 1 + (d + 1) = l.length + 1 + d + 1 by omega]
      exact (spigotref03_Right.mono_l _).2 l 0 0 _ ihd
  rw [hm]
  simp
theorem in12_f (x lo hi : Int) : spigotref12_in.f x lo hi = some (decide (lo ≤ x ∧ x ≤ hi)) := by
  unfold spigotref12_in.f
  by_cases c : x ≥ lo
  · rw [if_pos c]; congr 1; rw [decide_eq_decide]; omega
  · rw [if_neg c]; congr 1; symm; rw [decide_eq_false_iff_not]; omega
theorem ref_whole_f (a : AskV) : spigotref12_Whole.f 67 a.f0 a.f1 a.f2 a.f3 a.f4 a.f5 a.f6 a.f7 a.f8 a.f9 a.f10 a.f11 a.f12 a.f13 = some (wholeA a) := by
  have hj : ∀ b, spigotref12_Whole.j0 67 b a.f0 a.f1 a.f2 a.f3 a.f4 a.f5 a.f6 a.f7 a.f8 a.f9 a.f10 a.f11 a.f12 a.f13 = if b = true then some (5003, 282) else if a.f0 = 1 then (if a.f8 = 2 then (if curveOk a.f13 = true then some (0, 0) else some (5006, 30)) else some (0, 0)) else some (0, 0) := fun b => by
    rw [spigotref12_Whole.j0, ref_right_f]; rfl
  unfold spigotref12_Whole.f wholeA
  rw [in12_f]
  simp only [Option.bind_some, hj]
  by_cases c1 : a.f0 = 1
  · rw [if_pos c1, if_pos c1, if_pos c1]
    by_cases c2 : 1 ≤ wrap64 (a.f10 - a.f9) ∧ wrap64 (a.f10 - a.f9) ≤ 1073741824
    · rw [if_pos c2, if_neg (by rw [decide_eq_true c2]; decide)]
      by_cases c3 : a.f8 = 2
      · rw [if_pos c3, if_pos c3]
        by_cases c4 : curveOk a.f13 = true
        · rw [if_pos c4, if_pos c4]
        · rw [if_neg c4, if_neg c4]
      · rw [if_neg c3, if_neg c3]
    · rw [if_neg c2, if_pos (by rw [decide_eq_false c2]; rfl)]
  · rw [if_neg c1, if_neg c1, if_neg (by decide), if_neg c1]
theorem hin (x lo hi : Int) (W : World) : Calls Tryz.prog 24 #[.int .i64 x, .int .i64 lo, .int .i64 hi] W fun e w' => e = .returned (.bool (decide (lo ≤ x ∧ x ≤ hi))) ∧ Drawn0 W w' := spigotref12_in.calls x lo hi _ W (in12_f x lo hi)
theorem hv4 (s : ByteArray) (h : s.size ≤ 70368744177664) (W : World) : Calls Tryz.prog 26 #[.string s] W fun e w' => e = .returned (.bool (decide (validB s))) ∧ Below W.heap.size W w' := spigotref04_Valid.calls s _ W (by
  unfold spigotref04_Valid.f
  rw [if_pos h]
  by_cases c : nameL s.data.toList 0 = true
  · rw [c, decide_eq_true (show validB s from c)]
  · rw [decide_eq_false (show ¬ validB s from c), Bool.eq_false_iff.2 c])
theorem ret_r {P : World → Prop} {b b' : Bool} (h : b = b') {e : Ending} {w : World} (H : e = .returned (.bool b) ∧ P w) : e = .returned (.bool b') ∧ P w := h ▸ H
theorem kept_C {a : AskV} {A : Option Addr} {c : Nat} {K : Option Addr} {m : Nat} {W : World} (h : KeptIs a A c K m) (hC : Kd.C (Kd.int .i64) W A a.f13.length a.f13) (hc : a.f13.length ≤ c) : Kd.C (Kd.int .i64) W K (keptA a).f13.length (keptA a).f13 ∧ (keptA a).f13.length ≤ m ∧ ((keptA a).f13 = a.f13 ∨ (keptA a).f13 = []) := by
  rcases h with ⟨rfl, rfl, e⟩ | ⟨rfl, rfl, e⟩
  · rw [e]; exact ⟨hC, hc, .inl rfl⟩
  · rw [e]; exact ⟨Kd.C_nil _ _, Nat.le_refl _, .inr rfl⟩
theorem ref_right_all (a : AskV) (A : Option Addr) (c : Nat) (w : World) (h1 : a.f1.size ≤ 70368744177664) (h2 : a.f2.size ≤ 70368744177664) (h3 : a.f3.size ≤ 70368744177664) (h4 : a.f4.size ≤ 70368744177664) (hl : a.f13.length ≤ 1000000) (hC : Kd.C (Kd.int .i64) w A a.f13.length a.f13) (hc : a.f13.length ≤ c) :
    Calls Tryz.prog 11 #[aC a A a.f13.length c] w fun e w' => e = .returned (.bool (decide (RightA a))) ∧ Below w.heap.size w w' := by
  obtain ⟨K, m, hK, hk⟩ := kept_all a A c
  have hkp : ∀ W, Below w.heap.size w W → Calls Tryz.prog 25 #[aC a A a.f13.length c] W fun e w' => e = .returned (aC (keptA a) K (keptA a).f13.length m) ∧ Below W.heap.size W w' := fun W _ => hk W
  have hsm : ∀ W, Below w.heap.size w W → Calls Tryz.prog 14 #[aC a A a.f13.length c, aC (keptA a) K (keptA a).f13.length m] W fun e w' => e = .returned (.bool (sameB a (keptA a))) ∧ Below W.heap.size W w' := fun W hW => by
    have hh := kept_C hK (Kd.C_below hC hW) hc
    exact same_all a (keptA a) A c K m W hl hh.2.2 (Kd.C_below hC hW) hc hh.1 hh.2.1
  have hi0 := fun W => hin a.f0 1 5 W
  have hv1 := fun W => hv4 a.f1 h1 W
  have hv2 := fun W => hv4 a.f2 h2 W
  by_cases i0 : 1 ≤ a.f0 ∧ a.f0 ≤ 5
  rotate_left
  · rw [decide_eq_false i0] at hi0
    exact (rr_A a.f0 a.f1 a.f2 a.f3 a.f4 a.f5 a.f6 a.f7 a.f8 a.f9 a.f10 a.f11 a.f12 A c a.f13 w ⟨hi0⟩).mono fun e w' H => ret_r (P := fun w' => Below w.heap.size w w') (decide_eq_false fun h => i0 h.1).symm H
  rw [decide_eq_true i0] at hi0
  by_cases sm : a = keptA a
  rotate_left
  · rw [Bool.eq_false_iff.2 (fun h => sm ((sameB_iff _ _).1 h))] at hsm
    exact (rr_B a.f0 a.f1 a.f2 a.f3 a.f4 a.f5 a.f6 a.f7 a.f8 a.f9 a.f10 a.f11 a.f12 A c a.f13 w (keptA a).f0 (keptA a).f1 (keptA a).f2 (keptA a).f3 (keptA a).f4 (keptA a).f5 (keptA a).f6 (keptA a).f7 (keptA a).f8 (keptA a).f9 (keptA a).f10 (keptA a).f11 (keptA a).f12 K (keptA a).f13.length m ⟨hi0⟩ ⟨hkp⟩ ⟨hsm⟩).mono fun e w' H => ret_r (P := fun w' => Below w.heap.size w w') (decide_eq_false fun h => sm ((right_iff a).1 h).2.1).symm H
  rw [(sameB_iff _ _).2 sm] at hsm
  by_cases v1 : validB a.f1
  rotate_left
  · rw [decide_eq_false v1] at hv1
    exact (rr_C a.f0 a.f1 a.f2 a.f3 a.f4 a.f5 a.f6 a.f7 a.f8 a.f9 a.f10 a.f11 a.f12 A c a.f13 w (keptA a).f0 (keptA a).f1 (keptA a).f2 (keptA a).f3 (keptA a).f4 (keptA a).f5 (keptA a).f6 (keptA a).f7 (keptA a).f8 (keptA a).f9 (keptA a).f10 (keptA a).f11 (keptA a).f12 K (keptA a).f13.length m ⟨hi0⟩ ⟨hkp⟩ ⟨hsm⟩ ⟨hv1⟩).mono fun e w' H => ret_r (P := fun w' => Below w.heap.size w w') (decide_eq_false fun h => v1 h.2.1).symm H
  rw [decide_eq_true v1] at hv1
  by_cases k1 : a.f0 = 1
  · have hwh : ∀ W, Below w.heap.size w W → Calls Tryz.prog 27 #[aC a A a.f13.length c] W fun e w' => e = .returned (.tuple #[.int .i64 (wholeA a).1, .int .i64 (wholeA a).2]) ∧ Below W.heap.size W w' := fun W hW => spigotref12_Whole.calls 67 a.f0 a.f1 a.f2 a.f3 a.f4 a.f5 a.f6 a.f7 a.f8 a.f9 a.f10 a.f11 a.f12 A c a.f13 _ _ W (Kd.C_below hC hW) hc (ref_whole_f a)
    have e0 : (a.f0 != 1) = false := by rw [k1]; rfl
    have e1 : (a.f0 == 1) = true := by rw [k1]; rfl
    have few : ((wholeA a).2 == 0) = decide ((wholeA a).2 = 0) := int_bb _ _
    refine (rr_y a.f0 a.f1 a.f2 a.f3 a.f4 a.f5 a.f6 a.f7 a.f8 a.f9 a.f10 a.f11 a.f12 A c a.f13 w (keptA a).f0 (keptA a).f1 (keptA a).f2 (keptA a).f3 (keptA a).f4 (keptA a).f5 (keptA a).f6 (keptA a).f7 (keptA a).f8 (keptA a).f9 (keptA a).f10 (keptA a).f11 (keptA a).f12 K (keptA a).f13.length m ⟨hi0⟩ ⟨hkp⟩ ⟨hsm⟩ ⟨hv1⟩ _ _ _ _ _ _ _ _ _ _ _ _ _ e1 e0 (int_bb a.f8 3) (int_bb a.f8 4) ⟨fun W => hin _ _ _ W⟩ ⟨fun W => hin _ _ _ W⟩ ⟨fun W => hin _ _ _ W⟩ ⟨fun W => hin _ _ _ W⟩ ⟨fun W => hin _ _ _ W⟩ ⟨fun W => hin _ _ _ W⟩ ⟨fun W => hin _ _ _ W⟩ ⟨fun W => hin _ _ _ W⟩ ⟨fun W => hv4 _ h3 W⟩ ⟨fun W => hv4 _ h4 W⟩ _ _ ⟨hwh⟩ few).mono fun e w' H => ret_r (P := fun w' => Below w.heap.size w w') ?_ H
    rw [Bool.eq_iff_iff]
    simp only [Bool.and_eq_true, Bool.or_eq_true, Bool.not_eq_true', decide_eq_true_eq, decide_eq_false_iff_not, right_iff]
    constructor
    · rintro ⟨q, p, e, va, vs, sd, al, st, r3, r4, we⟩
      exact ⟨i0, sm, v1, fun g => absurd k1 g, fun _ => ⟨q, p, e⟩, fun _ => ⟨va, vs, sd, al, st, fun g => r3.resolve_left (fun n => n g), fun g => r4.resolve_left (fun n => n g), we⟩⟩
    · intro h
      have x := h.2.2.2.2.1 (.inl k1)
      have y := h.2.2.2.2.2 k1
      exact ⟨x.1, x.2.1, x.2.2, y.1, y.2.1, y.2.2.1, y.2.2.2.1, y.2.2.2.2.1, (Classical.em (a.f8 = 3)).elim (fun g => .inr (y.2.2.2.2.2.1 g)) .inl, (Classical.em (a.f8 = 4)).elim (fun g => .inr (y.2.2.2.2.2.2.1 g)) .inl, y.2.2.2.2.2.2.2⟩
  have e0 : (a.f0 != 1) = true := bne_iff_ne.2 k1
  have e1 : (a.f0 == 1) = false := beq_eq_false_iff_ne.2 k1
  refine (rr_n a.f0 a.f1 a.f2 a.f3 a.f4 a.f5 a.f6 a.f7 a.f8 a.f9 a.f10 a.f11 a.f12 A c a.f13 w (keptA a).f0 (keptA a).f1 (keptA a).f2 (keptA a).f3 (keptA a).f4 (keptA a).f5 (keptA a).f6 (keptA a).f7 (keptA a).f8 (keptA a).f9 (keptA a).f10 (keptA a).f11 (keptA a).f12 K (keptA a).f13.length m ⟨hi0⟩ ⟨hkp⟩ ⟨hsm⟩ ⟨hv1⟩ _ _ _ _ _ e1 e0 (int_bb a.f0 3) ⟨hv2⟩ ⟨fun W => hin _ _ _ W⟩ ⟨fun W => hin _ _ _ W⟩ ⟨fun W => hin _ _ _ W⟩).mono fun e w' H => ret_r (P := fun w' => Below w.heap.size w w') ?_ H
  rw [Bool.eq_iff_iff]
  simp only [Bool.and_eq_true, Bool.or_eq_true, Bool.not_eq_true', decide_eq_true_eq, decide_eq_false_iff_not, right_iff]
  constructor
  · rintro ⟨h, hq⟩
    exact ⟨i0, sm, v1, fun _ => h, fun g => hq.resolve_left (fun n => g.elim k1 n), fun g => absurd g k1⟩
  · intro h
    exact ⟨h.2.2.2.1 k1, (Classical.em (a.f0 = 3)).elim (fun g => .inr (h.2.2.2.2.1 (.inr g))) .inl⟩
end Go.Proofs.YtgfigkfcmkdjdaaGreatDoor.B
end
