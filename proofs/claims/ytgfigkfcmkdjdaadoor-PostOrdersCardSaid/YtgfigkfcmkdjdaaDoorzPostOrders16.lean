/- The functions that the law reaches, as plain Lean functions, and their contracts: texts merged. -/
import Derived.Laws.StructEq
import Derived.Test.YtgfigkfcmkdjdaaDoorzPostOrders3
import Derived.Test.YtgfigkfcmkdjdaaDoorzPostOrders0
import Derived.Test.YtgfigkfcmkdjdaaDoorzPostOrders1
import Derived.Test.YtgfigkfcmkdjdaaDoorzPostOrders2
import Derived.Test.YtgfigkfcmkdjdaaDoorzPostOrders4
import Derived.Test.YtgfigkfcmkdjdaaDoorzPostOrders5
import Derived.Test.YtgfigkfcmkdjdaaDoorzPostOrders6
import Derived.Test.YtgfigkfcmkdjdaaDoorzPostOrders7
import Derived.Test.YtgfigkfcmkdjdaaDoorzPostOrders8
import Derived.Test.YtgfigkfcmkdjdaaDoorzPostOrders9
import Derived.Test.YtgfigkfcmkdjdaaDoorzPostOrders10
import Derived.Test.YtgfigkfcmkdjdaaDoorzPostOrders11
import Derived.Test.YtgfigkfcmkdjdaaDoorzPostOrders12
import Derived.Test.YtgfigkfcmkdjdaaDoorzPostOrders13
import Derived.Test.YtgfigkfcmkdjdaaDoorzPostOrders14
import Derived.Test.YtgfigkfcmkdjdaaDoorzPostOrders15
section
namespace Go.Proofs.YtgfigkfcmkdjdaaDoor.B
open Go.RowKit Go.Proofs.YtgfigkfcmkdjdaaDoorW.PrintWords Go.Proofs.YtgfigkfcmkdjdaaDoorW.PrintLast Go.Proofs.YtgfigkfcmkdjdaaDoorW.PrintMore
attribute [local go_sem] max2_int min2_int max_two min_two max_three min_three max_four min_four   -- for this text's walks alone
set_option linter.unusedVariables false
set_option linter.unusedSimpArgs false
def spigotlaw14_awake_p.f  : Option (Bool) := (post_EncodeOrder.f 2 7 (⟨#[99, 49]⟩ : ByteArray) (⟨#[]⟩ : ByteArray) 0 0 0).bind fun bt241 => ((post_DecodeReply.f (⟨#[51, 53, 61, 57, 1, 51, 52, 61, 50, 1, 49, 49, 61, 99, 49, 1]⟩ : ByteArray)).bind fun bt243 => (if bt241.1.toList = ([51, 53, 61, 70, 1, 51, 52, 61, 55, 1, 49, 49, 61, 99, 49, 1] : List UInt8) then (if bt241.2 = 0 then (if bt243.2.2.2.2.2.2.2.2 = 0 then (if bt243.1 = 7 then (some (bt243.2.1 == 2)) else (some false)) else (some false)) else (some false)) else (some false)))
set_option maxHeartbeats 8000000 in
set_option maxRecDepth 100000 in
theorem spigotlaw14_awake_p.calls  (r : Bool) (w : World) (hT_ : Aside0 (Tabs_ w)) (h : spigotlaw14_awake_p.f  = some r) :
    Calls Tryd.prog 22 #[] w fun e w' => e = .returned (.bool r) ∧ Below w.heap.size w w' := by
  have hu41 := Tryd.underlying41
  have hu54 := Tryd.underlying54
  have HB := Aside0.mk (Below.refl w.heap.size w)
  have H : ((post_EncodeOrder.f 2 7 (⟨#[99, 49]⟩ : ByteArray) (⟨#[]⟩ : ByteArray) 0 0 0).bind fun bt241 => ((post_DecodeReply.f (⟨#[51, 53, 61, 57, 1, 51, 52, 61, 50, 1, 49, 49, 61, 99, 49, 1]⟩ : ByteArray)).bind fun bt243 => (if bt241.1.toList = ([51, 53, 61, 70, 1, 51, 52, 61, 55, 1, 49, 49, 61, 99, 49, 1] : List UInt8) then (if bt241.2 = 0 then (if bt243.2.2.2.2.2.2.2.2 = 0 then (if bt243.1 = 7 then (some (bt243.2.1 == 2)) else (some false)) else (some false)) else (some false)) else (some false)))) = some r := h
  clear h
  replace H := Option.bind_eq_some_iff.mp H
  obtain ⟨⟨t241, t242⟩, A10, H⟩ := H
  replace H : ((post_DecodeReply.f (⟨#[51, 53, 61, 57, 1, 51, 52, 61, 50, 1, 49, 49, 61, 99, 49, 1]⟩ : ByteArray)).bind fun bt243 => (if t241.toList = ([51, 53, 61, 70, 1, 51, 52, 61, 55, 1, 49, 49, 61, 99, 49, 1] : List UInt8) then (if t242 = 0 then (if bt243.2.2.2.2.2.2.2.2 = 0 then (if bt243.1 = 7 then (some (bt243.2.1 == 2)) else (some false)) else (some false)) else (some false)) else (some false))) = some r := H
  have A1 := Aside0.mk A10
  clear A10
  replace H := Option.bind_eq_some_iff.mp H
  obtain ⟨⟨t243, t244, t245, t246, t247, t248, t249, t250, t251⟩, A20, H⟩ := H
  replace H : (if t241.toList = ([51, 53, 61, 70, 1, 51, 52, 61, 55, 1, 49, 49, 61, 99, 49, 1] : List UInt8) then (if t242 = 0 then (if t251 = 0 then (if t243 = 7 then (some (t244 == 2)) else (some false)) else (some false)) else (some false)) else (some false)) = some r := H
  have A2 := Aside0.mk A20
  clear A20
  by_cases c3 : t241.toList = ([51, 53, 61, 70, 1, 51, 52, 61, 55, 1, 49, 49, 61, 99, 49, 1] : List UInt8)
  · rw [if_pos c3] at H
    have c3b0 : (t241.toList == ([51, 53, 61, 70, 1, 51, 52, 61, 55, 1, 49, 49, 61, 99, 49, 1] : List UInt8)) = true := beq_iff_eq.mpr c3
    have c3b1 : (t241.toList != ([51, 53, 61, 70, 1, 51, 52, 61, 55, 1, 49, 49, 61, 99, 49, 1] : List UInt8)) = false := bne_eq_false_iff_eq.mpr c3
    clear c3
    by_cases c4 : t242 = 0
    · rw [if_pos c4] at H
      have c4b0 : (t242 == 0) = true := beq_iff_eq.mpr c4
      have c4b1 : (t242 != 0) = false := bne_eq_false_iff_eq.mpr c4
      clear c4
      by_cases c5 : t251 = 0
      · rw [if_pos c5] at H
        have c5b0 : (t251 == 0) = true := beq_iff_eq.mpr c5
        have c5b1 : (t251 != 0) = false := bne_eq_false_iff_eq.mpr c5
        clear c5
        by_cases c6 : t243 = 7
        · rw [if_pos c6] at H
          have c6b0 : (t243 == 7) = true := beq_iff_eq.mpr c6
          have c6b1 : (t243 != 7) = false := bne_eq_false_iff_eq.mpr c6
          clear c6
          obtain rfl := Option.some.inj H
          go_enter Tryd.func22, Tryd.ntmps22
          go_wp2_with (first | ((with_reducible refine gate_callee (f := 24) rfl ?_); refine goesL_ (some 8) rfl rfl Tryd.func24 (by kernel_rfl) rfl #[.agg #[.int .i64 2, .int .i64 7, .string (⟨#[99, 49]⟩ : ByteArray), .string (⟨#[]⟩ : ByteArray), .int .i64 0, .int .i64 0, .int .i64 0]] rfl (by (try simp only [List.map_toArray, List.map_cons, List.map_nil]); first | done | rfl | (simp only [List.length_drop, List.length_take]; rfl)) ?_; (with_reducible refine (post_EncodeOrder.calls 2 7 (⟨#[99, 49]⟩ : ByteArray) (⟨#[]⟩ : ByteArray) 0 0 0 t241 t242 _ ?side1 A1.out).mono ?_); (case side1 => exact Aside0.mk (Tabs_.below hT_.out (by repeat (first | (with_reducible first | exact HB.out | apply below_alloc | apply pw_below_drewN | apply below_drew1) | exact HB.out)))); rintro e w7 ⟨rfl, hb⟩; refine ⟨_, rfl, ?_⟩; have n0_ := Aside0.mk (below_step (by repeat (first | (with_reducible first | exact HB.out | apply below_alloc | apply pw_below_drewN | apply below_drew1) | exact HB.out)) hb); clear HB; have HB := n0_; clear n0_; (try clear hb); (try clear hb2); (try clear hk); (try clear hi)) | ((with_reducible refine gate_callee (f := 31) rfl ?_); refine goesL_ (some 12) rfl rfl Tryd.func31 (by kernel_rfl) rfl #[.string (⟨#[51, 53, 61, 57, 1, 51, 52, 61, 50, 1, 49, 49, 61, 99, 49, 1]⟩ : ByteArray)] rfl (by (try simp only [List.map_toArray, List.map_cons, List.map_nil]); first | done | rfl | (simp only [List.length_drop, List.length_take]; rfl)) ?_; (with_reducible refine (post_DecodeReply.calls (⟨#[51, 53, 61, 57, 1, 51, 52, 61, 50, 1, 49, 49, 61, 99, 49, 1]⟩ : ByteArray) t243 t244 t245 t246 t247 t248 t249 t250 t251 _ A2.out).mono ?_); rintro e w8 ⟨rfl, hb⟩; refine ⟨_, rfl, ?_⟩; have n0_ := Aside0.mk (below_step (by repeat (first | (with_reducible first | exact HB.out | apply below_alloc | apply pw_below_drewN | apply below_drew1) | exact HB.out)) hb); clear HB; have HB := n0_; clear n0_; (try clear hb); (try clear hb2); (try clear hk); (try clear hi)) | ((with_reducible refine gate_dst (N := 3) rfl ?_); refine box_event ?hg (N := 3) ?hd (cs := #[.int .i64 0, .int .i64 0, .string (⟨#[]⟩ : ByteArray), .string (⟨#[]⟩ : ByteArray), .int .i64 0, .int .i64 0, .string (⟨#[]⟩ : ByteArray)]) (t := 54) ?hr ?_; (case hd => rfl); (case hg => rfl); (case hr => first | (go_simp; done) | (go_simp; rfl)); intro gb252 hg w9 hbox hb; have n0_ := Aside0.mk (below_step (by repeat (first | (with_reducible first | exact HB.out | apply below_alloc | apply pw_below_drewN | apply below_drew1) | exact HB.out)) hb); have n1_ := Aside0.mk (hbox); have n2_ := Aside0.mk ((by rw [hg]; exact (below_size (by repeat (first | (with_reducible first | exact HB.out | apply below_alloc | apply pw_below_drewN | apply below_drew1) | exact HB.out))) : w.heap.size ≤ gb252)); have n3_ := Aside0.mk ((by rw [hg]; exact (below_size (by repeat (first | (with_reducible first | exact HB.out | apply below_alloc | apply pw_below_drewN | apply below_drew1) | exact HB.out))) : w.heap.size ≤ gb252)); clear HB; have HB := n0_; have BK252 := n1_; have GW252 := n2_; have GE252 := n3_; clear n0_ n1_ n2_ n3_; clear hb hbox hg; have hcz10_0 : w9.cell? ⟨gb252, 0, none⟩ = some (.int .i64 0) := (blk_cell BK252.out 0).trans rfl; have hcz10_1 : w9.cell? ⟨gb252, 1, none⟩ = some (.int .i64 0) := (blk_cell BK252.out 1).trans rfl; have hcz10_2 : w9.cell? ⟨gb252, 2, none⟩ = some (.string (⟨#[]⟩ : ByteArray)) := (blk_cell BK252.out 2).trans rfl; have hcz10_3 : w9.cell? ⟨gb252, 3, none⟩ = some (.string (⟨#[]⟩ : ByteArray)) := (blk_cell BK252.out 3).trans rfl; have hcz10_4 : w9.cell? ⟨gb252, 4, none⟩ = some (.int .i64 0) := (blk_cell BK252.out 4).trans rfl; have hcz10_5 : w9.cell? ⟨gb252, 5, none⟩ = some (.int .i64 0) := (blk_cell BK252.out 5).trans rfl; have hcz10_6 : w9.cell? ⟨gb252, 6, none⟩ = some (.string (⟨#[]⟩ : ByteArray)) := (blk_cell BK252.out 6).trans rfl; have hfz10_0 := blk_frozen BK252.out 0; have hfz10_1 := blk_frozen BK252.out 1; have hfz10_2 := blk_frozen BK252.out 2; have hfz10_3 := blk_frozen BK252.out 3; have hfz10_4 := blk_frozen BK252.out 4; have hfz10_5 := blk_frozen BK252.out 5; have hfz10_6 := blk_frozen BK252.out 6))
          go_ret
          exact ⟨by first | rfl | (simp [errW_none, errW_some] <;> rfl) | (simp [*, errW_none, errW_some] <;> rfl), by repeat (first | (with_reducible first | exact HB.out | apply below_alloc | apply pw_below_drewN | apply below_drew1 | refine below_set ?_ GE252.out) | exact HB.out)⟩
        · rw [if_neg c6] at H
          have c6b0 : (t243 == 7) = false := beq_eq_false_iff_ne.mpr c6
          have c6b1 : (t243 != 7) = true := bne_iff_ne.mpr c6
          obtain rfl := Option.some.inj H
          go_enter Tryd.func22, Tryd.ntmps22
          go_wp2_with (first | ((with_reducible refine gate_callee (f := 24) rfl ?_); refine goesL_ (some 8) rfl rfl Tryd.func24 (by kernel_rfl) rfl #[.agg #[.int .i64 2, .int .i64 7, .string (⟨#[99, 49]⟩ : ByteArray), .string (⟨#[]⟩ : ByteArray), .int .i64 0, .int .i64 0, .int .i64 0]] rfl (by (try simp only [List.map_toArray, List.map_cons, List.map_nil]); first | done | rfl | (simp only [List.length_drop, List.length_take]; rfl)) ?_; (with_reducible refine (post_EncodeOrder.calls 2 7 (⟨#[99, 49]⟩ : ByteArray) (⟨#[]⟩ : ByteArray) 0 0 0 t241 t242 _ ?side1 A1.out).mono ?_); (case side1 => exact Aside0.mk (Tabs_.below hT_.out (by repeat (first | (with_reducible first | exact HB.out | apply below_alloc | apply pw_below_drewN | apply below_drew1) | exact HB.out)))); rintro e w11 ⟨rfl, hb⟩; refine ⟨_, rfl, ?_⟩; have n0_ := Aside0.mk (below_step (by repeat (first | (with_reducible first | exact HB.out | apply below_alloc | apply pw_below_drewN | apply below_drew1) | exact HB.out)) hb); clear HB; have HB := n0_; clear n0_; (try clear hb); (try clear hb2); (try clear hk); (try clear hi)) | ((with_reducible refine gate_callee (f := 31) rfl ?_); refine goesL_ (some 12) rfl rfl Tryd.func31 (by kernel_rfl) rfl #[.string (⟨#[51, 53, 61, 57, 1, 51, 52, 61, 50, 1, 49, 49, 61, 99, 49, 1]⟩ : ByteArray)] rfl (by (try simp only [List.map_toArray, List.map_cons, List.map_nil]); first | done | rfl | (simp only [List.length_drop, List.length_take]; rfl)) ?_; (with_reducible refine (post_DecodeReply.calls (⟨#[51, 53, 61, 57, 1, 51, 52, 61, 50, 1, 49, 49, 61, 99, 49, 1]⟩ : ByteArray) t243 t244 t245 t246 t247 t248 t249 t250 t251 _ A2.out).mono ?_); rintro e w12 ⟨rfl, hb⟩; refine ⟨_, rfl, ?_⟩; have n0_ := Aside0.mk (below_step (by repeat (first | (with_reducible first | exact HB.out | apply below_alloc | apply pw_below_drewN | apply below_drew1) | exact HB.out)) hb); clear HB; have HB := n0_; clear n0_; (try clear hb); (try clear hb2); (try clear hk); (try clear hi)) | ((with_reducible refine gate_dst (N := 3) rfl ?_); refine box_event ?hg (N := 3) ?hd (cs := #[.int .i64 0, .int .i64 0, .string (⟨#[]⟩ : ByteArray), .string (⟨#[]⟩ : ByteArray), .int .i64 0, .int .i64 0, .string (⟨#[]⟩ : ByteArray)]) (t := 54) ?hr ?_; (case hd => rfl); (case hg => rfl); (case hr => first | (go_simp; done) | (go_simp; rfl)); intro gb252 hg w13 hbox hb; have n0_ := Aside0.mk (below_step (by repeat (first | (with_reducible first | exact HB.out | apply below_alloc | apply pw_below_drewN | apply below_drew1) | exact HB.out)) hb); have n1_ := Aside0.mk (hbox); have n2_ := Aside0.mk ((by rw [hg]; exact (below_size (by repeat (first | (with_reducible first | exact HB.out | apply below_alloc | apply pw_below_drewN | apply below_drew1) | exact HB.out))) : w.heap.size ≤ gb252)); have n3_ := Aside0.mk ((by rw [hg]; exact (below_size (by repeat (first | (with_reducible first | exact HB.out | apply below_alloc | apply pw_below_drewN | apply below_drew1) | exact HB.out))) : w.heap.size ≤ gb252)); clear HB; have HB := n0_; have BK252 := n1_; have GW252 := n2_; have GE252 := n3_; clear n0_ n1_ n2_ n3_; clear hb hbox hg; have hcz14_0 : w13.cell? ⟨gb252, 0, none⟩ = some (.int .i64 0) := (blk_cell BK252.out 0).trans rfl; have hcz14_1 : w13.cell? ⟨gb252, 1, none⟩ = some (.int .i64 0) := (blk_cell BK252.out 1).trans rfl; have hcz14_2 : w13.cell? ⟨gb252, 2, none⟩ = some (.string (⟨#[]⟩ : ByteArray)) := (blk_cell BK252.out 2).trans rfl; have hcz14_3 : w13.cell? ⟨gb252, 3, none⟩ = some (.string (⟨#[]⟩ : ByteArray)) := (blk_cell BK252.out 3).trans rfl; have hcz14_4 : w13.cell? ⟨gb252, 4, none⟩ = some (.int .i64 0) := (blk_cell BK252.out 4).trans rfl; have hcz14_5 : w13.cell? ⟨gb252, 5, none⟩ = some (.int .i64 0) := (blk_cell BK252.out 5).trans rfl; have hcz14_6 : w13.cell? ⟨gb252, 6, none⟩ = some (.string (⟨#[]⟩ : ByteArray)) := (blk_cell BK252.out 6).trans rfl; have hfz14_0 := blk_frozen BK252.out 0; have hfz14_1 := blk_frozen BK252.out 1; have hfz14_2 := blk_frozen BK252.out 2; have hfz14_3 := blk_frozen BK252.out 3; have hfz14_4 := blk_frozen BK252.out 4; have hfz14_5 := blk_frozen BK252.out 5; have hfz14_6 := blk_frozen BK252.out 6))
          go_ret
          exact ⟨by first | rfl | (simp [errW_none, errW_some] <;> rfl) | (simp [*, errW_none, errW_some] <;> rfl), by repeat (first | (with_reducible first | exact HB.out | apply below_alloc | apply pw_below_drewN | apply below_drew1 | refine below_set ?_ GE252.out) | exact HB.out)⟩
      · rw [if_neg c5] at H
        have c5b0 : (t251 == 0) = false := beq_eq_false_iff_ne.mpr c5
        have c5b1 : (t251 != 0) = true := bne_iff_ne.mpr c5
        obtain rfl := Option.some.inj H
        go_enter Tryd.func22, Tryd.ntmps22
        go_wp2_with (first | ((with_reducible refine gate_callee (f := 24) rfl ?_); refine goesL_ (some 8) rfl rfl Tryd.func24 (by kernel_rfl) rfl #[.agg #[.int .i64 2, .int .i64 7, .string (⟨#[99, 49]⟩ : ByteArray), .string (⟨#[]⟩ : ByteArray), .int .i64 0, .int .i64 0, .int .i64 0]] rfl (by (try simp only [List.map_toArray, List.map_cons, List.map_nil]); first | done | rfl | (simp only [List.length_drop, List.length_take]; rfl)) ?_; (with_reducible refine (post_EncodeOrder.calls 2 7 (⟨#[99, 49]⟩ : ByteArray) (⟨#[]⟩ : ByteArray) 0 0 0 t241 t242 _ ?side1 A1.out).mono ?_); (case side1 => exact Aside0.mk (Tabs_.below hT_.out (by repeat (first | (with_reducible first | exact HB.out | apply below_alloc | apply pw_below_drewN | apply below_drew1) | exact HB.out)))); rintro e w15 ⟨rfl, hb⟩; refine ⟨_, rfl, ?_⟩; have n0_ := Aside0.mk (below_step (by repeat (first | (with_reducible first | exact HB.out | apply below_alloc | apply pw_below_drewN | apply below_drew1) | exact HB.out)) hb); clear HB; have HB := n0_; clear n0_; (try clear hb); (try clear hb2); (try clear hk); (try clear hi)) | ((with_reducible refine gate_callee (f := 31) rfl ?_); refine goesL_ (some 12) rfl rfl Tryd.func31 (by kernel_rfl) rfl #[.string (⟨#[51, 53, 61, 57, 1, 51, 52, 61, 50, 1, 49, 49, 61, 99, 49, 1]⟩ : ByteArray)] rfl (by (try simp only [List.map_toArray, List.map_cons, List.map_nil]); first | done | rfl | (simp only [List.length_drop, List.length_take]; rfl)) ?_; (with_reducible refine (post_DecodeReply.calls (⟨#[51, 53, 61, 57, 1, 51, 52, 61, 50, 1, 49, 49, 61, 99, 49, 1]⟩ : ByteArray) t243 t244 t245 t246 t247 t248 t249 t250 t251 _ A2.out).mono ?_); rintro e w16 ⟨rfl, hb⟩; refine ⟨_, rfl, ?_⟩; have n0_ := Aside0.mk (below_step (by repeat (first | (with_reducible first | exact HB.out | apply below_alloc | apply pw_below_drewN | apply below_drew1) | exact HB.out)) hb); clear HB; have HB := n0_; clear n0_; (try clear hb); (try clear hb2); (try clear hk); (try clear hi)) | ((with_reducible refine gate_dst (N := 3) rfl ?_); refine box_event ?hg (N := 3) ?hd (cs := #[.int .i64 0, .int .i64 0, .string (⟨#[]⟩ : ByteArray), .string (⟨#[]⟩ : ByteArray), .int .i64 0, .int .i64 0, .string (⟨#[]⟩ : ByteArray)]) (t := 54) ?hr ?_; (case hd => rfl); (case hg => rfl); (case hr => first | (go_simp; done) | (go_simp; rfl)); intro gb252 hg w17 hbox hb; have n0_ := Aside0.mk (below_step (by repeat (first | (with_reducible first | exact HB.out | apply below_alloc | apply pw_below_drewN | apply below_drew1) | exact HB.out)) hb); have n1_ := Aside0.mk (hbox); have n2_ := Aside0.mk ((by rw [hg]; exact (below_size (by repeat (first | (with_reducible first | exact HB.out | apply below_alloc | apply pw_below_drewN | apply below_drew1) | exact HB.out))) : w.heap.size ≤ gb252)); have n3_ := Aside0.mk ((by rw [hg]; exact (below_size (by repeat (first | (with_reducible first | exact HB.out | apply below_alloc | apply pw_below_drewN | apply below_drew1) | exact HB.out))) : w.heap.size ≤ gb252)); clear HB; have HB := n0_; have BK252 := n1_; have GW252 := n2_; have GE252 := n3_; clear n0_ n1_ n2_ n3_; clear hb hbox hg; have hcz18_0 : w17.cell? ⟨gb252, 0, none⟩ = some (.int .i64 0) := (blk_cell BK252.out 0).trans rfl; have hcz18_1 : w17.cell? ⟨gb252, 1, none⟩ = some (.int .i64 0) := (blk_cell BK252.out 1).trans rfl; have hcz18_2 : w17.cell? ⟨gb252, 2, none⟩ = some (.string (⟨#[]⟩ : ByteArray)) := (blk_cell BK252.out 2).trans rfl; have hcz18_3 : w17.cell? ⟨gb252, 3, none⟩ = some (.string (⟨#[]⟩ : ByteArray)) := (blk_cell BK252.out 3).trans rfl; have hcz18_4 : w17.cell? ⟨gb252, 4, none⟩ = some (.int .i64 0) := (blk_cell BK252.out 4).trans rfl; have hcz18_5 : w17.cell? ⟨gb252, 5, none⟩ = some (.int .i64 0) := (blk_cell BK252.out 5).trans rfl; have hcz18_6 : w17.cell? ⟨gb252, 6, none⟩ = some (.string (⟨#[]⟩ : ByteArray)) := (blk_cell BK252.out 6).trans rfl; have hfz18_0 := blk_frozen BK252.out 0; have hfz18_1 := blk_frozen BK252.out 1; have hfz18_2 := blk_frozen BK252.out 2; have hfz18_3 := blk_frozen BK252.out 3; have hfz18_4 := blk_frozen BK252.out 4; have hfz18_5 := blk_frozen BK252.out 5; have hfz18_6 := blk_frozen BK252.out 6))
        go_ret
        exact ⟨by first | rfl | (simp [errW_none, errW_some] <;> rfl) | (simp [*, errW_none, errW_some] <;> rfl), by repeat (first | (with_reducible first | exact HB.out | apply below_alloc | apply pw_below_drewN | apply below_drew1 | refine below_set ?_ GE252.out) | exact HB.out)⟩
    · rw [if_neg c4] at H
      have c4b0 : (t242 == 0) = false := beq_eq_false_iff_ne.mpr c4
      have c4b1 : (t242 != 0) = true := bne_iff_ne.mpr c4
      obtain rfl := Option.some.inj H
      go_enter Tryd.func22, Tryd.ntmps22
      go_wp2_with (first | ((with_reducible refine gate_callee (f := 24) rfl ?_); refine goesL_ (some 8) rfl rfl Tryd.func24 (by kernel_rfl) rfl #[.agg #[.int .i64 2, .int .i64 7, .string (⟨#[99, 49]⟩ : ByteArray), .string (⟨#[]⟩ : ByteArray), .int .i64 0, .int .i64 0, .int .i64 0]] rfl (by (try simp only [List.map_toArray, List.map_cons, List.map_nil]); first | done | rfl | (simp only [List.length_drop, List.length_take]; rfl)) ?_; (with_reducible refine (post_EncodeOrder.calls 2 7 (⟨#[99, 49]⟩ : ByteArray) (⟨#[]⟩ : ByteArray) 0 0 0 t241 t242 _ ?side1 A1.out).mono ?_); (case side1 => exact Aside0.mk (Tabs_.below hT_.out (by repeat (first | (with_reducible first | exact HB.out | apply below_alloc | apply pw_below_drewN | apply below_drew1) | exact HB.out)))); rintro e w19 ⟨rfl, hb⟩; refine ⟨_, rfl, ?_⟩; have n0_ := Aside0.mk (below_step (by repeat (first | (with_reducible first | exact HB.out | apply below_alloc | apply pw_below_drewN | apply below_drew1) | exact HB.out)) hb); clear HB; have HB := n0_; clear n0_; (try clear hb); (try clear hb2); (try clear hk); (try clear hi)) | ((with_reducible refine gate_callee (f := 31) rfl ?_); refine goesL_ (some 12) rfl rfl Tryd.func31 (by kernel_rfl) rfl #[.string (⟨#[51, 53, 61, 57, 1, 51, 52, 61, 50, 1, 49, 49, 61, 99, 49, 1]⟩ : ByteArray)] rfl (by (try simp only [List.map_toArray, List.map_cons, List.map_nil]); first | done | rfl | (simp only [List.length_drop, List.length_take]; rfl)) ?_; (with_reducible refine (post_DecodeReply.calls (⟨#[51, 53, 61, 57, 1, 51, 52, 61, 50, 1, 49, 49, 61, 99, 49, 1]⟩ : ByteArray) t243 t244 t245 t246 t247 t248 t249 t250 t251 _ A2.out).mono ?_); rintro e w20 ⟨rfl, hb⟩; refine ⟨_, rfl, ?_⟩; have n0_ := Aside0.mk (below_step (by repeat (first | (with_reducible first | exact HB.out | apply below_alloc | apply pw_below_drewN | apply below_drew1) | exact HB.out)) hb); clear HB; have HB := n0_; clear n0_; (try clear hb); (try clear hb2); (try clear hk); (try clear hi)) | ((with_reducible refine gate_dst (N := 3) rfl ?_); refine box_event ?hg (N := 3) ?hd (cs := #[.int .i64 0, .int .i64 0, .string (⟨#[]⟩ : ByteArray), .string (⟨#[]⟩ : ByteArray), .int .i64 0, .int .i64 0, .string (⟨#[]⟩ : ByteArray)]) (t := 54) ?hr ?_; (case hd => rfl); (case hg => rfl); (case hr => first | (go_simp; done) | (go_simp; rfl)); intro gb252 hg w21 hbox hb; have n0_ := Aside0.mk (below_step (by repeat (first | (with_reducible first | exact HB.out | apply below_alloc | apply pw_below_drewN | apply below_drew1) | exact HB.out)) hb); have n1_ := Aside0.mk (hbox); have n2_ := Aside0.mk ((by rw [hg]; exact (below_size (by repeat (first | (with_reducible first | exact HB.out | apply below_alloc | apply pw_below_drewN | apply below_drew1) | exact HB.out))) : w.heap.size ≤ gb252)); have n3_ := Aside0.mk ((by rw [hg]; exact (below_size (by repeat (first | (with_reducible first | exact HB.out | apply below_alloc | apply pw_below_drewN | apply below_drew1) | exact HB.out))) : w.heap.size ≤ gb252)); clear HB; have HB := n0_; have BK252 := n1_; have GW252 := n2_; have GE252 := n3_; clear n0_ n1_ n2_ n3_; clear hb hbox hg; have hcz22_0 : w21.cell? ⟨gb252, 0, none⟩ = some (.int .i64 0) := (blk_cell BK252.out 0).trans rfl; have hcz22_1 : w21.cell? ⟨gb252, 1, none⟩ = some (.int .i64 0) := (blk_cell BK252.out 1).trans rfl; have hcz22_2 : w21.cell? ⟨gb252, 2, none⟩ = some (.string (⟨#[]⟩ : ByteArray)) := (blk_cell BK252.out 2).trans rfl; have hcz22_3 : w21.cell? ⟨gb252, 3, none⟩ = some (.string (⟨#[]⟩ : ByteArray)) := (blk_cell BK252.out 3).trans rfl; have hcz22_4 : w21.cell? ⟨gb252, 4, none⟩ = some (.int .i64 0) := (blk_cell BK252.out 4).trans rfl; have hcz22_5 : w21.cell? ⟨gb252, 5, none⟩ = some (.int .i64 0) := (blk_cell BK252.out 5).trans rfl; have hcz22_6 : w21.cell? ⟨gb252, 6, none⟩ = some (.string (⟨#[]⟩ : ByteArray)) := (blk_cell BK252.out 6).trans rfl; have hfz22_0 := blk_frozen BK252.out 0; have hfz22_1 := blk_frozen BK252.out 1; have hfz22_2 := blk_frozen BK252.out 2; have hfz22_3 := blk_frozen BK252.out 3; have hfz22_4 := blk_frozen BK252.out 4; have hfz22_5 := blk_frozen BK252.out 5; have hfz22_6 := blk_frozen BK252.out 6))
      go_ret
      exact ⟨by first | rfl | (simp [errW_none, errW_some] <;> rfl) | (simp [*, errW_none, errW_some] <;> rfl), by repeat (first | (with_reducible first | exact HB.out | apply below_alloc | apply pw_below_drewN | apply below_drew1 | refine below_set ?_ GE252.out) | exact HB.out)⟩
  · rw [if_neg c3] at H
    have c3b0 : (t241.toList == ([51, 53, 61, 70, 1, 51, 52, 61, 55, 1, 49, 49, 61, 99, 49, 1] : List UInt8)) = false := beq_eq_false_iff_ne.mpr c3
    have c3b1 : (t241.toList != ([51, 53, 61, 70, 1, 51, 52, 61, 55, 1, 49, 49, 61, 99, 49, 1] : List UInt8)) = true := bne_iff_ne.mpr c3
    obtain rfl := Option.some.inj H
    go_enter Tryd.func22, Tryd.ntmps22
    go_wp2_with (first | ((with_reducible refine gate_callee (f := 24) rfl ?_); refine goesL_ (some 8) rfl rfl Tryd.func24 (by kernel_rfl) rfl #[.agg #[.int .i64 2, .int .i64 7, .string (⟨#[99, 49]⟩ : ByteArray), .string (⟨#[]⟩ : ByteArray), .int .i64 0, .int .i64 0, .int .i64 0]] rfl (by (try simp only [List.map_toArray, List.map_cons, List.map_nil]); first | done | rfl | (simp only [List.length_drop, List.length_take]; rfl)) ?_; (with_reducible refine (post_EncodeOrder.calls 2 7 (⟨#[99, 49]⟩ : ByteArray) (⟨#[]⟩ : ByteArray) 0 0 0 t241 t242 _ ?side1 A1.out).mono ?_); (case side1 => exact Aside0.mk (Tabs_.below hT_.out (by repeat (first | (with_reducible first | exact HB.out | apply below_alloc | apply pw_below_drewN | apply below_drew1) | exact HB.out)))); rintro e w23 ⟨rfl, hb⟩; refine ⟨_, rfl, ?_⟩; have n0_ := Aside0.mk (below_step (by repeat (first | (with_reducible first | exact HB.out | apply below_alloc | apply pw_below_drewN | apply below_drew1) | exact HB.out)) hb); clear HB; have HB := n0_; clear n0_; (try clear hb); (try clear hb2); (try clear hk); (try clear hi)) | ((with_reducible refine gate_callee (f := 31) rfl ?_); refine goesL_ (some 12) rfl rfl Tryd.func31 (by kernel_rfl) rfl #[.string (⟨#[51, 53, 61, 57, 1, 51, 52, 61, 50, 1, 49, 49, 61, 99, 49, 1]⟩ : ByteArray)] rfl (by (try simp only [List.map_toArray, List.map_cons, List.map_nil]); first | done | rfl | (simp only [List.length_drop, List.length_take]; rfl)) ?_; (with_reducible refine (post_DecodeReply.calls (⟨#[51, 53, 61, 57, 1, 51, 52, 61, 50, 1, 49, 49, 61, 99, 49, 1]⟩ : ByteArray) t243 t244 t245 t246 t247 t248 t249 t250 t251 _ A2.out).mono ?_); rintro e w24 ⟨rfl, hb⟩; refine ⟨_, rfl, ?_⟩; have n0_ := Aside0.mk (below_step (by repeat (first | (with_reducible first | exact HB.out | apply below_alloc | apply pw_below_drewN | apply below_drew1) | exact HB.out)) hb); clear HB; have HB := n0_; clear n0_; (try clear hb); (try clear hb2); (try clear hk); (try clear hi)) | ((with_reducible refine gate_dst (N := 3) rfl ?_); refine box_event ?hg (N := 3) ?hd (cs := #[.int .i64 0, .int .i64 0, .string (⟨#[]⟩ : ByteArray), .string (⟨#[]⟩ : ByteArray), .int .i64 0, .int .i64 0, .string (⟨#[]⟩ : ByteArray)]) (t := 54) ?hr ?_; (case hd => rfl); (case hg => rfl); (case hr => first | (go_simp; done) | (go_simp; rfl)); intro gb252 hg w25 hbox hb; have n0_ := Aside0.mk (below_step (by repeat (first | (with_reducible first | exact HB.out | apply below_alloc | apply pw_below_drewN | apply below_drew1) | exact HB.out)) hb); have n1_ := Aside0.mk (hbox); have n2_ := Aside0.mk ((by rw [hg]; exact (below_size (by repeat (first | (with_reducible first | exact HB.out | apply below_alloc | apply pw_below_drewN | apply below_drew1) | exact HB.out))) : w.heap.size ≤ gb252)); have n3_ := Aside0.mk ((by rw [hg]; exact (below_size (by repeat (first | (with_reducible first | exact HB.out | apply below_alloc | apply pw_below_drewN | apply below_drew1) | exact HB.out))) : w.heap.size ≤ gb252)); clear HB; have HB := n0_; have BK252 := n1_; have GW252 := n2_; have GE252 := n3_; clear n0_ n1_ n2_ n3_; clear hb hbox hg; have hcz26_0 : w25.cell? ⟨gb252, 0, none⟩ = some (.int .i64 0) := (blk_cell BK252.out 0).trans rfl; have hcz26_1 : w25.cell? ⟨gb252, 1, none⟩ = some (.int .i64 0) := (blk_cell BK252.out 1).trans rfl; have hcz26_2 : w25.cell? ⟨gb252, 2, none⟩ = some (.string (⟨#[]⟩ : ByteArray)) := (blk_cell BK252.out 2).trans rfl; have hcz26_3 : w25.cell? ⟨gb252, 3, none⟩ = some (.string (⟨#[]⟩ : ByteArray)) := (blk_cell BK252.out 3).trans rfl; have hcz26_4 : w25.cell? ⟨gb252, 4, none⟩ = some (.int .i64 0) := (blk_cell BK252.out 4).trans rfl; have hcz26_5 : w25.cell? ⟨gb252, 5, none⟩ = some (.int .i64 0) := (blk_cell BK252.out 5).trans rfl; have hcz26_6 : w25.cell? ⟨gb252, 6, none⟩ = some (.string (⟨#[]⟩ : ByteArray)) := (blk_cell BK252.out 6).trans rfl; have hfz26_0 := blk_frozen BK252.out 0; have hfz26_1 := blk_frozen BK252.out 1; have hfz26_2 := blk_frozen BK252.out 2; have hfz26_3 := blk_frozen BK252.out 3; have hfz26_4 := blk_frozen BK252.out 4; have hfz26_5 := blk_frozen BK252.out 5; have hfz26_6 := blk_frozen BK252.out 6))
    go_ret
    exact ⟨by first | rfl | (simp [errW_none, errW_some] <;> rfl) | (simp [*, errW_none, errW_some] <;> rfl), by repeat (first | (with_reducible first | exact HB.out | apply below_alloc | apply pw_below_drewN | apply below_drew1 | refine below_set ?_ GE252.out) | exact HB.out)⟩
structure OrdOk (a : OrdV) : Prop where
  form : allFormsL ((ordF a).map pairF) = ((((ordF a).map pairF).map fieldL).flatten, 0)
  back : orderD ⟨((((ordF a).map pairF).map fieldL).flatten).toArray⟩ = (a, 0, 0)
  cross : (replyD ⟨((((ordF a).map pairF).map fieldL).flatten).toArray⟩).2.2 ≠ 0
theorem read_of (L : List S78) (hlen : L.length ≤ 64) (hg : ∀ f ∈ L.map pairF, goodF f) (hn : (tagsOf L).Nodup) (h0 : 0 < L.length) (h35 : (rd_T78 L 0).f0 = 35) :
    allFormsL (L.map pairF) = (((L.map pairF).map fieldL).flatten, 0) ∧ readB ⟨(((L.map pairF).map fieldL).flatten).toArray⟩ = (some (formOf L), 0) := by
  have hf := allFormsL_good _ (by rw [List.length_map]; exact hlen) hg
  have hr := readB_formed L hn h0 h35 (fun x hx => by have := (hg (pairF x) (List.mem_map_of_mem hx)).1; unfold pairF at this; simp only at this; omega) (by rw [hf])
  rw [hf] at hr
  exact ⟨hf, hr⟩
theorem cross_of {s : ByteArray} {F : FormS} {v : ByteArray} (h : readB s = (some F, 0)) (hv : (F.vals 35).getD ⟨#[]⟩ = v) (c8 : v ≠ ⟨#[56]⟩) (c9 : v ≠ ⟨#[57]⟩) : (replyD s).2.2 ≠ 0 := by
  rw [replyD_bad h hv (show takeP v F = ((zRep, 35, 120), F.mark 35) by unfold takeP; rw [if_neg c8, if_neg c9]) (by decide)]
  show (120 : Int) ≠ 0; decide
theorem crossO_of {s : ByteArray} {F : FormS} {v : ByteArray} (h : readB s = (some F, 0)) (hv : (F.vals 35).getD ⟨#[]⟩ = v) (hk : ordKind v = 0) : (orderD s).2.2 ≠ 0 := by
  rw [orderD_bad h hv (show takeO v F = ((zOrd, 35, 120), F.mark 35) by unfold takeO; rw [if_pos hk]) (by decide)]
  show (120 : Int) ≠ 0; decide
set_option maxRecDepth 100000 in
theorem ord_ok1 (q d z p : Int) (i y : ByteArray) (hq : 1 ≤ q ∧ q ≤ 1099511627776) (hd : 1 ≤ d ∧ d ≤ 2) (hz : 1 ≤ z ∧ z ≤ 1099511627776) (hp : 1 ≤ p ∧ p ≤ 1099511627776) (ni : nameL i.data.toList 0 = true) (ny : nameL y.data.toList 0 = true) : OrdOk ⟨1, q, i, y, d, z, p⟩ := by
  have eL : ordF ⟨1, q, i, y, d, z, p⟩ = [⟨35, ⟨#[68]⟩⟩, ⟨34, digitsB q⟩, ⟨11, i⟩, ⟨55, y⟩, ⟨54, digitsB d⟩, ⟨38, digitsB z⟩, ⟨44, digitsB p⟩] := rfl
  obtain ⟨hf, hr⟩ := read_of (ordF ⟨1, q, i, y, d, z, p⟩) (by rw [eL]; simp) (by
    rw [eL]
    simp only [List.map_cons, List.map_nil, pairF, List.forall_mem_cons]
    exact ⟨goodF_one 35 68 (by decide) (by decide) (by decide) (by decide), goodF_num 34 q (by decide) (by decide) (by omega), goodF_name 11 i (by decide) (by decide) ni, goodF_name 55 y (by decide) (by decide) ny, goodF_num 54 d (by decide) (by decide) (by omega), goodF_num 38 z (by decide) (by decide) (by omega), goodF_num 44 p (by decide) (by decide) (by omega), fun _ h => absurd h List.not_mem_nil⟩) (by rw [eL]; show List.Nodup [35, 34, 11, 55, 54, 38, 44]; decide) (by rw [eL]; simp) (by rw [eL]; rfl)
  have hv : ((formOf (ordF ⟨1, q, i, y, d, z, p⟩)).vals 35).getD ⟨#[]⟩ = ⟨#[68]⟩ := by rw [eL]; rfl
  have E1 := ask_int_ok (F := (formOf (ordF ⟨1, q, i, y, d, z, p⟩)).mark 35) (t := 34) (lo := 1) (hi := 1099511627776) rfl (by rw [eL]; rfl) (by omega) (by omega) (by omega) (by omega)
  have E2 := ask_name_ok (F := ((formOf (ordF ⟨1, q, i, y, d, z, p⟩)).mark 35).mark 34) (t := 11) rfl (by rw [eL]; rfl) ni
  have E3 := ask_name_ok (F := (((formOf (ordF ⟨1, q, i, y, d, z, p⟩)).mark 35).mark 34).mark 11) (t := 55) rfl (by rw [eL]; rfl) ny
  have E4 := ask_int_ok (F := ((((formOf (ordF ⟨1, q, i, y, d, z, p⟩)).mark 35).mark 34).mark 11).mark 55) (t := 54) (lo := 1) (hi := 2) rfl (by rw [eL]; rfl) (by omega) (by omega) (by omega) (by omega)
  have E5 := ask_int_ok (F := (((((formOf (ordF ⟨1, q, i, y, d, z, p⟩)).mark 35).mark 34).mark 11).mark 55).mark 54) (t := 38) (lo := 1) (hi := 1099511627776) rfl (by rw [eL]; rfl) (by omega) (by omega) (by omega) (by omega)
  have E6 := ask_int_ok (F := ((((((formOf (ordF ⟨1, q, i, y, d, z, p⟩)).mark 35).mark 34).mark 11).mark 55).mark 54).mark 38) (t := 44) (lo := 1) (hi := 1099511627776) rfl (by rw [eL]; rfl) (by omega) (by omega) (by omega) (by omega)
  have hto : takeO ⟨#[68]⟩ (formOf (ordF ⟨1, q, i, y, d, z, p⟩)) = ((⟨1, q, i, y, d, z, p⟩, 0, 0), (((((((formOf (ordF ⟨1, q, i, y, d, z, p⟩)).mark 35).mark 34).mark 11).mark 55).mark 54).mark 38).mark 44) := by
    unfold takeO
    rw [show ordKind ⟨#[68]⟩ = 1 from rfl, if_neg (by decide), show ordSchema 1 = [.int 34 1 1099511627776, .name 11, .name 55, .int 54 1 2, .int 38 1 1099511627776, .int 44 1 1099511627776] from rfl, asksT_int E1, asksT_name E2, asksT_name E3, asksT_int E4, asksT_int E5, asksT_int E6]
    rfl
  exact ⟨hf, orderD_good hr hv hto (doneL_ok rfl (by rw [eL]; rfl)), cross_of hr hv (by decide) (by decide)⟩
set_option maxRecDepth 100000 in
theorem ord_ok2 (q : Int) (i : ByteArray) (hq : 1 ≤ q ∧ q ≤ 1099511627776) (ni : nameL i.data.toList 0 = true) : OrdOk ⟨2, q, i, ⟨#[]⟩, 0, 0, 0⟩ := by
  have eL : ordF ⟨2, q, i, ⟨#[]⟩, 0, 0, 0⟩ = [⟨35, ⟨#[70]⟩⟩, ⟨34, digitsB q⟩, ⟨11, i⟩] := rfl
  obtain ⟨hf, hr⟩ := read_of (ordF ⟨2, q, i, ⟨#[]⟩, 0, 0, 0⟩) (by rw [eL]; simp) (by
    rw [eL]
    simp only [List.map_cons, List.map_nil, pairF, List.forall_mem_cons]
    exact ⟨goodF_one 35 70 (by decide) (by decide) (by decide) (by decide), goodF_num 34 q (by decide) (by decide) (by omega), goodF_name 11 i (by decide) (by decide) ni, fun _ h => absurd h List.not_mem_nil⟩) (by rw [eL]; show List.Nodup [35, 34, 11]; decide) (by rw [eL]; simp) (by rw [eL]; rfl)
  have hv : ((formOf (ordF ⟨2, q, i, ⟨#[]⟩, 0, 0, 0⟩)).vals 35).getD ⟨#[]⟩ = ⟨#[70]⟩ := by rw [eL]; rfl
  have E1 := ask_int_ok (F := (formOf (ordF ⟨2, q, i, ⟨#[]⟩, 0, 0, 0⟩)).mark 35) (t := 34) (lo := 1) (hi := 1099511627776) rfl (by rw [eL]; rfl) (by omega) (by omega) (by omega) (by omega)
  have E2 := ask_name_ok (F := ((formOf (ordF ⟨2, q, i, ⟨#[]⟩, 0, 0, 0⟩)).mark 35).mark 34) (t := 11) rfl (by rw [eL]; rfl) ni
  have hto : takeO ⟨#[70]⟩ (formOf (ordF ⟨2, q, i, ⟨#[]⟩, 0, 0, 0⟩)) = ((⟨2, q, i, ⟨#[]⟩, 0, 0, 0⟩, 0, 0), (((formOf (ordF ⟨2, q, i, ⟨#[]⟩, 0, 0, 0⟩)).mark 35).mark 34).mark 11) := by
    unfold takeO
    rw [show ordKind ⟨#[70]⟩ = 2 from rfl, if_neg (by decide), show ordSchema 2 = [.int 34 1 1099511627776, .name 11] from rfl, asksT_int E1, asksT_name E2]
    rfl
  exact ⟨hf, orderD_good hr hv hto (doneL_ok rfl (by rw [eL]; rfl)), cross_of hr hv (by decide) (by decide)⟩
set_option maxRecDepth 100000 in
theorem ord_ok3 (q z p : Int) (i : ByteArray) (hq : 1 ≤ q ∧ q ≤ 1099511627776) (hz : 1 ≤ z ∧ z ≤ 1099511627776) (hp : 1 ≤ p ∧ p ≤ 1099511627776) (ni : nameL i.data.toList 0 = true) : OrdOk ⟨3, q, i, ⟨#[]⟩, 0, z, p⟩ := by
  have eL : ordF ⟨3, q, i, ⟨#[]⟩, 0, z, p⟩ = [⟨35, ⟨#[71]⟩⟩, ⟨34, digitsB q⟩, ⟨11, i⟩, ⟨38, digitsB z⟩, ⟨44, digitsB p⟩] := rfl
  obtain ⟨hf, hr⟩ := read_of (ordF ⟨3, q, i, ⟨#[]⟩, 0, z, p⟩) (by rw [eL]; simp) (by
    rw [eL]
    simp only [List.map_cons, List.map_nil, pairF, List.forall_mem_cons]
    exact ⟨goodF_one 35 71 (by decide) (by decide) (by decide) (by decide), goodF_num 34 q (by decide) (by decide) (by omega), goodF_name 11 i (by decide) (by decide) ni, goodF_num 38 z (by decide) (by decide) (by omega), goodF_num 44 p (by decide) (by decide) (by omega), fun _ h => absurd h List.not_mem_nil⟩) (by rw [eL]; show List.Nodup [35, 34, 11, 38, 44]; decide) (by rw [eL]; simp) (by rw [eL]; rfl)
  have hv : ((formOf (ordF ⟨3, q, i, ⟨#[]⟩, 0, z, p⟩)).vals 35).getD ⟨#[]⟩ = ⟨#[71]⟩ := by rw [eL]; rfl
  have E1 := ask_int_ok (F := (formOf (ordF ⟨3, q, i, ⟨#[]⟩, 0, z, p⟩)).mark 35) (t := 34) (lo := 1) (hi := 1099511627776) rfl (by rw [eL]; rfl) (by omega) (by omega) (by omega) (by omega)
  have E2 := ask_name_ok (F := ((formOf (ordF ⟨3, q, i, ⟨#[]⟩, 0, z, p⟩)).mark 35).mark 34) (t := 11) rfl (by rw [eL]; rfl) ni
  have E3 := ask_int_ok (F := (((formOf (ordF ⟨3, q, i, ⟨#[]⟩, 0, z, p⟩)).mark 35).mark 34).mark 11) (t := 38) (lo := 1) (hi := 1099511627776) rfl (by rw [eL]; rfl) (by omega) (by omega) (by omega) (by omega)
  have E4 := ask_int_ok (F := ((((formOf (ordF ⟨3, q, i, ⟨#[]⟩, 0, z, p⟩)).mark 35).mark 34).mark 11).mark 38) (t := 44) (lo := 1) (hi := 1099511627776) rfl (by rw [eL]; rfl) (by omega) (by omega) (by omega) (by omega)
  have hto : takeO ⟨#[71]⟩ (formOf (ordF ⟨3, q, i, ⟨#[]⟩, 0, z, p⟩)) = ((⟨3, q, i, ⟨#[]⟩, 0, z, p⟩, 0, 0), (((((formOf (ordF ⟨3, q, i, ⟨#[]⟩, 0, z, p⟩)).mark 35).mark 34).mark 11).mark 38).mark 44) := by
    unfold takeO
    rw [show ordKind ⟨#[71]⟩ = 3 from rfl, if_neg (by decide), show ordSchema 3 = [.int 34 1 1099511627776, .name 11, .int 38 1 1099511627776, .int 44 1 1099511627776] from rfl, asksT_int E1, asksT_name E2, asksT_int E3, asksT_int E4]
    rfl
  exact ⟨hf, orderD_good hr hv hto (doneL_ok rfl (by rw [eL]; rfl)), cross_of hr hv (by decide) (by decide)⟩
theorem ord_ok (a : OrdV) (h : rightO a = true) : OrdOk a := by
  obtain ⟨f0, f1, f2, f3, f4, f5, f6⟩ := a
  obtain ⟨_, hq, hi, hs⟩ := (rightO_iff _).1 h
  simp only at hq hi hs
  rcases hs with ⟨rfl, hy, hd, hz, hp⟩ | ⟨rfl, rfl, rfl, rfl, rfl⟩ | ⟨rfl, rfl, rfl, hz, hp⟩
  · exact ord_ok1 f1 f4 f5 f6 f2 f3 hq hd hz hp hi hy
  · exact ord_ok2 f1 f2 hq hi
  · exact ord_ok3 f1 f5 f6 f2 hq hz hp hi
theorem encO_right (a : OrdV) (h : rightO a = true) : encO a = (⟨((((ordF a).map pairF).map fieldL).flatten).toArray⟩, 0) := by
  unfold encO
  rw [if_pos h, (ord_ok a h).form]; rfl
theorem encO_wrong (a : OrdV) (h : rightO a = false) : encO a = (⟨#[]⟩, 2) := by
  unfold encO
  rw [if_neg (by rw [h]; decide)]
theorem rightO_sizes (a : OrdV) (h : rightO a = true) : a.f2.size ≤ 80 ∧ a.f3.size ≤ 80 := by
  have key : ∀ s : ByteArray, nameL s.data.toList 0 = true → s.size ≤ 80 := fun s hs => by
    have := (nameL_value hs).2
    rwa [size_list] at this
  have z : (⟨#[]⟩ : ByteArray).size ≤ 80 := by decide
  obtain ⟨_, _, hi, hs⟩ := (rightO_iff a).1 h
  refine ⟨key _ hi, ?_⟩
  rcases hs with ⟨_, hy, _⟩ | ⟨_, hy, _⟩ | ⟨_, hy, _⟩
  · exact key _ hy
  · rw [hy]; exact z
  · rw [hy]; exact z
structure RepOk (a : RepV) : Prop where
  form : allFormsL ((repF a).map pairF) = ((((repF a).map pairF).map fieldL).flatten, 0)
  back : replyD ⟨((((repF a).map pairF).map fieldL).flatten).toArray⟩ = (a, 0, 0)
  cross : (orderD ⟨((((repF a).map pairF).map fieldL).flatten).toArray⟩).2.2 ≠ 0
theorem one_name (b : UInt8) (h : b.toNat < 128) (hm : mayN b.toNat = true) : nameL (⟨#[b]⟩ : ByteArray).data.toList 0 = true := by
  show nameL [b] 0 = true
  rw [nameL_go [b] (by simp) 0 (by decide) (by rw [dec_ascii b [] h]; exact hm), dec_ascii b [] h]
  show nameL [] 1 = true
  rw [nameL_nil]; rfl
set_option maxRecDepth 100000 in
theorem rep_ok1 (q : Int) (i : ByteArray) (hq : 1 ≤ q ∧ q ≤ 1099511627776) (ni : nameL i.data.toList 0 = true) (x : ByteArray) (nx : nameL x.data.toList 0 = true) : RepOk ⟨1, q, i, x, 0, 0, ⟨#[]⟩⟩ := by
  have eL : repF ⟨1, q, i, x, 0, 0, ⟨#[]⟩⟩ = [⟨35, ⟨#[56]⟩⟩, ⟨34, digitsB q⟩, ⟨11, i⟩, ⟨17, x⟩, ⟨150, ⟨#[48]⟩⟩] := rfl
  obtain ⟨hf, hr⟩ := read_of (repF ⟨1, q, i, x, 0, 0, ⟨#[]⟩⟩) (by rw [eL]; simp) (by
    rw [eL]
    simp only [List.map_cons, List.map_nil, pairF, List.forall_mem_cons]
    exact ⟨goodF_one 35 56 (by decide) (by decide) (by decide) (by decide), goodF_num 34 q (by decide) (by decide) (by omega), goodF_name 11 i (by decide) (by decide) ni, goodF_name 17 x (by decide) (by decide) nx, goodF_one 150 48 (by decide) (by decide) (by decide) (by decide), fun _ h => absurd h List.not_mem_nil⟩) (by rw [eL]; show List.Nodup [35, 34, 11, 17, 150]; decide) (by rw [eL]; simp) (by rw [eL]; rfl)
  have hv : ((formOf (repF ⟨1, q, i, x, 0, 0, ⟨#[]⟩⟩)).vals 35).getD ⟨#[]⟩ = ⟨#[56]⟩ := by rw [eL]; rfl
  have E1 := ask_int_ok (F := (formOf (repF ⟨1, q, i, x, 0, 0, ⟨#[]⟩⟩)).mark 35) (t := 34) (lo := 1) (hi := 1099511627776) rfl (by rw [eL]; rfl) (by omega) (by omega) (by omega) (by omega)
  have E2 := ask_name_ok (F := ((formOf (repF ⟨1, q, i, x, 0, 0, ⟨#[]⟩⟩)).mark 35).mark 34) (t := 11) rfl (by rw [eL]; rfl) ni
  have E3 := ask_name_ok (F := (((formOf (repF ⟨1, q, i, x, 0, 0, ⟨#[]⟩⟩)).mark 35).mark 34).mark 11) (t := 17) rfl (by rw [eL]; rfl) nx
  have E4 := ask_name_ok (F := ((((formOf (repF ⟨1, q, i, x, 0, 0, ⟨#[]⟩⟩)).mark 35).mark 34).mark 11).mark 17) (t := 150) (s := ⟨#[48]⟩) rfl (by rw [eL]; rfl) (one_name 48 (by decide) (by decide))
  exact ⟨hf, replyD_good hr hv (takeP_8 E1 E2 (reportP_k (k := 1) E3 E4 rfl (by first | decide | exact doneL_on rfl) rfl (by decide) (by decide) (by decide))) (doneL_ok rfl (by rw [eL]; rfl)), crossO_of hr hv rfl⟩
set_option maxRecDepth 100000 in
theorem rep_ok2 (q : Int) (i : ByteArray) (hq : 1 ≤ q ∧ q ≤ 1099511627776) (ni : nameL i.data.toList 0 = true) (x : ByteArray) (nx : nameL x.data.toList 0 = true) : RepOk ⟨2, q, i, x, 0, 0, ⟨#[]⟩⟩ := by
  have eL : repF ⟨2, q, i, x, 0, 0, ⟨#[]⟩⟩ = [⟨35, ⟨#[56]⟩⟩, ⟨34, digitsB q⟩, ⟨11, i⟩, ⟨17, x⟩, ⟨150, ⟨#[52]⟩⟩] := rfl
  obtain ⟨hf, hr⟩ := read_of (repF ⟨2, q, i, x, 0, 0, ⟨#[]⟩⟩) (by rw [eL]; simp) (by
    rw [eL]
    simp only [List.map_cons, List.map_nil, pairF, List.forall_mem_cons]
    exact ⟨goodF_one 35 56 (by decide) (by decide) (by decide) (by decide), goodF_num 34 q (by decide) (by decide) (by omega), goodF_name 11 i (by decide) (by decide) ni, goodF_name 17 x (by decide) (by decide) nx, goodF_one 150 52 (by decide) (by decide) (by decide) (by decide), fun _ h => absurd h List.not_mem_nil⟩) (by rw [eL]; show List.Nodup [35, 34, 11, 17, 150]; decide) (by rw [eL]; simp) (by rw [eL]; rfl)
  have hv : ((formOf (repF ⟨2, q, i, x, 0, 0, ⟨#[]⟩⟩)).vals 35).getD ⟨#[]⟩ = ⟨#[56]⟩ := by rw [eL]; rfl
  have E1 := ask_int_ok (F := (formOf (repF ⟨2, q, i, x, 0, 0, ⟨#[]⟩⟩)).mark 35) (t := 34) (lo := 1) (hi := 1099511627776) rfl (by rw [eL]; rfl) (by omega) (by omega) (by omega) (by omega)
  have E2 := ask_name_ok (F := ((formOf (repF ⟨2, q, i, x, 0, 0, ⟨#[]⟩⟩)).mark 35).mark 34) (t := 11) rfl (by rw [eL]; rfl) ni
  have E3 := ask_name_ok (F := (((formOf (repF ⟨2, q, i, x, 0, 0, ⟨#[]⟩⟩)).mark 35).mark 34).mark 11) (t := 17) rfl (by rw [eL]; rfl) nx
  have E4 := ask_name_ok (F := ((((formOf (repF ⟨2, q, i, x, 0, 0, ⟨#[]⟩⟩)).mark 35).mark 34).mark 11).mark 17) (t := 150) (s := ⟨#[52]⟩) rfl (by rw [eL]; rfl) (one_name 52 (by decide) (by decide))
  exact ⟨hf, replyD_good hr hv (takeP_8 E1 E2 (reportP_k (k := 2) E3 E4 rfl (by first | decide | exact doneL_on rfl) rfl (by decide) (by decide) (by decide))) (doneL_ok rfl (by rw [eL]; rfl)), crossO_of hr hv rfl⟩
set_option maxRecDepth 100000 in
theorem rep_ok3 (q : Int) (i : ByteArray) (hq : 1 ≤ q ∧ q ≤ 1099511627776) (ni : nameL i.data.toList 0 = true) (x : ByteArray) (nx : nameL x.data.toList 0 = true) : RepOk ⟨3, q, i, x, 0, 0, ⟨#[]⟩⟩ := by
  have eL : repF ⟨3, q, i, x, 0, 0, ⟨#[]⟩⟩ = [⟨35, ⟨#[56]⟩⟩, ⟨34, digitsB q⟩, ⟨11, i⟩, ⟨17, x⟩, ⟨150, ⟨#[53]⟩⟩] := rfl
  obtain ⟨hf, hr⟩ := read_of (repF ⟨3, q, i, x, 0, 0, ⟨#[]⟩⟩) (by rw [eL]; simp) (by
    rw [eL]
    simp only [List.map_cons, List.map_nil, pairF, List.forall_mem_cons]
    exact ⟨goodF_one 35 56 (by decide) (by decide) (by decide) (by decide), goodF_num 34 q (by decide) (by decide) (by omega), goodF_name 11 i (by decide) (by decide) ni, goodF_name 17 x (by decide) (by decide) nx, goodF_one 150 53 (by decide) (by decide) (by decide) (by decide), fun _ h => absurd h List.not_mem_nil⟩) (by rw [eL]; show List.Nodup [35, 34, 11, 17, 150]; decide) (by rw [eL]; simp) (by rw [eL]; rfl)
  have hv : ((formOf (repF ⟨3, q, i, x, 0, 0, ⟨#[]⟩⟩)).vals 35).getD ⟨#[]⟩ = ⟨#[56]⟩ := by rw [eL]; rfl
  have E1 := ask_int_ok (F := (formOf (repF ⟨3, q, i, x, 0, 0, ⟨#[]⟩⟩)).mark 35) (t := 34) (lo := 1) (hi := 1099511627776) rfl (by rw [eL]; rfl) (by omega) (by omega) (by omega) (by omega)
  have E2 := ask_name_ok (F := ((formOf (repF ⟨3, q, i, x, 0, 0, ⟨#[]⟩⟩)).mark 35).mark 34) (t := 11) rfl (by rw [eL]; rfl) ni
  have E3 := ask_name_ok (F := (((formOf (repF ⟨3, q, i, x, 0, 0, ⟨#[]⟩⟩)).mark 35).mark 34).mark 11) (t := 17) rfl (by rw [eL]; rfl) nx
  have E4 := ask_name_ok (F := ((((formOf (repF ⟨3, q, i, x, 0, 0, ⟨#[]⟩⟩)).mark 35).mark 34).mark 11).mark 17) (t := 150) (s := ⟨#[53]⟩) rfl (by rw [eL]; rfl) (one_name 53 (by decide) (by decide))
  exact ⟨hf, replyD_good hr hv (takeP_8 E1 E2 (reportP_k (k := 3) E3 E4 rfl (by first | decide | exact doneL_on rfl) rfl (by decide) (by decide) (by decide))) (doneL_ok rfl (by rw [eL]; rfl)), crossO_of hr hv rfl⟩
set_option maxRecDepth 100000 in
theorem rep_ok4 (q : Int) (i : ByteArray) (hq : 1 ≤ q ∧ q ≤ 1099511627776) (ni : nameL i.data.toList 0 = true) (x : ByteArray) (nx : nameL x.data.toList 0 = true) : RepOk ⟨4, q, i, x, 0, 0, ⟨#[]⟩⟩ := by
  have eL : repF ⟨4, q, i, x, 0, 0, ⟨#[]⟩⟩ = [⟨35, ⟨#[56]⟩⟩, ⟨34, digitsB q⟩, ⟨11, i⟩, ⟨17, x⟩, ⟨150, ⟨#[56]⟩⟩] := rfl
  obtain ⟨hf, hr⟩ := read_of (repF ⟨4, q, i, x, 0, 0, ⟨#[]⟩⟩) (by rw [eL]; simp) (by
    rw [eL]
    simp only [List.map_cons, List.map_nil, pairF, List.forall_mem_cons]
    exact ⟨goodF_one 35 56 (by decide) (by decide) (by decide) (by decide), goodF_num 34 q (by decide) (by decide) (by omega), goodF_name 11 i (by decide) (by decide) ni, goodF_name 17 x (by decide) (by decide) nx, goodF_one 150 56 (by decide) (by decide) (by decide) (by decide), fun _ h => absurd h List.not_mem_nil⟩) (by rw [eL]; show List.Nodup [35, 34, 11, 17, 150]; decide) (by rw [eL]; simp) (by rw [eL]; rfl)
  have hv : ((formOf (repF ⟨4, q, i, x, 0, 0, ⟨#[]⟩⟩)).vals 35).getD ⟨#[]⟩ = ⟨#[56]⟩ := by rw [eL]; rfl
  have E1 := ask_int_ok (F := (formOf (repF ⟨4, q, i, x, 0, 0, ⟨#[]⟩⟩)).mark 35) (t := 34) (lo := 1) (hi := 1099511627776) rfl (by rw [eL]; rfl) (by omega) (by omega) (by omega) (by omega)
  have E2 := ask_name_ok (F := ((formOf (repF ⟨4, q, i, x, 0, 0, ⟨#[]⟩⟩)).mark 35).mark 34) (t := 11) rfl (by rw [eL]; rfl) ni
  have E3 := ask_name_ok (F := (((formOf (repF ⟨4, q, i, x, 0, 0, ⟨#[]⟩⟩)).mark 35).mark 34).mark 11) (t := 17) rfl (by rw [eL]; rfl) nx
  have E4 := ask_name_ok (F := ((((formOf (repF ⟨4, q, i, x, 0, 0, ⟨#[]⟩⟩)).mark 35).mark 34).mark 11).mark 17) (t := 150) (s := ⟨#[56]⟩) rfl (by rw [eL]; rfl) (one_name 56 (by decide) (by decide))
  exact ⟨hf, replyD_good hr hv (takeP_8 E1 E2 (reportP_k (k := 4) E3 E4 rfl (by first | decide | exact doneL_on rfl) rfl (by decide) (by decide) (by decide))) (doneL_ok rfl (by rw [eL]; rfl)), crossO_of hr hv rfl⟩
set_option maxRecDepth 100000 in
theorem rep_ok5 (q : Int) (i : ByteArray) (hq : 1 ≤ q ∧ q ≤ 1099511627776) (ni : nameL i.data.toList 0 = true) (x : ByteArray) (nx : nameL x.data.toList 0 = true) (z p : Int) (hz : 1 ≤ z ∧ z ≤ 1099511627776) (hp : 1 ≤ p ∧ p ≤ 1099511627776) : RepOk ⟨5, q, i, x, z, p, ⟨#[]⟩⟩ := by
  have eL : repF ⟨5, q, i, x, z, p, ⟨#[]⟩⟩ = [⟨35, ⟨#[56]⟩⟩, ⟨34, digitsB q⟩, ⟨11, i⟩, ⟨17, x⟩, ⟨150, ⟨#[70]⟩⟩, ⟨32, digitsB z⟩, ⟨31, digitsB p⟩] := rfl
  obtain ⟨hf, hr⟩ := read_of (repF ⟨5, q, i, x, z, p, ⟨#[]⟩⟩) (by rw [eL]; simp) (by
    rw [eL]
    simp only [List.map_cons, List.map_nil, pairF, List.forall_mem_cons]
    exact ⟨goodF_one 35 56 (by decide) (by decide) (by decide) (by decide), goodF_num 34 q (by decide) (by decide) (by omega), goodF_name 11 i (by decide) (by decide) ni, goodF_name 17 x (by decide) (by decide) nx, goodF_one 150 70 (by decide) (by decide) (by decide) (by decide), goodF_num 32 z (by decide) (by decide) (by omega), goodF_num 31 p (by decide) (by decide) (by omega), fun _ h => absurd h List.not_mem_nil⟩) (by rw [eL]; show List.Nodup [35, 34, 11, 17, 150, 32, 31]; decide) (by rw [eL]; simp) (by rw [eL]; rfl)
  have hv : ((formOf (repF ⟨5, q, i, x, z, p, ⟨#[]⟩⟩)).vals 35).getD ⟨#[]⟩ = ⟨#[56]⟩ := by rw [eL]; rfl
  have E1 := ask_int_ok (F := (formOf (repF ⟨5, q, i, x, z, p, ⟨#[]⟩⟩)).mark 35) (t := 34) (lo := 1) (hi := 1099511627776) rfl (by rw [eL]; rfl) (by omega) (by omega) (by omega) (by omega)
  have E2 := ask_name_ok (F := ((formOf (repF ⟨5, q, i, x, z, p, ⟨#[]⟩⟩)).mark 35).mark 34) (t := 11) rfl (by rw [eL]; rfl) ni
  have E3 := ask_name_ok (F := (((formOf (repF ⟨5, q, i, x, z, p, ⟨#[]⟩⟩)).mark 35).mark 34).mark 11) (t := 17) rfl (by rw [eL]; rfl) nx
  have E4 := ask_name_ok (F := ((((formOf (repF ⟨5, q, i, x, z, p, ⟨#[]⟩⟩)).mark 35).mark 34).mark 11).mark 17) (t := 150) (s := ⟨#[70]⟩) rfl (by rw [eL]; rfl) (one_name 70 (by decide) (by decide))
  have E5 := ask_int_ok (F := (((((formOf (repF ⟨5, q, i, x, z, p, ⟨#[]⟩⟩)).mark 35).mark 34).mark 11).mark 17).mark 150) (t := 32) (lo := 1) (hi := 1099511627776) rfl (by rw [eL]; rfl) (by omega) (by omega) (by omega) (by omega)
  have E6 := ask_int_ok (F := ((((((formOf (repF ⟨5, q, i, x, z, p, ⟨#[]⟩⟩)).mark 35).mark 34).mark 11).mark 17).mark 150).mark 32) (t := 31) (lo := 1) (hi := 1099511627776) rfl (by rw [eL]; rfl) (by omega) (by omega) (by omega) (by omega)
  exact ⟨hf, replyD_good hr hv (takeP_8 E1 E2 (reportP_5 E3 E4 rfl (by first | decide | exact doneL_on rfl) rfl E5 E6)) (doneL_ok rfl (by rw [eL]; rfl)), crossO_of hr hv rfl⟩
set_option maxRecDepth 100000 in
theorem rep_ok6 (q : Int) (i : ByteArray) (hq : 1 ≤ q ∧ q ≤ 1099511627776) (ni : nameL i.data.toList 0 = true) (x : ByteArray) (nx : nameL x.data.toList 0 = true) (r : ByteArray) (nr : nameL r.data.toList 0 = true) : RepOk ⟨6, q, i, x, 0, 0, r⟩ := by
  have eL : repF ⟨6, q, i, x, 0, 0, r⟩ = [⟨35, ⟨#[56]⟩⟩, ⟨34, digitsB q⟩, ⟨11, i⟩, ⟨17, x⟩, ⟨150, ⟨#[72]⟩⟩, ⟨19, r⟩] := rfl
  obtain ⟨hf, hr⟩ := read_of (repF ⟨6, q, i, x, 0, 0, r⟩) (by rw [eL]; simp) (by
    rw [eL]
    simp only [List.map_cons, List.map_nil, pairF, List.forall_mem_cons]
    exact ⟨goodF_one 35 56 (by decide) (by decide) (by decide) (by decide), goodF_num 34 q (by decide) (by decide) (by omega), goodF_name 11 i (by decide) (by decide) ni, goodF_name 17 x (by decide) (by decide) nx, goodF_one 150 72 (by decide) (by decide) (by decide) (by decide), goodF_name 19 r (by decide) (by decide) nr, fun _ h => absurd h List.not_mem_nil⟩) (by rw [eL]; show List.Nodup [35, 34, 11, 17, 150, 19]; decide) (by rw [eL]; simp) (by rw [eL]; rfl)
  have hv : ((formOf (repF ⟨6, q, i, x, 0, 0, r⟩)).vals 35).getD ⟨#[]⟩ = ⟨#[56]⟩ := by rw [eL]; rfl
  have E1 := ask_int_ok (F := (formOf (repF ⟨6, q, i, x, 0, 0, r⟩)).mark 35) (t := 34) (lo := 1) (hi := 1099511627776) rfl (by rw [eL]; rfl) (by omega) (by omega) (by omega) (by omega)
  have E2 := ask_name_ok (F := ((formOf (repF ⟨6, q, i, x, 0, 0, r⟩)).mark 35).mark 34) (t := 11) rfl (by rw [eL]; rfl) ni
  have E3 := ask_name_ok (F := (((formOf (repF ⟨6, q, i, x, 0, 0, r⟩)).mark 35).mark 34).mark 11) (t := 17) rfl (by rw [eL]; rfl) nx
  have E4 := ask_name_ok (F := ((((formOf (repF ⟨6, q, i, x, 0, 0, r⟩)).mark 35).mark 34).mark 11).mark 17) (t := 150) (s := ⟨#[72]⟩) rfl (by rw [eL]; rfl) (one_name 72 (by decide) (by decide))
  have E5 := ask_name_ok (F := (((((formOf (repF ⟨6, q, i, x, 0, 0, r⟩)).mark 35).mark 34).mark 11).mark 17).mark 150) (t := 19) rfl (by rw [eL]; rfl) nr
  exact ⟨hf, replyD_good hr hv (takeP_8 E1 E2 (reportP_6 E3 E4 rfl (by first | decide | exact doneL_on rfl) rfl E5)) (doneL_ok rfl (by rw [eL]; rfl)), crossO_of hr hv rfl⟩
set_option maxRecDepth 100000 in
theorem rep_ok7 (q : Int) (i : ByteArray) (hq : 1 ≤ q ∧ q ≤ 1099511627776) (ni : nameL i.data.toList 0 = true) : RepOk ⟨7, q, i, ⟨#[]⟩, 0, 0, ⟨#[]⟩⟩ := by
  have eL : repF ⟨7, q, i, ⟨#[]⟩, 0, 0, ⟨#[]⟩⟩ = [⟨35, ⟨#[57]⟩⟩, ⟨34, digitsB q⟩, ⟨11, i⟩] := rfl
  obtain ⟨hf, hr⟩ := read_of (repF ⟨7, q, i, ⟨#[]⟩, 0, 0, ⟨#[]⟩⟩) (by rw [eL]; simp) (by
    rw [eL]
    simp only [List.map_cons, List.map_nil, pairF, List.forall_mem_cons]
    exact ⟨goodF_one 35 57 (by decide) (by decide) (by decide) (by decide), goodF_num 34 q (by decide) (by decide) (by omega), goodF_name 11 i (by decide) (by decide) ni, fun _ h => absurd h List.not_mem_nil⟩) (by rw [eL]; show List.Nodup [35, 34, 11]; decide) (by rw [eL]; simp) (by rw [eL]; rfl)
  have hv : ((formOf (repF ⟨7, q, i, ⟨#[]⟩, 0, 0, ⟨#[]⟩⟩)).vals 35).getD ⟨#[]⟩ = ⟨#[57]⟩ := by rw [eL]; rfl
  have E1 := ask_int_ok (F := (formOf (repF ⟨7, q, i, ⟨#[]⟩, 0, 0, ⟨#[]⟩⟩)).mark 35) (t := 34) (lo := 1) (hi := 1099511627776) rfl (by rw [eL]; rfl) (by omega) (by omega) (by omega) (by omega)
  have E2 := ask_name_ok (F := ((formOf (repF ⟨7, q, i, ⟨#[]⟩, 0, 0, ⟨#[]⟩⟩)).mark 35).mark 34) (t := 11) rfl (by rw [eL]; rfl) ni
  exact ⟨hf, replyD_good hr hv (takeP_9 E1 E2) (doneL_ok rfl (by rw [eL]; rfl)), crossO_of hr hv rfl⟩
theorem rep_ok (a : RepV) (h : rightP a = true) : RepOk a := by
  obtain ⟨f0, f1, f2, f3, f4, f5, f6⟩ := a
  obtain ⟨hk, hq, hi, hx, h5, h5', h6⟩ := (rightP_iff _).1 h
  simp only at hk hq hi hx h5 h5' h6
  rcases (show f0 = 1 ∨ f0 = 2 ∨ f0 = 3 ∨ f0 = 4 ∨ f0 = 5 ∨ f0 = 6 ∨ f0 = 7 by omega) with rfl | rfl | rfl | rfl | rfl | rfl | rfl
  · obtain ⟨rfl, rfl⟩ := h5' (by decide)
    rw [if_neg (by decide)] at hx h6
    subst h6
    exact rep_ok1 f1 f2 hq hi f3 hx
  · obtain ⟨rfl, rfl⟩ := h5' (by decide)
    rw [if_neg (by decide)] at hx h6
    subst h6
    exact rep_ok2 f1 f2 hq hi f3 hx
  · obtain ⟨rfl, rfl⟩ := h5' (by decide)
    rw [if_neg (by decide)] at hx h6
    subst h6
    exact rep_ok3 f1 f2 hq hi f3 hx
  · obtain ⟨rfl, rfl⟩ := h5' (by decide)
    rw [if_neg (by decide)] at hx h6
    subst h6
    exact rep_ok4 f1 f2 hq hi f3 hx
  · obtain ⟨hz, hp⟩ := h5 rfl
    rw [if_neg (by decide)] at hx h6
    subst h6
    exact rep_ok5 f1 f2 hq hi f3 hx f4 f5 hz hp
  · obtain ⟨rfl, rfl⟩ := h5' (by decide)
    rw [if_neg (by decide)] at hx
    rw [if_pos rfl] at h6
    exact rep_ok6 f1 f2 hq hi f3 hx f6 h6
  · obtain ⟨rfl, rfl⟩ := h5' (by decide)
    rw [if_pos rfl] at hx
    rw [if_neg (by decide)] at h6
    subst hx h6
    exact rep_ok7 f1 f2 hq hi
theorem encP_right (a : RepV) (h : rightP a = true) : encP a = (⟨((((repF a).map pairF).map fieldL).flatten).toArray⟩, 0) := by
  unfold encP
  rw [if_pos h, (rep_ok a h).form]; rfl
theorem encP_back (a : RepV) (h : rightP a = true) : replyD (encP a).1 = (a, 0, 0) := by rw [encP_right a h]; exact (rep_ok a h).back
theorem c1_name : nameL (⟨#[99, 49]⟩ : ByteArray).data.toList 0 = true := by
  show nameL [99, 49] 0 = true
  rw [nameL_go [99, 49] (by simp) 0 (by decide) (by rw [dec_ascii 99 [49] (by decide)]; decide), dec_ascii 99 [49] (by decide)]
  show nameL [49] 1 = true
  rw [nameL_go [49] (by simp) 1 (by decide) (by rw [dec_ascii 49 [] (by decide)]; decide), dec_ascii 49 [] (by decide)]
  show nameL [] 2 = true
  rw [nameL_nil]; rfl
theorem aw14_right : rightO ⟨2, 7, ⟨#[99, 49]⟩, ⟨#[]⟩, 0, 0, 0⟩ = true := by
  rw [rightO_iff]
  exact ⟨by decide, by decide, c1_name, .inr (.inl ⟨rfl, rfl, rfl, rfl, rfl⟩)⟩
theorem aw14_rightP : rightP ⟨7, 2, ⟨#[99, 49]⟩, ⟨#[]⟩, 0, 0, ⟨#[]⟩⟩ = true := by
  rw [rightP_iff]
  exact ⟨by decide, by decide, c1_name, rfl, fun h => absurd h (by decide), fun _ => ⟨rfl, rfl⟩, rfl⟩
theorem dg7 : digitsN 7 = [55] := by rw [digitsN_small (by decide)]; rfl
theorem dg2 : digitsN 2 = [50] := by rw [digitsN_small (by decide)]; rfl
theorem aw14_text : encO ⟨2, 7, ⟨#[99, 49]⟩, ⟨#[]⟩, 0, 0, 0⟩ = (⟨#[51, 53, 61, 70, 1, 51, 52, 61, 55, 1, 49, 49, 61, 99, 49, 1]⟩, 0) := by
  rw [encO_right _ aw14_right]
  have eL : ordF ⟨2, 7, ⟨#[99, 49]⟩, ⟨#[]⟩, 0, 0, 0⟩ = [⟨35, ⟨#[70]⟩⟩, ⟨34, digitsB 7⟩, ⟨11, ⟨#[99, 49]⟩⟩] := rfl
  rw [eL]
  simp only [List.map_cons, List.map_nil, pairF, fieldL, digitsB_list]
  rw [show (35 : Int).toNat = 35 from rfl, show (34 : Int).toNat = 34 from rfl, show (11 : Int).toNat = 11 from rfl, show (7 : Int).toNat = 7 from rfl, dg35, dg34, dg11, dg7]
  rfl
theorem aw14_textP : encP ⟨7, 2, ⟨#[99, 49]⟩, ⟨#[]⟩, 0, 0, ⟨#[]⟩⟩ = (⟨#[51, 53, 61, 57, 1, 51, 52, 61, 50, 1, 49, 49, 61, 99, 49, 1]⟩, 0) := by
  rw [encP_right _ aw14_rightP]
  have eL : repF ⟨7, 2, ⟨#[99, 49]⟩, ⟨#[]⟩, 0, 0, ⟨#[]⟩⟩ = [⟨35, ⟨#[57]⟩⟩, ⟨34, digitsB 2⟩, ⟨11, ⟨#[99, 49]⟩⟩] := rfl
  rw [eL]
  simp only [List.map_cons, List.map_nil, pairF, fieldL, digitsB_list]
  rw [show (35 : Int).toNat = 35 from rfl, show (34 : Int).toNat = 34 from rfl, show (11 : Int).toNat = 11 from rfl, show (2 : Int).toNat = 2 from rfl, dg35, dg34, dg11, dg2]
  rfl
theorem aw14_p : spigotlaw14_awake_p.f = some true := by
  have e1 : post_EncodeOrder.f 2 7 ⟨#[99, 49]⟩ ⟨#[]⟩ 0 0 0 = some (⟨#[51, 53, 61, 70, 1, 51, 52, 61, 55, 1, 49, 49, 61, 99, 49, 1]⟩, 0) := by
    unfold post_EncodeOrder.f
    rw [if_pos ⟨by decide, by decide⟩, aw14_text]
  have e2 : post_DecodeReply.f ⟨#[51, 53, 61, 57, 1, 51, 52, 61, 50, 1, 49, 49, 61, 99, 49, 1]⟩ = some (7, 2, ⟨#[99, 49]⟩, ⟨#[]⟩, 0, 0, ⟨#[]⟩, 0, 0) := by
    have h := encP_back _ aw14_rightP
    rw [aw14_textP] at h
    unfold post_DecodeReply.f
    rw [if_pos (by decide), h]
  unfold spigotlaw14_awake_p.f
  rw [e1]
  simp only [Option.bind_some]
  rw [e2]
  simp only [Option.bind_some]
  rw [if_pos (by rw [ByteArray.toList_eq])]
  rfl
def spigotlaw14_awake.f : Option Bool := some true
theorem spigotlaw14_awake.calls (r : Bool) (w : World) (hT_ : Aside0 (Tabs_ w)) (h : spigotlaw14_awake.f = some r) :
    Calls Tryd.prog 22 #[] w fun e w' => e = .returned (.bool r) ∧ Below w.heap.size w w' := by
  obtain rfl := Option.some.inj h
  exact spigotlaw14_awake_p.calls true w hT_ aw14_p
end Go.Proofs.YtgfigkfcmkdjdaaDoor.B
end
