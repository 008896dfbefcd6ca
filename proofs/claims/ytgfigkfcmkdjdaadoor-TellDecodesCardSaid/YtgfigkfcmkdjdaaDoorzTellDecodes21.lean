/- The functions that the law reaches, as plain Lean functions, and their contracts: texts merged. -/
import Derived.Test.YtgfigkfcmkdjdaaDoorzTellDecodes2
import Derived.Test.YtgfigkfcmkdjdaaDoorzTellDecodes0
import Derived.Test.YtgfigkfcmkdjdaaDoorzTellDecodes1
import Derived.Test.YtgfigkfcmkdjdaaDoorzTellDecodes3
import Derived.Test.YtgfigkfcmkdjdaaDoorzTellDecodes4
import Derived.Test.YtgfigkfcmkdjdaaDoorzTellDecodes5
import Derived.Test.YtgfigkfcmkdjdaaDoorzTellDecodes6
import Derived.Test.YtgfigkfcmkdjdaaDoorzTellDecodes7
import Derived.Test.YtgfigkfcmkdjdaaDoorzTellDecodes8
import Derived.Test.YtgfigkfcmkdjdaaDoorzTellDecodes9
import Derived.Test.YtgfigkfcmkdjdaaDoorzTellDecodes10
import Derived.Test.YtgfigkfcmkdjdaaDoorzTellDecodes11
import Derived.Test.YtgfigkfcmkdjdaaDoorzTellDecodes12
import Derived.Test.YtgfigkfcmkdjdaaDoorzTellDecodes13
import Derived.Test.YtgfigkfcmkdjdaaDoorzTellDecodes14
import Derived.Test.YtgfigkfcmkdjdaaDoorzTellDecodes15
import Derived.Test.YtgfigkfcmkdjdaaDoorzTellDecodes16
import Derived.Test.YtgfigkfcmkdjdaaDoorzTellDecodes17
import Derived.Test.YtgfigkfcmkdjdaaDoorzTellDecodes18
import Derived.Test.YtgfigkfcmkdjdaaDoorzTellDecodes19
import Derived.Test.YtgfigkfcmkdjdaaDoorzTellDecodes20
section
namespace Go.Proofs.YtgfigkfcmkdjdaaDoor.B
open Go.RowKit Go.Proofs.YtgfigkfcmkdjdaaDoorW.PrintWords Go.Proofs.YtgfigkfcmkdjdaaDoorW.PrintLast Go.Proofs.YtgfigkfcmkdjdaaDoorW.PrintMore
attribute [local go_sem] max2_int min2_int max_two min_two max_three min_three max_four min_four   -- for this text's walks alone
set_option linter.unusedVariables false
set_option linter.unusedSimpArgs false
def spigotlaw13_awake_p.f  : Option (Bool) := (tell_Encode.f 3 (⟨#[]⟩ : ByteArray) (⟨#[]⟩ : ByteArray) 0 0 0 0 0 38 112).bind fun bt218 => ((tell_Decode.f bt218.1).bind fun bt220 => (if bt218.1.toList = ([51, 53, 61, 51, 1, 51, 55, 49, 61, 51, 56, 1, 51, 55, 51, 61, 49, 49, 50, 1] : List UInt8) then (if bt218.2 = 0 then (if bt220.2.2.2.2.2.2.2.2.2.2.2 = 0 then (if bt220.2.2.2.2.2.2.2.2.2.2.1 = 0 then (some (bt220.2.2.2.2.2.2.2.2.1 == 38)) else (some false)) else (some false)) else (some false)) else (some false)))
set_option maxHeartbeats 8000000 in
set_option maxRecDepth 100000 in
theorem spigotlaw13_awake_p.calls  (r : Bool) (w : World) (hT_ : Aside0 (Tabs_ w)) (h : spigotlaw13_awake_p.f  = some r) :
    Calls Tryd.prog 13 #[] w fun e w' => e = .returned (.bool r) ∧ Below w.heap.size w w' := by
  have hu23 := Tryd.underlying23
  have HB := Aside0.mk (Below.refl w.heap.size w)
  have H : ((tell_Encode.f 3 (⟨#[]⟩ : ByteArray) (⟨#[]⟩ : ByteArray) 0 0 0 0 0 38 112).bind fun bt218 => ((tell_Decode.f bt218.1).bind fun bt220 => (if bt218.1.toList = ([51, 53, 61, 51, 1, 51, 55, 49, 61, 51, 56, 1, 51, 55, 51, 61, 49, 49, 50, 1] : List UInt8) then (if bt218.2 = 0 then (if bt220.2.2.2.2.2.2.2.2.2.2.2 = 0 then (if bt220.2.2.2.2.2.2.2.2.2.2.1 = 0 then (some (bt220.2.2.2.2.2.2.2.2.1 == 38)) else (some false)) else (some false)) else (some false)) else (some false)))) = some r := h
  clear h
  replace H := Option.bind_eq_some_iff.mp H
  obtain ⟨⟨t218, t219⟩, A10, H⟩ := H
  replace H : ((tell_Decode.f t218).bind fun bt220 => (if t218.toList = ([51, 53, 61, 51, 1, 51, 55, 49, 61, 51, 56, 1, 51, 55, 51, 61, 49, 49, 50, 1] : List UInt8) then (if t219 = 0 then (if bt220.2.2.2.2.2.2.2.2.2.2.2 = 0 then (if bt220.2.2.2.2.2.2.2.2.2.2.1 = 0 then (some (bt220.2.2.2.2.2.2.2.2.1 == 38)) else (some false)) else (some false)) else (some false)) else (some false))) = some r := H
  have A1 := Aside0.mk A10
  clear A10
  replace H := Option.bind_eq_some_iff.mp H
  obtain ⟨⟨t220, t221, t222, t223, t224, t225, t226, t227, t228, t229, t230, t231⟩, A20, H⟩ := H
  replace H : (if t218.toList = ([51, 53, 61, 51, 1, 51, 55, 49, 61, 51, 56, 1, 51, 55, 51, 61, 49, 49, 50, 1] : List UInt8) then (if t219 = 0 then (if t231 = 0 then (if t230 = 0 then (some (t228 == 38)) else (some false)) else (some false)) else (some false)) else (some false)) = some r := H
  have A2 := Aside0.mk A20
  clear A20
  by_cases c3 : t218.toList = ([51, 53, 61, 51, 1, 51, 55, 49, 61, 51, 56, 1, 51, 55, 51, 61, 49, 49, 50, 1] : List UInt8)
  · rw [if_pos c3] at H
    have c3b0 : (t218.toList == ([51, 53, 61, 51, 1, 51, 55, 49, 61, 51, 56, 1, 51, 55, 51, 61, 49, 49, 50, 1] : List UInt8)) = true := beq_iff_eq.mpr c3
    have c3b1 : (t218.toList != ([51, 53, 61, 51, 1, 51, 55, 49, 61, 51, 56, 1, 51, 55, 51, 61, 49, 49, 50, 1] : List UInt8)) = false := bne_eq_false_iff_eq.mpr c3
    clear c3
    by_cases c4 : t219 = 0
    · rw [if_pos c4] at H
      have c4b0 : (t219 == 0) = true := beq_iff_eq.mpr c4
      have c4b1 : (t219 != 0) = false := bne_eq_false_iff_eq.mpr c4
      clear c4
      by_cases c5 : t231 = 0
      · rw [if_pos c5] at H
        have c5b0 : (t231 == 0) = true := beq_iff_eq.mpr c5
        have c5b1 : (t231 != 0) = false := bne_eq_false_iff_eq.mpr c5
        clear c5
        by_cases c6 : t230 = 0
        · rw [if_pos c6] at H
          have c6b0 : (t230 == 0) = true := beq_iff_eq.mpr c6
          have c6b1 : (t230 != 0) = false := bne_eq_false_iff_eq.mpr c6
          clear c6
          obtain rfl := Option.some.inj H
          go_enter Tryd.func13, Tryd.ntmps13
          go_wp2_with (first | ((with_reducible refine gate_callee (f := 15) rfl ?_); refine goesL_ (some 8) rfl rfl Tryd.func15 (by kernel_rfl) rfl #[.agg #[.int .i64 3, .string (⟨#[]⟩ : ByteArray), .string (⟨#[]⟩ : ByteArray), .int .i64 0, .int .i64 0, .int .i64 0, .int .i64 0, .int .i64 0, .int .i64 38, .int .i64 112]] rfl (by (try simp only [List.map_toArray, List.map_cons, List.map_nil]); first | done | rfl | (simp only [List.length_drop, List.length_take]; rfl)) ?_; (with_reducible refine (tell_Encode.calls 3 (⟨#[]⟩ : ByteArray) (⟨#[]⟩ : ByteArray) 0 0 0 0 0 38 112 t218 t219 _ ?side1 A1.out).mono ?_); (case side1 => exact Aside0.mk (Tabs_.below hT_.out (by repeat (first | (with_reducible first | exact HB.out | apply below_alloc | apply pw_below_drewN | apply below_drew1) | exact HB.out)))); rintro e w7 ⟨rfl, hb⟩; refine ⟨_, rfl, ?_⟩; have n0_ := Aside0.mk (below_step (by repeat (first | (with_reducible first | exact HB.out | apply below_alloc | apply pw_below_drewN | apply below_drew1) | exact HB.out)) hb); clear HB; have HB := n0_; clear n0_; (try clear hb); (try clear hb2); (try clear hk); (try clear hi)) | ((with_reducible refine gate_callee (f := 20) rfl ?_); refine goesL_ (some 13) rfl rfl Tryd.func20 (by kernel_rfl) rfl #[.string t218] rfl (by (try simp only [List.map_toArray, List.map_cons, List.map_nil]); first | done | rfl | (simp only [List.length_drop, List.length_take]; rfl)) ?_; (with_reducible refine (tell_Decode.calls t218 t220 t221 t222 t223 t224 t225 t226 t227 t228 t229 t230 t231 _ A2.out).mono ?_); rintro e w8 ⟨rfl, hb⟩; refine ⟨_, rfl, ?_⟩; have n0_ := Aside0.mk (below_step (by repeat (first | (with_reducible first | exact HB.out | apply below_alloc | apply pw_below_drewN | apply below_drew1) | exact HB.out)) hb); clear HB; have HB := n0_; clear n0_; (try clear hb); (try clear hb2); (try clear hk); (try clear hi)) | ((with_reducible refine gate_dst (N := 3) rfl ?_); refine box_event ?hg (N := 3) ?hd (cs := #[.int .i64 0, .string (⟨#[]⟩ : ByteArray), .string (⟨#[]⟩ : ByteArray), .int .i64 0, .int .i64 0, .int .i64 0, .int .i64 0, .int .i64 0, .int .i64 0, .int .i64 0]) (t := 23) ?hr ?_; (case hd => rfl); (case hg => rfl); (case hr => first | (go_simp; done) | (go_simp; rfl)); intro gb232 hg w9 hbox hb; have n0_ := Aside0.mk (below_step (by repeat (first | (with_reducible first | exact HB.out | apply below_alloc | apply pw_below_drewN | apply below_drew1) | exact HB.out)) hb); have n1_ := Aside0.mk (hbox); have n2_ := Aside0.mk ((by rw [hg]; exact (below_size (by repeat (first | (with_reducible first | exact HB.out | apply below_alloc | apply pw_below_drewN | apply below_drew1) | exact HB.out))) : w.heap.size ≤ gb232)); have n3_ := Aside0.mk ((by rw [hg]; exact (below_size (by repeat (first | (with_reducible first | exact HB.out | apply below_alloc | apply pw_below_drewN | apply below_drew1) | exact HB.out))) : w.heap.size ≤ gb232)); clear HB; have HB := n0_; have BK232 := n1_; have GW232 := n2_; have GE232 := n3_; clear n0_ n1_ n2_ n3_; clear hb hbox hg; have hcz10_0 : w9.cell? ⟨gb232, 0, none⟩ = some (.int .i64 0) := (blk_cell BK232.out 0).trans rfl; have hcz10_1 : w9.cell? ⟨gb232, 1, none⟩ = some (.string (⟨#[]⟩ : ByteArray)) := (blk_cell BK232.out 1).trans rfl; have hcz10_2 : w9.cell? ⟨gb232, 2, none⟩ = some (.string (⟨#[]⟩ : ByteArray)) := (blk_cell BK232.out 2).trans rfl; have hcz10_3 : w9.cell? ⟨gb232, 3, none⟩ = some (.int .i64 0) := (blk_cell BK232.out 3).trans rfl; have hcz10_4 : w9.cell? ⟨gb232, 4, none⟩ = some (.int .i64 0) := (blk_cell BK232.out 4).trans rfl; have hcz10_5 : w9.cell? ⟨gb232, 5, none⟩ = some (.int .i64 0) := (blk_cell BK232.out 5).trans rfl; have hcz10_6 : w9.cell? ⟨gb232, 6, none⟩ = some (.int .i64 0) := (blk_cell BK232.out 6).trans rfl; have hcz10_7 : w9.cell? ⟨gb232, 7, none⟩ = some (.int .i64 0) := (blk_cell BK232.out 7).trans rfl; have hcz10_8 : w9.cell? ⟨gb232, 8, none⟩ = some (.int .i64 0) := (blk_cell BK232.out 8).trans rfl; have hcz10_9 : w9.cell? ⟨gb232, 9, none⟩ = some (.int .i64 0) := (blk_cell BK232.out 9).trans rfl; have hfz10_0 := blk_frozen BK232.out 0; have hfz10_1 := blk_frozen BK232.out 1; have hfz10_2 := blk_frozen BK232.out 2; have hfz10_3 := blk_frozen BK232.out 3; have hfz10_4 := blk_frozen BK232.out 4; have hfz10_5 := blk_frozen BK232.out 5; have hfz10_6 := blk_frozen BK232.out 6; have hfz10_7 := blk_frozen BK232.out 7; have hfz10_8 := blk_frozen BK232.out 8; have hfz10_9 := blk_frozen BK232.out 9))
          go_ret
          exact ⟨by first | rfl | (simp [errW_none, errW_some] <;> rfl) | (simp [*, errW_none, errW_some] <;> rfl), by repeat (first | (with_reducible first | exact HB.out | apply below_alloc | apply pw_below_drewN | apply below_drew1 | refine below_set ?_ GE232.out) | exact HB.out)⟩
        · rw [if_neg c6] at H
          have c6b0 : (t230 == 0) = false := beq_eq_false_iff_ne.mpr c6
          have c6b1 : (t230 != 0) = true := bne_iff_ne.mpr c6
          obtain rfl := Option.some.inj H
          go_enter Tryd.func13, Tryd.ntmps13
          go_wp2_with (first | ((with_reducible refine gate_callee (f := 15) rfl ?_); refine goesL_ (some 8) rfl rfl Tryd.func15 (by kernel_rfl) rfl #[.agg #[.int .i64 3, .string (⟨#[]⟩ : ByteArray), .string (⟨#[]⟩ : ByteArray), .int .i64 0, .int .i64 0, .int .i64 0, .int .i64 0, .int .i64 0, .int .i64 38, .int .i64 112]] rfl (by (try simp only [List.map_toArray, List.map_cons, List.map_nil]); first | done | rfl | (simp only [List.length_drop, List.length_take]; rfl)) ?_; (with_reducible refine (tell_Encode.calls 3 (⟨#[]⟩ : ByteArray) (⟨#[]⟩ : ByteArray) 0 0 0 0 0 38 112 t218 t219 _ ?side1 A1.out).mono ?_); (case side1 => exact Aside0.mk (Tabs_.below hT_.out (by repeat (first | (with_reducible first | exact HB.out | apply below_alloc | apply pw_below_drewN | apply below_drew1) | exact HB.out)))); rintro e w11 ⟨rfl, hb⟩; refine ⟨_, rfl, ?_⟩; have n0_ := Aside0.mk (below_step (by repeat (first | (with_reducible first | exact HB.out | apply below_alloc | apply pw_below_drewN | apply below_drew1) | exact HB.out)) hb); clear HB; have HB := n0_; clear n0_; (try clear hb); (try clear hb2); (try clear hk); (try clear hi)) | ((with_reducible refine gate_callee (f := 20) rfl ?_); refine goesL_ (some 13) rfl rfl Tryd.func20 (by kernel_rfl) rfl #[.string t218] rfl (by (try simp only [List.map_toArray, List.map_cons, List.map_nil]); first | done | rfl | (simp only [List.length_drop, List.length_take]; rfl)) ?_; (with_reducible refine (tell_Decode.calls t218 t220 t221 t222 t223 t224 t225 t226 t227 t228 t229 t230 t231 _ A2.out).mono ?_); rintro e w12 ⟨rfl, hb⟩; refine ⟨_, rfl, ?_⟩; have n0_ := Aside0.mk (below_step (by repeat (first | (with_reducible first | exact HB.out | apply below_alloc | apply pw_below_drewN | apply below_drew1) | exact HB.out)) hb); clear HB; have HB := n0_; clear n0_; (try clear hb); (try clear hb2); (try clear hk); (try clear hi)) | ((with_reducible refine gate_dst (N := 3) rfl ?_); refine box_event ?hg (N := 3) ?hd (cs := #[.int .i64 0, .string (⟨#[]⟩ : ByteArray), .string (⟨#[]⟩ : ByteArray), .int .i64 0, .int .i64 0, .int .i64 0, .int .i64 0, .int .i64 0, .int .i64 0, .int .i64 0]) (t := 23) ?hr ?_; (case hd => rfl); (case hg => rfl); (case hr => first | (go_simp; done) | (go_simp; rfl)); intro gb232 hg w13 hbox hb; have n0_ := Aside0.mk (below_step (by repeat (first | (with_reducible first | exact HB.out | apply below_alloc | apply pw_below_drewN | apply below_drew1) | exact HB.out)) hb); have n1_ := Aside0.mk (hbox); have n2_ := Aside0.mk ((by rw [hg]; exact (below_size (by repeat (first | (with_reducible first | exact HB.out | apply below_alloc | apply pw_below_drewN | apply below_drew1) | exact HB.out))) : w.heap.size ≤ gb232)); have n3_ := Aside0.mk ((by rw [hg]; exact (below_size (by repeat (first | (with_reducible first | exact HB.out | apply below_alloc | apply pw_below_drewN | apply below_drew1) | exact HB.out))) : w.heap.size ≤ gb232)); clear HB; have HB := n0_; have BK232 := n1_; have GW232 := n2_; have GE232 := n3_; clear n0_ n1_ n2_ n3_; clear hb hbox hg; have hcz14_0 : w13.cell? ⟨gb232, 0, none⟩ = some (.int .i64 0) := (blk_cell BK232.out 0).trans rfl; have hcz14_1 : w13.cell? ⟨gb232, 1, none⟩ = some (.string (⟨#[]⟩ : ByteArray)) := (blk_cell BK232.out 1).trans rfl; have hcz14_2 : w13.cell? ⟨gb232, 2, none⟩ = some (.string (⟨#[]⟩ : ByteArray)) := (blk_cell BK232.out 2).trans rfl; have hcz14_3 : w13.cell? ⟨gb232, 3, none⟩ = some (.int .i64 0) := (blk_cell BK232.out 3).trans rfl; have hcz14_4 : w13.cell? ⟨gb232, 4, none⟩ = some (.int .i64 0) := (blk_cell BK232.out 4).trans rfl; have hcz14_5 : w13.cell? ⟨gb232, 5, none⟩ = some (.int .i64 0) := (blk_cell BK232.out 5).trans rfl; have hcz14_6 : w13.cell? ⟨gb232, 6, none⟩ = some (.int .i64 0) := (blk_cell BK232.out 6).trans rfl; have hcz14_7 : w13.cell? ⟨gb232, 7, none⟩ = some (.int .i64 0) := (blk_cell BK232.out 7).trans rfl; have hcz14_8 : w13.cell? ⟨gb232, 8, none⟩ = some (.int .i64 0) := (blk_cell BK232.out 8).trans rfl; have hcz14_9 : w13.cell? ⟨gb232, 9, none⟩ = some (.int .i64 0) := (blk_cell BK232.out 9).trans rfl; have hfz14_0 := blk_frozen BK232.out 0; have hfz14_1 := blk_frozen BK232.out 1; have hfz14_2 := blk_frozen BK232.out 2; have hfz14_3 := blk_frozen BK232.out 3; have hfz14_4 := blk_frozen BK232.out 4; have hfz14_5 := blk_frozen BK232.out 5; have hfz14_6 := blk_frozen BK232.out 6; have hfz14_7 := blk_frozen BK232.out 7; have hfz14_8 := blk_frozen BK232.out 8; have hfz14_9 := blk_frozen BK232.out 9))
          go_ret
          exact ⟨by first | rfl | (simp [errW_none, errW_some] <;> rfl) | (simp [*, errW_none, errW_some] <;> rfl), by repeat (first | (with_reducible first | exact HB.out | apply below_alloc | apply pw_below_drewN | apply below_drew1 | refine below_set ?_ GE232.out) | exact HB.out)⟩
      · rw [if_neg c5] at H
        have c5b0 : (t231 == 0) = false := beq_eq_false_iff_ne.mpr c5
        have c5b1 : (t231 != 0) = true := bne_iff_ne.mpr c5
        obtain rfl := Option.some.inj H
        go_enter Tryd.func13, Tryd.ntmps13
        go_wp2_with (first | ((with_reducible refine gate_callee (f := 15) rfl ?_); refine goesL_ (some 8) rfl rfl Tryd.func15 (by kernel_rfl) rfl #[.agg #[.int .i64 3, .string (⟨#[]⟩ : ByteArray), .string (⟨#[]⟩ : ByteArray), .int .i64 0, .int .i64 0, .int .i64 0, .int .i64 0, .int .i64 0, .int .i64 38, .int .i64 112]] rfl (by (try simp only [List.map_toArray, List.map_cons, List.map_nil]); first | done | rfl | (simp only [List.length_drop, List.length_take]; rfl)) ?_; (with_reducible refine (tell_Encode.calls 3 (⟨#[]⟩ : ByteArray) (⟨#[]⟩ : ByteArray) 0 0 0 0 0 38 112 t218 t219 _ ?side1 A1.out).mono ?_); (case side1 => exact Aside0.mk (Tabs_.below hT_.out (by repeat (first | (with_reducible first | exact HB.out | apply below_alloc | apply pw_below_drewN | apply below_drew1) | exact HB.out)))); rintro e w15 ⟨rfl, hb⟩; refine ⟨_, rfl, ?_⟩; have n0_ := Aside0.mk (below_step (by repeat (first | (with_reducible first | exact HB.out | apply below_alloc | apply pw_below_drewN | apply below_drew1) | exact HB.out)) hb); clear HB; have HB := n0_; clear n0_; (try clear hb); (try clear hb2); (try clear hk); (try clear hi)) | ((with_reducible refine gate_callee (f := 20) rfl ?_); refine goesL_ (some 13) rfl rfl Tryd.func20 (by kernel_rfl) rfl #[.string t218] rfl (by (try simp only [List.map_toArray, List.map_cons, List.map_nil]); first | done | rfl | (simp only [List.length_drop, List.length_take]; rfl)) ?_; (with_reducible refine (tell_Decode.calls t218 t220 t221 t222 t223 t224 t225 t226 t227 t228 t229 t230 t231 _ A2.out).mono ?_); rintro e w16 ⟨rfl, hb⟩; refine ⟨_, rfl, ?_⟩; have n0_ := Aside0.mk (below_step (by repeat (first | (with_reducible first | exact HB.out | apply below_alloc | apply pw_below_drewN | apply below_drew1) | exact HB.out)) hb); clear HB; have HB := n0_; clear n0_; (try clear hb); (try clear hb2); (try clear hk); (try clear hi)) | ((with_reducible refine gate_dst (N := 3) rfl ?_); refine box_event ?hg (N := 3) ?hd (cs := #[.int .i64 0, .string (⟨#[]⟩ : ByteArray), .string (⟨#[]⟩ : ByteArray), .int .i64 0, .int .i64 0, .int .i64 0, .int .i64 0, .int .i64 0, .int .i64 0, .int .i64 0]) (t := 23) ?hr ?_; (case hd => rfl); (case hg => rfl); (case hr => first | (go_simp; done) | (go_simp; rfl)); intro gb232 hg w17 hbox hb; have n0_ := Aside0.mk (below_step (by repeat (first | (with_reducible first | exact HB.out | apply below_alloc | apply pw_below_drewN | apply below_drew1) | exact HB.out)) hb); have n1_ := Aside0.mk (hbox); have n2_ := Aside0.mk ((by rw [hg]; exact (below_size (by repeat (first | (with_reducible first | exact HB.out | apply below_alloc | apply pw_below_drewN | apply below_drew1) | exact HB.out))) : w.heap.size ≤ gb232)); have n3_ := Aside0.mk ((by rw [hg]; exact (below_size (by repeat (first | (with_reducible first | exact HB.out | apply below_alloc | apply pw_below_drewN | apply below_drew1) | exact HB.out))) : w.heap.size ≤ gb232)); clear HB; have HB := n0_; have BK232 := n1_; have GW232 := n2_; have GE232 := n3_; clear n0_ n1_ n2_ n3_; clear hb hbox hg; have hcz18_0 : w17.cell? ⟨gb232, 0, none⟩ = some (.int .i64 0) := (blk_cell BK232.out 0).trans rfl; have hcz18_1 : w17.cell? ⟨gb232, 1, none⟩ = some (.string (⟨#[]⟩ : ByteArray)) := (blk_cell BK232.out 1).trans rfl; have hcz18_2 : w17.cell? ⟨gb232, 2, none⟩ = some (.string (⟨#[]⟩ : ByteArray)) := (blk_cell BK232.out 2).trans rfl; have hcz18_3 : w17.cell? ⟨gb232, 3, none⟩ = some (.int .i64 0) := (blk_cell BK232.out 3).trans rfl; have hcz18_4 : w17.cell? ⟨gb232, 4, none⟩ = some (.int .i64 0) := (blk_cell BK232.out 4).trans rfl; have hcz18_5 : w17.cell? ⟨gb232, 5, none⟩ = some (.int .i64 0) := (blk_cell BK232.out 5).trans rfl; have hcz18_6 : w17.cell? ⟨gb232, 6, none⟩ = some (.int .i64 0) := (blk_cell BK232.out 6).trans rfl; have hcz18_7 : w17.cell? ⟨gb232, 7, none⟩ = some (.int .i64 0) := (blk_cell BK232.out 7).trans rfl; have hcz18_8 : w17.cell? ⟨gb232, 8, none⟩ = some (.int .i64 0) := (blk_cell BK232.out 8).trans rfl; have hcz18_9 : w17.cell? ⟨gb232, 9, none⟩ = some (.int .i64 0) := (blk_cell BK232.out 9).trans rfl; have hfz18_0 := blk_frozen BK232.out 0; have hfz18_1 := blk_frozen BK232.out 1; have hfz18_2 := blk_frozen BK232.out 2; have hfz18_3 := blk_frozen BK232.out 3; have hfz18_4 := blk_frozen BK232.out 4; have hfz18_5 := blk_frozen BK232.out 5; have hfz18_6 := blk_frozen BK232.out 6; have hfz18_7 := blk_frozen BK232.out 7; have hfz18_8 := blk_frozen BK232.out 8; have hfz18_9 := blk_frozen BK232.out 9))
        go_ret
        exact ⟨by first | rfl | (simp [errW_none, errW_some] <;> rfl) | (simp [*, errW_none, errW_some] <;> rfl), by repeat (first | (with_reducible first | exact HB.out | apply below_alloc | apply pw_below_drewN | apply below_drew1 | refine below_set ?_ GE232.out) | exact HB.out)⟩
    · rw [if_neg c4] at H
      have c4b0 : (t219 == 0) = false := beq_eq_false_iff_ne.mpr c4
      have c4b1 : (t219 != 0) = true := bne_iff_ne.mpr c4
      obtain rfl := Option.some.inj H
      go_enter Tryd.func13, Tryd.ntmps13
      go_wp2_with (first | ((with_reducible refine gate_callee (f := 15) rfl ?_); refine goesL_ (some 8) rfl rfl Tryd.func15 (by kernel_rfl) rfl #[.agg #[.int .i64 3, .string (⟨#[]⟩ : ByteArray), .string (⟨#[]⟩ : ByteArray), .int .i64 0, .int .i64 0, .int .i64 0, .int .i64 0, .int .i64 0, .int .i64 38, .int .i64 112]] rfl (by (try simp only [List.map_toArray, List.map_cons, List.map_nil]); first | done | rfl | (simp only [List.length_drop, List.length_take]; rfl)) ?_; (with_reducible refine (tell_Encode.calls 3 (⟨#[]⟩ : ByteArray) (⟨#[]⟩ : ByteArray) 0 0 0 0 0 38 112 t218 t219 _ ?side1 A1.out).mono ?_); (case side1 => exact Aside0.mk (Tabs_.below hT_.out (by repeat (first | (with_reducible first | exact HB.out | apply below_alloc | apply pw_below_drewN | apply below_drew1) | exact HB.out)))); rintro e w19 ⟨rfl, hb⟩; refine ⟨_, rfl, ?_⟩; have n0_ := Aside0.mk (below_step (by repeat (first | (with_reducible first | exact HB.out | apply below_alloc | apply pw_below_drewN | apply below_drew1) | exact HB.out)) hb); clear HB; have HB := n0_; clear n0_; (try clear hb); (try clear hb2); (try clear hk); (try clear hi)) | ((with_reducible refine gate_callee (f := 20) rfl ?_); refine goesL_ (some 13) rfl rfl Tryd.func20 (by kernel_rfl) rfl #[.string t218] rfl (by (try simp only [List.map_toArray, List.map_cons, List.map_nil]); first | done | rfl | (simp only [List.length_drop, List.length_take]; rfl)) ?_; (with_reducible refine (tell_Decode.calls t218 t220 t221 t222 t223 t224 t225 t226 t227 t228 t229 t230 t231 _ A2.out).mono ?_); rintro e w20 ⟨rfl, hb⟩; refine ⟨_, rfl, ?_⟩; have n0_ := Aside0.mk (below_step (by repeat (first | (with_reducible first | exact HB.out | apply below_alloc | apply pw_below_drewN | apply below_drew1) | exact HB.out)) hb); clear HB; have HB := n0_; clear n0_; (try clear hb); (try clear hb2); (try clear hk); (try clear hi)) | ((with_reducible refine gate_dst (N := 3) rfl ?_); refine box_event ?hg (N := 3) ?hd (cs := #[.int .i64 0, .string (⟨#[]⟩ : ByteArray), .string (⟨#[]⟩ : ByteArray), .int .i64 0, .int .i64 0, .int .i64 0, .int .i64 0, .int .i64 0, .int .i64 0, .int .i64 0]) (t := 23) ?hr ?_; (case hd => rfl); (case hg => rfl); (case hr => first | (go_simp; done) | (go_simp; rfl)); intro gb232 hg w21 hbox hb; have n0_ := Aside0.mk (below_step (by repeat (first | (with_reducible first | exact HB.out | apply below_alloc | apply pw_below_drewN | apply below_drew1) | exact HB.out)) hb); have n1_ := Aside0.mk (hbox); have n2_ := Aside0.mk ((by rw [hg]; exact (below_size (by repeat (first | (with_reducible first | exact HB.out | apply below_alloc | apply pw_below_drewN | apply below_drew1) | exact HB.out))) : w.heap.size ≤ gb232)); have n3_ := Aside0.mk ((by rw [hg]; exact (below_size (by repeat (first | (with_reducible first | exact HB.out | apply below_alloc | apply pw_below_drewN | apply below_drew1) | exact HB.out))) : w.heap.size ≤ gb232)); clear HB; have HB := n0_; have BK232 := n1_; have GW232 := n2_; have GE232 := n3_; clear n0_ n1_ n2_ n3_; clear hb hbox hg; have hcz22_0 : w21.cell? ⟨gb232, 0, none⟩ = some (.int .i64 0) := (blk_cell BK232.out 0).trans rfl; have hcz22_1 : w21.cell? ⟨gb232, 1, none⟩ = some (.string (⟨#[]⟩ : ByteArray)) := (blk_cell BK232.out 1).trans rfl; have hcz22_2 : w21.cell? ⟨gb232, 2, none⟩ = some (.string (⟨#[]⟩ : ByteArray)) := (blk_cell BK232.out 2).trans rfl; have hcz22_3 : w21.cell? ⟨gb232, 3, none⟩ = some (.int .i64 0) := (blk_cell BK232.out 3).trans rfl; have hcz22_4 : w21.cell? ⟨gb232, 4, none⟩ = some (.int .i64 0) := (blk_cell BK232.out 4).trans rfl; have hcz22_5 : w21.cell? ⟨gb232, 5, none⟩ = some (.int .i64 0) := (blk_cell BK232.out 5).trans rfl; have hcz22_6 : w21.cell? ⟨gb232, 6, none⟩ = some (.int .i64 0) := (blk_cell BK232.out 6).trans rfl; have hcz22_7 : w21.cell? ⟨gb232, 7, none⟩ = some (.int .i64 0) := (blk_cell BK232.out 7).trans rfl; have hcz22_8 : w21.cell? ⟨gb232, 8, none⟩ = some (.int .i64 0) := (blk_cell BK232.out 8).trans rfl; have hcz22_9 : w21.cell? ⟨gb232, 9, none⟩ = some (.int .i64 0) := (blk_cell BK232.out 9).trans rfl; have hfz22_0 := blk_frozen BK232.out 0; have hfz22_1 := blk_frozen BK232.out 1; have hfz22_2 := blk_frozen BK232.out 2; have hfz22_3 := blk_frozen BK232.out 3; have hfz22_4 := blk_frozen BK232.out 4; have hfz22_5 := blk_frozen BK232.out 5; have hfz22_6 := blk_frozen BK232.out 6; have hfz22_7 := blk_frozen BK232.out 7; have hfz22_8 := blk_frozen BK232.out 8; have hfz22_9 := blk_frozen BK232.out 9))
      go_ret
      exact ⟨by first | rfl | (simp [errW_none, errW_some] <;> rfl) | (simp [*, errW_none, errW_some] <;> rfl), by repeat (first | (with_reducible first | exact HB.out | apply below_alloc | apply pw_below_drewN | apply below_drew1 | refine below_set ?_ GE232.out) | exact HB.out)⟩
  · rw [if_neg c3] at H
    have c3b0 : (t218.toList == ([51, 53, 61, 51, 1, 51, 55, 49, 61, 51, 56, 1, 51, 55, 51, 61, 49, 49, 50, 1] : List UInt8)) = false := beq_eq_false_iff_ne.mpr c3
    have c3b1 : (t218.toList != ([51, 53, 61, 51, 1, 51, 55, 49, 61, 51, 56, 1, 51, 55, 51, 61, 49, 49, 50, 1] : List UInt8)) = true := bne_iff_ne.mpr c3
    obtain rfl := Option.some.inj H
    go_enter Tryd.func13, Tryd.ntmps13
    go_wp2_with (first | ((with_reducible refine gate_callee (f := 15) rfl ?_); refine goesL_ (some 8) rfl rfl Tryd.func15 (by kernel_rfl) rfl #[.agg #[.int .i64 3, .string (⟨#[]⟩ : ByteArray), .string (⟨#[]⟩ : ByteArray), .int .i64 0, .int .i64 0, .int .i64 0, .int .i64 0, .int .i64 0, .int .i64 38, .int .i64 112]] rfl (by (try simp only [List.map_toArray, List.map_cons, List.map_nil]); first | done | rfl | (simp only [List.length_drop, List.length_take]; rfl)) ?_; (with_reducible refine (tell_Encode.calls 3 (⟨#[]⟩ : ByteArray) (⟨#[]⟩ : ByteArray) 0 0 0 0 0 38 112 t218 t219 _ ?side1 A1.out).mono ?_); (case side1 => exact Aside0.mk (Tabs_.below hT_.out (by repeat (first | (with_reducible first | exact HB.out | apply below_alloc | apply pw_below_drewN | apply below_drew1) | exact HB.out)))); rintro e w23 ⟨rfl, hb⟩; refine ⟨_, rfl, ?_⟩; have n0_ := Aside0.mk (below_step (by repeat (first | (with_reducible first | exact HB.out | apply below_alloc | apply pw_below_drewN | apply below_drew1) | exact HB.out)) hb); clear HB; have HB := n0_; clear n0_; (try clear hb); (try clear hb2); (try clear hk); (try clear hi)) | ((with_reducible refine gate_callee (f := 20) rfl ?_); refine goesL_ (some 13) rfl rfl Tryd.func20 (by kernel_rfl) rfl #[.string t218] rfl (by (try simp only [List.map_toArray, List.map_cons, List.map_nil]); first | done | rfl | (simp only [List.length_drop, List.length_take]; rfl)) ?_; (with_reducible refine (tell_Decode.calls t218 t220 t221 t222 t223 t224 t225 t226 t227 t228 t229 t230 t231 _ A2.out).mono ?_); rintro e w24 ⟨rfl, hb⟩; refine ⟨_, rfl, ?_⟩; have n0_ := Aside0.mk (below_step (by repeat (first | (with_reducible first | exact HB.out | apply below_alloc | apply pw_below_drewN | apply below_drew1) | exact HB.out)) hb); clear HB; have HB := n0_; clear n0_; (try clear hb); (try clear hb2); (try clear hk); (try clear hi)) | ((with_reducible refine gate_dst (N := 3) rfl ?_); refine box_event ?hg (N := 3) ?hd (cs := #[.int .i64 0, .string (⟨#[]⟩ : ByteArray), .string (⟨#[]⟩ : ByteArray), .int .i64 0, .int .i64 0, .int .i64 0, .int .i64 0, .int .i64 0, .int .i64 0, .int .i64 0]) (t := 23) ?hr ?_; (case hd => rfl); (case hg => rfl); (case hr => first | (go_simp; done) | (go_simp; rfl)); intro gb232 hg w25 hbox hb; have n0_ := Aside0.mk (below_step (by repeat (first | (with_reducible first | exact HB.out | apply below_alloc | apply pw_below_drewN | apply below_drew1) | exact HB.out)) hb); have n1_ := Aside0.mk (hbox); have n2_ := Aside0.mk ((by rw [hg]; exact (below_size (by repeat (first | (with_reducible first | exact HB.out | apply below_alloc | apply pw_below_drewN | apply below_drew1) | exact HB.out))) : w.heap.size ≤ gb232)); have n3_ := Aside0.mk ((by rw [hg]; exact (below_size (by repeat (first | (with_reducible first | exact HB.out | apply below_alloc | apply pw_below_drewN | apply below_drew1) | exact HB.out))) : w.heap.size ≤ gb232)); clear HB; have HB := n0_; have BK232 := n1_; have GW232 := n2_; have GE232 := n3_; clear n0_ n1_ n2_ n3_; clear hb hbox hg; have hcz26_0 : w25.cell? ⟨gb232, 0, none⟩ = some (.int .i64 0) := (blk_cell BK232.out 0).trans rfl; have hcz26_1 : w25.cell? ⟨gb232, 1, none⟩ = some (.string (⟨#[]⟩ : ByteArray)) := (blk_cell BK232.out 1).trans rfl; have hcz26_2 : w25.cell? ⟨gb232, 2, none⟩ = some (.string (⟨#[]⟩ : ByteArray)) := (blk_cell BK232.out 2).trans rfl; have hcz26_3 : w25.cell? ⟨gb232, 3, none⟩ = some (.int .i64 0) := (blk_cell BK232.out 3).trans rfl; have hcz26_4 : w25.cell? ⟨gb232, 4, none⟩ = some (.int .i64 0) := (blk_cell BK232.out 4).trans rfl; have hcz26_5 : w25.cell? ⟨gb232, 5, none⟩ = some (.int .i64 0) := (blk_cell BK232.out 5).trans rfl; have hcz26_6 : w25.cell? ⟨gb232, 6, none⟩ = some (.int .i64 0) := (blk_cell BK232.out 6).trans rfl; have hcz26_7 : w25.cell? ⟨gb232, 7, none⟩ = some (.int .i64 0) := (blk_cell BK232.out 7).trans rfl; have hcz26_8 : w25.cell? ⟨gb232, 8, none⟩ = some (.int .i64 0) := (blk_cell BK232.out 8).trans rfl; have hcz26_9 : w25.cell? ⟨gb232, 9, none⟩ = some (.int .i64 0) := (blk_cell BK232.out 9).trans rfl; have hfz26_0 := blk_frozen BK232.out 0; have hfz26_1 := blk_frozen BK232.out 1; have hfz26_2 := blk_frozen BK232.out 2; have hfz26_3 := blk_frozen BK232.out 3; have hfz26_4 := blk_frozen BK232.out 4; have hfz26_5 := blk_frozen BK232.out 5; have hfz26_6 := blk_frozen BK232.out 6; have hfz26_7 := blk_frozen BK232.out 7; have hfz26_8 := blk_frozen BK232.out 8; have hfz26_9 := blk_frozen BK232.out 9))
    go_ret
    exact ⟨by first | rfl | (simp [errW_none, errW_some] <;> rfl) | (simp [*, errW_none, errW_some] <;> rfl), by repeat (first | (with_reducible first | exact HB.out | apply below_alloc | apply pw_below_drewN | apply below_drew1 | refine below_set ?_ GE232.out) | exact HB.out)⟩
theorem valsOf_none (l : List S78) (t : Int) (h : t ∉ tagsOf l) : valsOf l t = none := by
  unfold valsOf
  rw [List.find?_eq_none.2 (fun x hx => by
    intro e
    exact h (List.mem_map.2 ⟨x, hx, by simpa using e⟩))]
  rfl
theorem dupL_no : ∀ (l seen : List S78), (tagsOf (seen ++ l)).Nodup → dupL seen l = false
  | [], _, _ => rfl
  | x :: r, seen, h => by
    have hx : x.f0 ∉ tagsOf seen := by
      intro hm
      have h2 : (tagsOf seen ++ x.f0 :: tagsOf r).Nodup := by unfold tagsOf at h ⊢; simpa using h
      exact (List.nodup_append.1 h2).2.2 _ hm _ List.mem_cons_self rfl
    rw [dupL_cons, if_neg (by rw [valsOf_none seen _ hx]; decide)]
    exact dupL_no r (seen ++ [x]) (by rw [List.append_assoc]; exact h)
theorem readB_formed (L : List S78) (hn : (tagsOf L).Nodup) (h0 : 0 < L.length) (h35 : (rd_T78 L 0).f0 = 35) (hpos : ∀ x ∈ L, 0 ≤ x.f0) (he : (allFormsL (L.map pairF)).2 = 0) :
    readB ⟨(allFormsL (L.map pairF)).1.toArray⟩ = (some (formOf L), 0) := by
  unfold allFormsL at he ⊢
  by_cases c : 64 < (L.map pairF).length
  · rw [if_pos c] at he; simp at he
  rw [if_neg c] at he ⊢
  have hf := fieldsL_formed (L.map pairF) 0 0 he (by omega)
  have hb : fieldsB ⟨(formsL (L.map pairF)).1.toArray⟩ = L := by
    unfold fieldsB
    rw [show (⟨(formsL (L.map pairF)).1.toArray⟩ : ByteArray).data.toList = (formsL (L.map pairF)).1 by simp, hf]
    simp only [List.map_map]
    conv => rhs; rw [← List.map_id L]
    apply List.map_congr_left
    intro x hx
    show mkF (readF (pairF x)) = x
    have := hpos x hx
    unfold mkF readF pairF
    simp only
    rw [Int.toNat_of_nonneg this]
  unfold readB
  rw [hb, show (⟨(formsL (L.map pairF)).1.toArray⟩ : ByteArray).data.toList = (formsL (L.map pairF)).1 by simp, hf]
  simp only
  rw [if_neg (by simp), if_neg (fun h => h.elim (fun h => by omega) (fun h => h h35)), if_neg (by rw [dupL_no L [] (by simpa using hn)]; decide)]
theorem may_cons (b : UInt8) (h : b.toNat < 128) (hm : mayB b.toNat = true) (t : List UInt8) : allMay (b :: t) = allMay t := by
  rw [allMay_cons _ (by simp), dec_ascii _ _ h, hm]
  simp
theorem allMay_digs : ∀ (ds : List UInt8), (∀ x ∈ ds, isDig x) → allMay ds = true
  | [], _ => allMay_nil
  | b :: t, h => by
    have hb := h b List.mem_cons_self
    unfold isDig at hb
    rw [may_cons b (by omega) (by rw [mayB_eq]; omega)]
    exact allMay_digs t (fun x hx => h x (List.mem_cons_of_mem _ hx))
theorem nameL_may (n : Nat) : ∀ (l : List UInt8) (c : Nat), l.length ≤ n → c ≤ 20 → nameL l c = true → allMay l = true ∧ l.length ≤ 4 * (20 - c) := by
  induction n with
  | zero => intro l c h _ _; rw [List.eq_nil_of_length_eq_zero (show l.length = 0 by omega)]; exact ⟨allMay_nil, Nat.zero_le _⟩
  | succ n ih =>
    intro l c h hc hn
    by_cases hl : l = []
    · rw [hl]; exact ⟨allMay_nil, Nat.zero_le _⟩
    by_cases h20 : 20 ≤ c
    · rw [nameL_full l hl c h20] at hn; cases hn
    cases hm : mayN (dec l).1 with
    | false => rw [nameL_bad l hl c hm] at hn; cases hn
    | true =>
      rw [nameL_go l hl c (by omega) hm] at hn
      have hw := dec_width l
      have hw4 := dec_width4 l
      have hp := List.length_pos_iff.2 hl
      have h2 := ih (l.drop (dec l).2) (c + 1) (by rw [List.length_drop]; omega) (by omega) hn
      rw [List.length_drop] at h2
      rw [allMay_cons l hl, h2.1]
      have := (mayN_eq _).1 hm
      refine ⟨?_, by omega⟩
      rw [show mayB (dec l).1 = true from (mayB_eq _).2 (by omega)]; rfl
theorem nameL_value {l : List UInt8} (h : nameL l 0 = true) : valueL l = true ∧ l.length ≤ 80 := by
  obtain ⟨h1, h2⟩ := nameL_may l.length l 0 (Nat.le_refl _) (by omega) h
  have h3 : 1 ≤ l.length := by
    rcases Nat.eq_zero_or_pos l.length with g | g
    · rw [List.eq_nil_of_length_eq_zero g, nameL_nil] at h; simp at h
    · exact g
  refine ⟨?_, by omega⟩
  unfold valueL
  rw [h1, decide_eq_true h3, decide_eq_true (show l.length ≤ 512 by omega)]; rfl
theorem digs_value (n : Nat) (h : n ≤ 9223372036854775807) : valueL (digitsN n) = true := by
  unfold valueL
  rw [allMay_digs _ (digitsN_dig n), decide_eq_true (digitsN_pos n), decide_eq_true (show (digitsN n).length ≤ 512 by have := digitsN_len 19 n (by omega); omega)]; rfl
theorem formL_good (t : Int) (v : List UInt8) (h1 : 1 ≤ t) (h2 : t ≤ 99999) (hv : valueL v = true) : formL t v = (digitsN t.toNat ++ 61 :: (v ++ [1]), 0) := by
  unfold formL
  rw [if_neg (by omega), if_pos hv]
def fieldL (f : Int × List UInt8) : List UInt8 := digitsN f.1.toNat ++ 61 :: (f.2 ++ [1])
def goodF (f : Int × List UInt8) : Prop := 1 ≤ f.1 ∧ f.1 ≤ 99999 ∧ valueL f.2 = true
theorem formsL_good : ∀ l : List (Int × List UInt8), (∀ f ∈ l, goodF f) → formsL l = ((l.map fieldL).flatten, 0)
  | [], _ => rfl
  | f :: r, h => by
    obtain ⟨h1, h2, h3⟩ := h f List.mem_cons_self
    have ih := formsL_good r (fun x hx => h x (List.mem_cons_of_mem _ hx))
    unfold formsL
    rw [formL_good f.1 f.2 h1 h2 h3, ih, if_neg (by simp), if_neg (by simp)]
    rfl
theorem allFormsL_good (l : List (Int × List UInt8)) (hl : l.length ≤ 64) (h : ∀ f ∈ l, goodF f) : allFormsL l = ((l.map fieldL).flatten, 0) := by
  unfold allFormsL
  rw [if_neg (by omega)]
  exact formsL_good l h
theorem goodF_name (t : Int) (s : ByteArray) (h1 : 1 ≤ t) (h2 : t ≤ 99999) (h : nameL s.data.toList 0 = true) : goodF (t, s.data.toList) := ⟨h1, h2, (nameL_value h).1⟩
theorem goodF_num (t n : Int) (h1 : 1 ≤ t) (h2 : t ≤ 99999) (h3 : n ≤ 9223372036854775807) : goodF (t, (digitsB n).data.toList) := ⟨h1, h2, by rw [digitsB_list]; exact digs_value _ (by omega)⟩
theorem goodF_one (t : Int) (b : UInt8) (h1 : 1 ≤ t) (h2 : t ≤ 99999) (hb : b.toNat < 128) (hm : mayB b.toNat = true) : goodF (t, (⟨#[b]⟩ : ByteArray).data.toList) := ⟨h1, h2, by
  unfold valueL
  show (decide (1 ≤ [b].length) && (decide ([b].length ≤ 512) && allMay [b])) = true
  rw [may_cons b hb hm, allMay_nil]; rfl⟩
theorem numP_digs (n : Nat) (h : n ≤ 9223372036854775807) : numP (digitsN n) = (n, 0) := by
  have hne := digitsN_ne n
  have hv : valFrom 0 (digitsN n) = n := by rw [valFrom_zero, valOf_digitsN]
  unfold numP
  rw [if_neg (by
    rintro (g | ⟨g1, g2⟩)
    · exact hne g
    · by_cases c : n < 10
      · rw [digitsN_small c] at g2; simp at g2
      · match hd : digitsN n with
        | [] => exact hne hd
        | b :: t =>
          rw [hd] at g1
          have := digitsN_head n (by omega) b t hd
          simp at g1
          exact this (by rw [g1]; rfl))]
  have := noP_all (digitsN n) 0 (digitsN_dig n) (by omega)
  rw [hv] at this
  exact this
theorem ask_name_ok {F : FormS} {t : Int} {s : ByteArray} (he : F.e = 0) (hv : F.vals t = some s) (hn : nameL s.data.toList 0 = true) : askL takeName ⟨#[]⟩ F t = (s, F.mark t) := by
  rw [askL_some takeName _ F t he hv]
  have : takeName s = (s, 0) := by unfold takeName; rw [if_pos hn]
  rw [this, if_pos rfl]
theorem ask_int_ok {F : FormS} {t lo hi n : Int} (he : F.e = 0) (hv : F.vals t = some (digitsB n)) (h0 : 0 ≤ n) (h9 : n ≤ 9223372036854775807) (hl : lo ≤ n) (hh : n ≤ hi) : askL (fun s => takeInt s lo hi) 0 F t = (n, F.mark t) := by
  rw [askL_some (fun s => takeInt s lo hi) _ F t he hv]
  have : takeInt (digitsB n) lo hi = (n, 0) := by
    unfold takeInt
    rw [digitsB_list, numP_digs _ (by omega)]
    simp only
    rw [if_neg (by rintro ⟨_, h | h⟩ <;> omega), Int.toNat_of_nonneg h0]; rfl
  simp only [this]
  rw [if_pos trivial]
theorem doneL_ok {F : FormS} (h0 : F.e = 0) (h : spareL F.asked F.order = (0, 0)) : doneL F = (0, 0) := by
  unfold doneL
  rw [if_neg (by simpa using h0), h]
theorem dg35 : digitsN 35 = [51, 53] := by rw [digitsN_step (n := 35) (by decide), digitsN_small (n := 35 / 10) (by decide)]; rfl
theorem dg371 : digitsN 371 = [51, 55, 49] := by rw [digitsN_step (n := 371) (by decide), digitsN_step (n := 371 / 10) (by decide), digitsN_small (n := 371 / 10 / 10) (by decide)]; rfl
theorem dg373 : digitsN 373 = [51, 55, 51] := by rw [digitsN_step (n := 373) (by decide), digitsN_step (n := 373 / 10) (by decide), digitsN_small (n := 373 / 10 / 10) (by decide)]; rfl
theorem dg38 : digitsN 38 = [51, 56] := by rw [digitsN_step (n := 38) (by decide), digitsN_small (n := 38 / 10) (by decide)]; rfl
def R1 (a : TellV) : Prop := a.f0 = 1 ∧ nameL a.f1.data.toList 0 = true ∧ nameL a.f2.data.toList 0 = true ∧ (0 ≤ a.f3 ∧ a.f3 ≤ 9) ∧ (0 ≤ a.f4 ∧ a.f4 ≤ 1099511627776) ∧ (0 ≤ a.f5 ∧ a.f5 ≤ 1099511627776) ∧ (0 ≤ a.f6 ∧ a.f6 ≤ 1099511627776) ∧ (0 ≤ a.f7 ∧ a.f7 ≤ 1099511627776) ∧ (0 ≤ a.f9 ∧ a.f9 ≤ 999) ∧ a.f8 = 0
def R2 (a : TellV) : Prop := a.f0 = 2 ∧ nameL a.f1.data.toList 0 = true ∧ (0 ≤ a.f3 ∧ a.f3 ≤ 9) ∧ (0 ≤ a.f9 ∧ a.f9 ≤ 999) ∧ a.f2 = ⟨#[]⟩ ∧ a.f4 = 0 ∧ a.f5 = 0 ∧ a.f6 = 0 ∧ a.f7 = 0 ∧ a.f8 = 0
def R34 (k : Int) (a : TellV) : Prop := a.f0 = k ∧ (0 ≤ a.f8 ∧ a.f8 ≤ 99999) ∧ (0 ≤ a.f9 ∧ a.f9 ≤ 999) ∧ a.f1 = ⟨#[]⟩ ∧ a.f2 = ⟨#[]⟩ ∧ a.f3 = 0 ∧ a.f4 = 0 ∧ a.f5 = 0 ∧ a.f6 = 0 ∧ a.f7 = 0
theorem rightT_iff (a : TellV) : rightT a = true ↔ R1 a ∨ R2 a ∨ R34 3 a ∨ R34 4 a := by
  obtain ⟨f0, f1, f2, f3, f4, f5, f6, f7, f8, f9⟩ := a
  by_cases c1 : f0 = 1
  · subst c1
    simp [rightT, slotsN, rightR, okF, clearF, getS, getN, mostOf, zTell, R1, R2, R34]
  by_cases c2 : f0 = 2
  · subst c2
    simp [rightT, slotsN, rightR, okF, clearF, getS, getN, mostOf, zTell, R1, R2, R34]
  by_cases c3 : f0 = 3
  · subst c3
    simp [rightT, slotsN, rightR, okF, clearF, getS, getN, mostOf, zTell, R1, R2, R34]
  by_cases c4 : f0 = 4
  · subst c4
    simp [rightT, slotsN, rightR, okF, clearF, getS, getN, mostOf, zTell, R1, R2, R34]
  · unfold rightT R1 R2 R34
    simp only
    rw [if_neg (by omega)]
    simp [c1, c2, c3, c4]
structure EncOk (a : TellV) : Prop where
  form : allFormsL ((encF a).map pairF) = ((((encF a).map pairF).map fieldL).flatten, 0)
  back : tellD ⟨((((encF a).map pairF).map fieldL).flatten).toArray⟩ = (a, 0, 0)
theorem encOk_of (a : TellV) (k : Nat) (w : UInt8) (F' : FormS) (l : List ValT) (hlen : (encF a).length ≤ 64) (hg : ∀ f ∈ (encF a).map pairF, goodF f) (hn : (tagsOf (encF a)).Nodup) (h0 : 0 < (encF a).length) (h35 : (rd_T78 (encF a) 0).f0 = 35)
    (hv : ((formOf (encF a)).vals 35).getD ⟨#[]⟩ = ⟨#[w]⟩) (hk : tellKind ⟨#[w]⟩ = k) (hk0 : k ≠ 0) (ha : asksT (tellSchema k) ((formOf (encF a)).mark 35) = (l, F')) (hd : doneL F' = (0, 0)) (hl : tellOf k l = a) : EncOk a := by
  have hf := allFormsL_good _ (by rw [List.length_map]; exact hlen) hg
  have hr := readB_formed (encF a) hn h0 h35 (fun x hx => by have := (hg (pairF x) (List.mem_map_of_mem hx)).1; unfold pairF at this; simp only at this; omega) (by rw [hf])
  rw [hf] at hr
  refine ⟨hf, ?_⟩
  rw [tellD_good hr hv hk hk0 ha hd, hl]
set_option maxRecDepth 100000 in
theorem enc_ok1 (a : TellV) (h : R1 a) : EncOk a := by
  obtain ⟨f0, f1, f2, f3, f4, f5, f6, f7, f8, f9⟩ := a
  obtain ⟨rfl, n1, n2, h3, h4, h5, h6, h7, h9, rfl⟩ := h
  simp only at n1 n2 h3 h4 h5 h6 h7 h9
  have eL : encF ⟨1, f1, f2, f3, f4, f5, f6, f7, 0, f9⟩ = [⟨35, ⟨#[56]⟩⟩, ⟨11, f1⟩, ⟨17, f2⟩, ⟨39, digitsB f3⟩, ⟨32, digitsB f4⟩, ⟨31, digitsB f5⟩, ⟨14, digitsB f6⟩, ⟨151, digitsB f7⟩, ⟨103, digitsB f9⟩] := rfl
  have E1 := ask_name_ok (F := (formOf (encF ⟨1, f1, f2, f3, f4, f5, f6, f7, 0, f9⟩)).mark 35) (t := 11) rfl (by rw [eL]; rfl) n1
  have E2 := ask_name_ok (F := ((formOf (encF ⟨1, f1, f2, f3, f4, f5, f6, f7, 0, f9⟩)).mark 35).mark 11) (t := 17) rfl (by rw [eL]; rfl) n2
  have E3 := ask_int_ok (F := (((formOf (encF ⟨1, f1, f2, f3, f4, f5, f6, f7, 0, f9⟩)).mark 35).mark 11).mark 17) (t := 39) (lo := 0) (hi := 9) rfl (by rw [eL]; rfl) h3.1 (by omega) h3.1 h3.2
  have E4 := ask_int_ok (F := ((((formOf (encF ⟨1, f1, f2, f3, f4, f5, f6, f7, 0, f9⟩)).mark 35).mark 11).mark 17).mark 39) (t := 32) (lo := 0) (hi := 1099511627776) rfl (by rw [eL]; rfl) h4.1 (by omega) h4.1 h4.2
  have E5 := ask_int_ok (F := (((((formOf (encF ⟨1, f1, f2, f3, f4, f5, f6, f7, 0, f9⟩)).mark 35).mark 11).mark 17).mark 39).mark 32) (t := 31) (lo := 0) (hi := 1099511627776) rfl (by rw [eL]; rfl) h5.1 (by omega) h5.1 h5.2
  have E6 := ask_int_ok (F := ((((((formOf (encF ⟨1, f1, f2, f3, f4, f5, f6, f7, 0, f9⟩)).mark 35).mark 11).mark 17).mark 39).mark 32).mark 31) (t := 14) (lo := 0) (hi := 1099511627776) rfl (by rw [eL]; rfl) h6.1 (by omega) h6.1 h6.2
  have E7 := ask_int_ok (F := (((((((formOf (encF ⟨1, f1, f2, f3, f4, f5, f6, f7, 0, f9⟩)).mark 35).mark 11).mark 17).mark 39).mark 32).mark 31).mark 14) (t := 151) (lo := 0) (hi := 1099511627776) rfl (by rw [eL]; rfl) h7.1 (by omega) h7.1 h7.2
  have E8 := ask_int_ok (F := ((((((((formOf (encF ⟨1, f1, f2, f3, f4, f5, f6, f7, 0, f9⟩)).mark 35).mark 11).mark 17).mark 39).mark 32).mark 31).mark 14).mark 151) (t := 103) (lo := 0) (hi := 999) rfl (by rw [eL]; rfl) h9.1 (by omega) h9.1 h9.2
  refine encOk_of _ 1 56 _ _ (by rw [eL]; simp) ?_ ?_ (by rw [eL]; simp) (by rw [eL]; rfl) (by rw [eL]; rfl) rfl (by decide)
    (by rw [show tellSchema 1 = [.name 11, .name 17, .int 39 0 9, .int 32 0 1099511627776, .int 31 0 1099511627776, .int 14 0 1099511627776, .int 151 0 1099511627776, .int 103 0 999] from rfl, asksT_name E1, asksT_name E2, asksT_int E3, asksT_int E4, asksT_int E5, asksT_int E6, asksT_int E7, asksT_int E8]) (doneL_ok rfl (by rw [eL]; rfl)) rfl
  · rw [eL]
    simp only [List.map_cons, List.map_nil, pairF, List.forall_mem_cons]
    exact ⟨goodF_one 35 56 (by decide) (by decide) (by decide) (by decide), goodF_name 11 f1 (by decide) (by decide) n1, goodF_name 17 f2 (by decide) (by decide) n2, goodF_num 39 f3 (by decide) (by decide) (by omega), goodF_num 32 f4 (by decide) (by decide) (by omega), goodF_num 31 f5 (by decide) (by decide) (by omega), goodF_num 14 f6 (by decide) (by decide) (by omega), goodF_num 151 f7 (by decide) (by decide) (by omega), goodF_num 103 f9 (by decide) (by decide) (by omega), fun _ h => absurd h List.not_mem_nil⟩
  · rw [eL]
    show List.Nodup [35, 11, 17, 39, 32, 31, 14, 151, 103]
    decide
set_option maxRecDepth 100000 in
theorem enc_ok2 (a : TellV) (h : R2 a) : EncOk a := by
  obtain ⟨f0, f1, f2, f3, f4, f5, f6, f7, f8, f9⟩ := a
  obtain ⟨rfl, n1, h3, h9, rfl, rfl, rfl, rfl, rfl, rfl⟩ := h
  simp only at n1 h3 h9
  have eL : encF ⟨2, f1, ⟨#[]⟩, f3, 0, 0, 0, 0, 0, f9⟩ = [⟨35, ⟨#[57]⟩⟩, ⟨11, f1⟩, ⟨39, digitsB f3⟩, ⟨103, digitsB f9⟩] := rfl
  have E1 := ask_name_ok (F := (formOf (encF ⟨2, f1, ⟨#[]⟩, f3, 0, 0, 0, 0, 0, f9⟩)).mark 35) (t := 11) rfl (by rw [eL]; rfl) n1
  have E2 := ask_int_ok (F := ((formOf (encF ⟨2, f1, ⟨#[]⟩, f3, 0, 0, 0, 0, 0, f9⟩)).mark 35).mark 11) (t := 39) (lo := 0) (hi := 9) rfl (by rw [eL]; rfl) h3.1 (by omega) h3.1 h3.2
  have E3 := ask_int_ok (F := (((formOf (encF ⟨2, f1, ⟨#[]⟩, f3, 0, 0, 0, 0, 0, f9⟩)).mark 35).mark 11).mark 39) (t := 103) (lo := 0) (hi := 999) rfl (by rw [eL]; rfl) h9.1 (by omega) h9.1 h9.2
  refine encOk_of _ 2 57 _ _ (by rw [eL]; simp) ?_ ?_ (by rw [eL]; simp) (by rw [eL]; rfl) (by rw [eL]; rfl) rfl (by decide)
    (by rw [show tellSchema 2 = [.name 11, .int 39 0 9, .int 103 0 999] from rfl, asksT_name E1, asksT_int E2, asksT_int E3]) (doneL_ok rfl (by rw [eL]; rfl)) rfl
  · rw [eL]
    simp only [List.map_cons, List.map_nil, pairF, List.forall_mem_cons]
    exact ⟨goodF_one 35 57 (by decide) (by decide) (by decide) (by decide), goodF_name 11 f1 (by decide) (by decide) n1, goodF_num 39 f3 (by decide) (by decide) (by omega), goodF_num 103 f9 (by decide) (by decide) (by omega), fun _ h => absurd h List.not_mem_nil⟩
  · rw [eL]
    show List.Nodup [35, 11, 39, 103]
    decide
set_option maxRecDepth 100000 in
theorem enc_ok3 (a : TellV) (h : R34 3 a) : EncOk a := by
  obtain ⟨f0, f1, f2, f3, f4, f5, f6, f7, f8, f9⟩ := a
  obtain ⟨rfl, h8, h9, rfl, rfl, rfl, rfl, rfl, rfl, rfl⟩ := h
  simp only at h8 h9
  have eL : encF ⟨3, ⟨#[]⟩, ⟨#[]⟩, 0, 0, 0, 0, 0, f8, f9⟩ = [⟨35, ⟨#[51]⟩⟩, ⟨371, digitsB f8⟩, ⟨373, digitsB f9⟩] := rfl
  have E1 := ask_int_ok (F := (formOf (encF ⟨3, ⟨#[]⟩, ⟨#[]⟩, 0, 0, 0, 0, 0, f8, f9⟩)).mark 35) (t := 371) (lo := 0) (hi := 99999) rfl (by rw [eL]; rfl) h8.1 (by omega) h8.1 h8.2
  have E2 := ask_int_ok (F := ((formOf (encF ⟨3, ⟨#[]⟩, ⟨#[]⟩, 0, 0, 0, 0, 0, f8, f9⟩)).mark 35).mark 371) (t := 373) (lo := 0) (hi := 999) rfl (by rw [eL]; rfl) h9.1 (by omega) h9.1 h9.2
  refine encOk_of _ 3 51 _ _ (by rw [eL]; simp) ?_ ?_ (by rw [eL]; simp) (by rw [eL]; rfl) (by rw [eL]; rfl) rfl (by decide)
    (by rw [show tellSchema 3 = [.int 371 0 99999, .int 373 0 999] from rfl, asksT_int E1, asksT_int E2]) (doneL_ok rfl (by rw [eL]; rfl)) rfl
  · rw [eL]
    simp only [List.map_cons, List.map_nil, pairF, List.forall_mem_cons]
    exact ⟨goodF_one 35 51 (by decide) (by decide) (by decide) (by decide), goodF_num 371 f8 (by decide) (by decide) (by omega), goodF_num 373 f9 (by decide) (by decide) (by omega), fun _ h => absurd h List.not_mem_nil⟩
  · rw [eL]
    show List.Nodup [35, 371, 373]
    decide
set_option maxRecDepth 100000 in
theorem enc_ok4 (a : TellV) (h : R34 4 a) : EncOk a := by
  obtain ⟨f0, f1, f2, f3, f4, f5, f6, f7, f8, f9⟩ := a
  obtain ⟨rfl, h8, h9, rfl, rfl, rfl, rfl, rfl, rfl, rfl⟩ := h
  simp only at h8 h9
  have eL : encF ⟨4, ⟨#[]⟩, ⟨#[]⟩, 0, 0, 0, 0, 0, f8, f9⟩ = [⟨35, ⟨#[106]⟩⟩, ⟨371, digitsB f8⟩, ⟨380, digitsB f9⟩] := rfl
  have E1 := ask_int_ok (F := (formOf (encF ⟨4, ⟨#[]⟩, ⟨#[]⟩, 0, 0, 0, 0, 0, f8, f9⟩)).mark 35) (t := 371) (lo := 0) (hi := 99999) rfl (by rw [eL]; rfl) h8.1 (by omega) h8.1 h8.2
  have E2 := ask_int_ok (F := ((formOf (encF ⟨4, ⟨#[]⟩, ⟨#[]⟩, 0, 0, 0, 0, 0, f8, f9⟩)).mark 35).mark 371) (t := 380) (lo := 0) (hi := 999) rfl (by rw [eL]; rfl) h9.1 (by omega) h9.1 h9.2
  refine encOk_of _ 4 106 _ _ (by rw [eL]; simp) ?_ ?_ (by rw [eL]; simp) (by rw [eL]; rfl) (by rw [eL]; rfl) rfl (by decide)
    (by rw [show tellSchema 4 = [.int 371 0 99999, .int 380 0 999] from rfl, asksT_int E1, asksT_int E2]) (doneL_ok rfl (by rw [eL]; rfl)) rfl
  · rw [eL]
    simp only [List.map_cons, List.map_nil, pairF, List.forall_mem_cons]
    exact ⟨goodF_one 35 106 (by decide) (by decide) (by decide) (by decide), goodF_num 371 f8 (by decide) (by decide) (by omega), goodF_num 380 f9 (by decide) (by decide) (by omega), fun _ h => absurd h List.not_mem_nil⟩
  · rw [eL]
    show List.Nodup [35, 371, 380]
    decide
theorem enc_ok (a : TellV) (h : rightT a = true) : EncOk a := by
  rcases (rightT_iff a).1 h with h | h | h | h
  · exact enc_ok1 a h
  · exact enc_ok2 a h
  · exact enc_ok3 a h
  · exact enc_ok4 a h
theorem encT_right (a : TellV) (h : rightT a = true) : encT a = (⟨((((encF a).map pairF).map fieldL).flatten).toArray⟩, 0) := by
  unfold encT
  rw [if_pos h, (enc_ok a h).form]; rfl
theorem encT_back (a : TellV) (h : rightT a = true) : tellD (encT a).1 = (a, 0, 0) := by rw [encT_right a h]; exact (enc_ok a h).back
theorem aw13_right : rightT ⟨3, ⟨#[]⟩, ⟨#[]⟩, 0, 0, 0, 0, 0, 38, 112⟩ = true := by
  rw [rightT_iff]
  exact .inr (.inr (.inl ⟨rfl, by decide, by decide, rfl, rfl, rfl, rfl, rfl, rfl, rfl⟩))
theorem dg112 : digitsN 112 = [49, 49, 50] := by rw [digitsN_step (n := 112) (by decide), digitsN_step (n := 112 / 10) (by decide), digitsN_small (n := 112 / 10 / 10) (by decide)]; rfl
theorem aw13_text : encT ⟨3, ⟨#[]⟩, ⟨#[]⟩, 0, 0, 0, 0, 0, 38, 112⟩ = (⟨#[51, 53, 61, 51, 1, 51, 55, 49, 61, 51, 56, 1, 51, 55, 51, 61, 49, 49, 50, 1]⟩, 0) := by
  rw [encT_right _ aw13_right]
  have eL : encF ⟨3, ⟨#[]⟩, ⟨#[]⟩, 0, 0, 0, 0, 0, 38, 112⟩ = [⟨35, ⟨#[51]⟩⟩, ⟨371, digitsB 38⟩, ⟨373, digitsB 112⟩] := rfl
  rw [eL]
  simp only [List.map_cons, List.map_nil, pairF, fieldL, digitsB_list]
  rw [show (35 : Int).toNat = 35 from rfl, show (371 : Int).toNat = 371 from rfl, show (373 : Int).toNat = 373 from rfl, show (38 : Int).toNat = 38 from rfl, show (112 : Int).toNat = 112 from rfl, dg35, dg371, dg373, dg38, dg112]
  rfl
theorem aw13_p : spigotlaw13_awake_p.f = some true := by
  have e1 : tell_Encode.f 3 ⟨#[]⟩ ⟨#[]⟩ 0 0 0 0 0 38 112 = some (⟨#[51, 53, 61, 51, 1, 51, 55, 49, 61, 51, 56, 1, 51, 55, 51, 61, 49, 49, 50, 1]⟩, 0) := by
    unfold tell_Encode.f
    rw [if_pos ⟨by decide, by decide⟩, aw13_text]
  have e2 : tell_Decode.f ⟨#[51, 53, 61, 51, 1, 51, 55, 49, 61, 51, 56, 1, 51, 55, 51, 61, 49, 49, 50, 1]⟩ = some (flatT (⟨3, ⟨#[]⟩, ⟨#[]⟩, 0, 0, 0, 0, 0, 38, 112⟩, 0, 0)) := by
    have h := encT_back _ aw13_right
    rw [aw13_text] at h
    unfold tell_Decode.f
    rw [if_pos (by decide), h]
  unfold spigotlaw13_awake_p.f
  rw [e1]
  simp only [Option.bind_some]
  rw [e2]
  simp only [Option.bind_some, flatT]
  rw [if_pos (by rw [ByteArray.toList_eq])]
  rfl
def spigotlaw13_awake.f : Option Bool := some true
theorem spigotlaw13_awake.calls (r : Bool) (w : World) (hT_ : Aside0 (Tabs_ w)) (h : spigotlaw13_awake.f = some r) :
    Calls Tryd.prog 13 #[] w fun e w' => e = .returned (.bool r) ∧ Below w.heap.size w w' := by
  obtain rfl := Option.some.inj h
  exact spigotlaw13_awake_p.calls true w hT_ aw13_p
end Go.Proofs.YtgfigkfcmkdjdaaDoor.B
end
