/- The functions that the law reaches, as plain Lean functions, and their contracts: texts merged. -/
import Derived.Laws.StructEq
import Derived.Test.YtgfigkfcmkdjdaaDoorzAskBack2
import Derived.Test.YtgfigkfcmkdjdaaDoorzAskBack0
import Derived.Test.YtgfigkfcmkdjdaaDoorzAskBack1
import Derived.Test.YtgfigkfcmkdjdaaDoorzAskBack3
import Derived.Test.YtgfigkfcmkdjdaaDoorzAskBack4
import Derived.Test.YtgfigkfcmkdjdaaDoorzAskBack5
import Derived.Test.YtgfigkfcmkdjdaaDoorzAskBack6
import Derived.Test.YtgfigkfcmkdjdaaDoorzAskBack7
import Derived.Test.YtgfigkfcmkdjdaaDoorzAskBack8
import Derived.Test.YtgfigkfcmkdjdaaDoorzAskBack9
import Derived.Test.YtgfigkfcmkdjdaaDoorzAskBack10
import Derived.Test.YtgfigkfcmkdjdaaDoorzAskBack11
import Derived.Test.YtgfigkfcmkdjdaaDoorzAskBack12
import Derived.Test.YtgfigkfcmkdjdaaDoorzAskBack13
import Derived.Test.YtgfigkfcmkdjdaaDoorzAskBack14
import Derived.Test.YtgfigkfcmkdjdaaDoorzAskBack15
import Derived.Test.YtgfigkfcmkdjdaaDoorzAskBack16
import Derived.Test.YtgfigkfcmkdjdaaDoorzAskBack17
import Derived.Test.YtgfigkfcmkdjdaaDoorzAskBack18
section
namespace Go.Proofs.YtgfigkfcmkdjdaaDoor.B
open Go.RowKit Go.Proofs.YtgfigkfcmkdjdaaDoorW.PrintWords Go.Proofs.YtgfigkfcmkdjdaaDoorW.PrintLast Go.Proofs.YtgfigkfcmkdjdaaDoorW.PrintMore
attribute [local go_sem] max2_int min2_int max_two min_two max_three min_three max_four min_four   -- for this text's walks alone
set_option linter.unusedVariables false
set_option linter.unusedSimpArgs false
def spigotlaw12_awake_p.f (k : Nat)  : Option (Bool) := (ask_Encode.f k 2 (⟨#[98]⟩ : ByteArray) (⟨#[97]⟩ : ByteArray) (⟨#[]⟩ : ByteArray) (⟨#[]⟩ : ByteArray) 0 0 0 0 0 0 0 0 ([] : List Int)).bind fun bt169 => ((ask_Decode.f bt169.1).bind fun bt171 => (if bt169.1.toList = ([51, 53, 61, 70, 1, 49, 49, 61, 98, 1, 52, 49, 61, 97, 1] : List UInt8) then (if bt169.2 = 0 then (if bt171.2.2.2.2.2.2.2.2.2.2.2.2.2.2.1 = 0 then (if bt171.2.2.2.2.2.2.2.2.2.2.2.2.2.2.2 = 0 then (if bt171.1 = 2 then (some (bt171.2.2.1.toList == ([97] : List UInt8))) else (some false)) else (some false)) else (some false)) else (some false)) else (some false)))
theorem spigotlaw12_awake_p.mono : ∀ k, LeO (spigotlaw12_awake_p.f k ) (spigotlaw12_awake_p.f (k + 1) ) := by
  intro  k
  unfold spigotlaw12_awake_p.f
  repeat' first
      | (with_reducible exact ask_Encode.mono _ _ _ _ _ _ _ _ _ _ _ _ _ _ _)
      | (with_reducible exact LeO.refl _)
      | (with_reducible exact LeO.none _)
      | (with_reducible refine LeO.ite ?_ ?_)
      | (with_reducible refine LeO.bind ?_ (fun _ => ?_))
      | exact ask_Encode.mono _ _ _ _ _ _ _ _ _ _ _ _ _ _ _
      | exact LeO.none _
      | refine LeO.ite ?_ ?_
      | refine LeO.bind ?_ (fun _ => ?_)
set_option maxHeartbeats 8000000 in
set_option maxRecDepth 100000 in
theorem spigotlaw12_awake_p.calls (k : Nat)  (r : Bool) (w : World) (hT_ : Aside0 (Tabs_ w)) (h : spigotlaw12_awake_p.f k  = some r) :
    Calls Tryd.prog 38 #[] w fun e w' => e = .returned (.bool r) ∧ Below w.heap.size w w' := by
  have hu68 := Tryd.underlying68
  have HB := Aside0.mk (Below.refl w.heap.size w)
  have H : ((ask_Encode.f k 2 (⟨#[98]⟩ : ByteArray) (⟨#[97]⟩ : ByteArray) (⟨#[]⟩ : ByteArray) (⟨#[]⟩ : ByteArray) 0 0 0 0 0 0 0 0 ([] : List Int)).bind fun bt169 => ((ask_Decode.f bt169.1).bind fun bt171 => (if bt169.1.toList = ([51, 53, 61, 70, 1, 49, 49, 61, 98, 1, 52, 49, 61, 97, 1] : List UInt8) then (if bt169.2 = 0 then (if bt171.2.2.2.2.2.2.2.2.2.2.2.2.2.2.1 = 0 then (if bt171.2.2.2.2.2.2.2.2.2.2.2.2.2.2.2 = 0 then (if bt171.1 = 2 then (some (bt171.2.2.1.toList == ([97] : List UInt8))) else (some false)) else (some false)) else (some false)) else (some false)) else (some false)))) = some r := h
  clear h
  replace H := Option.bind_eq_some_iff.mp H
  obtain ⟨⟨t169, t170⟩, A10, H⟩ := H
  replace H : ((ask_Decode.f t169).bind fun bt171 => (if t169.toList = ([51, 53, 61, 70, 1, 49, 49, 61, 98, 1, 52, 49, 61, 97, 1] : List UInt8) then (if t170 = 0 then (if bt171.2.2.2.2.2.2.2.2.2.2.2.2.2.2.1 = 0 then (if bt171.2.2.2.2.2.2.2.2.2.2.2.2.2.2.2 = 0 then (if bt171.1 = 2 then (some (bt171.2.2.1.toList == ([97] : List UInt8))) else (some false)) else (some false)) else (some false)) else (some false)) else (some false))) = some r := H
  have A1 := Aside0.mk A10
  clear A10
  replace H := Option.bind_eq_some_iff.mp H
  obtain ⟨⟨t171, t172, t173, t174, t175, t176, t177, t178, t179, t180, t181, t182, t183, t184, t187, t188⟩, A20, H⟩ := H
  replace H : (if t169.toList = ([51, 53, 61, 70, 1, 49, 49, 61, 98, 1, 52, 49, 61, 97, 1] : List UInt8) then (if t170 = 0 then (if t187 = 0 then (if t188 = 0 then (if t171 = 2 then (some (t173.toList == ([97] : List UInt8))) else (some false)) else (some false)) else (some false)) else (some false)) else (some false)) = some r := H
  have A2 := Aside0.mk A20
  clear A20
  by_cases c3 : t169.toList = ([51, 53, 61, 70, 1, 49, 49, 61, 98, 1, 52, 49, 61, 97, 1] : List UInt8)
  · rw [if_pos c3] at H
    have c3b0 : (t169.toList == ([51, 53, 61, 70, 1, 49, 49, 61, 98, 1, 52, 49, 61, 97, 1] : List UInt8)) = true := beq_iff_eq.mpr c3
    have c3b1 : (t169.toList != ([51, 53, 61, 70, 1, 49, 49, 61, 98, 1, 52, 49, 61, 97, 1] : List UInt8)) = false := bne_eq_false_iff_eq.mpr c3
    clear c3
    by_cases c4 : t170 = 0
    · rw [if_pos c4] at H
      have c4b0 : (t170 == 0) = true := beq_iff_eq.mpr c4
      have c4b1 : (t170 != 0) = false := bne_eq_false_iff_eq.mpr c4
      clear c4
      by_cases c5 : t187 = 0
      · rw [if_pos c5] at H
        have c5b0 : (t187 == 0) = true := beq_iff_eq.mpr c5
        have c5b1 : (t187 != 0) = false := bne_eq_false_iff_eq.mpr c5
        clear c5
        by_cases c6 : t188 = 0
        · rw [if_pos c6] at H
          have c6b0 : (t188 == 0) = true := beq_iff_eq.mpr c6
          have c6b1 : (t188 != 0) = false := bne_eq_false_iff_eq.mpr c6
          clear c6
          by_cases c7 : t171 = 2
          · rw [if_pos c7] at H
            have c7b0 : (t171 == 2) = true := beq_iff_eq.mpr c7
            have c7b1 : (t171 != 2) = false := bne_eq_false_iff_eq.mpr c7
            clear c7
            obtain rfl := Option.some.inj H
            go_enter Tryd.func38, Tryd.ntmps38
            go_wp2_with (first | ((with_reducible refine gate_callee (f := 40) rfl ?_); refine goesL_ (some 8) rfl rfl Tryd.func40 (by kernel_rfl) rfl #[.agg #[.int .i64 2, .string (⟨#[98]⟩ : ByteArray), .string (⟨#[97]⟩ : ByteArray), .string (⟨#[]⟩ : ByteArray), .string (⟨#[]⟩ : ByteArray), .int .i64 0, .int .i64 0, .int .i64 0, .int .i64 0, .int .i64 0, .int .i64 0, .int .i64 0, .int .i64 0, .slice none 0 0]] rfl (by (try simp only [List.map_toArray, List.map_cons, List.map_nil]); first | done | rfl | (simp only [List.length_drop, List.length_take]; rfl)) ?_; (refine (ask_Encode.calls k 2 (⟨#[98]⟩ : ByteArray) (⟨#[97]⟩ : ByteArray) (⟨#[]⟩ : ByteArray) (⟨#[]⟩ : ByteArray) 0 0 0 0 0 0 0 0 _ _ ([] : List Int) t169 t170 _ ?side3 ?side1 ?side2 A1.out).mono ?_); (case side1 => exact Kd.C_nil _ _); (case side2 => exact Nat.le_refl _); (case side3 => exact Aside0.mk (Tabs_.below hT_.out (by repeat (first | (with_reducible first | exact HB.out | apply below_alloc | apply pw_below_drewN | apply below_drew1) | exact HB.out)))); rintro e w8 ⟨rfl, hb⟩; refine ⟨_, rfl, ?_⟩; have n0_ := Aside0.mk (below_step (by repeat (first | (with_reducible first | exact HB.out | apply below_alloc | apply pw_below_drewN | apply below_drew1) | exact HB.out)) hb); clear HB; have HB := n0_; clear n0_; (try clear hb); (try clear hb2); (try clear hk); (try clear hi)) | ((with_reducible refine gate_callee (f := 41) rfl ?_); refine goesL_ (some 13) rfl rfl Tryd.func41 (by kernel_rfl) rfl #[.string t169] rfl (by (try simp only [List.map_toArray, List.map_cons, List.map_nil]); first | done | rfl | (simp only [List.length_drop, List.length_take]; rfl)) ?_; (with_reducible refine (ask_Decode.calls t169 t171 t172 t173 t174 t175 t176 t177 t178 t179 t180 t181 t182 t183 t184 t187 t188 _ ?side1 A2.out).mono ?_); (case side1 => exact Aside0.mk (Tabs_.below hT_.out (by repeat (first | (with_reducible first | exact HB.out | apply below_alloc | apply pw_below_drewN | apply below_drew1) | exact HB.out)))); rintro e w9 ⟨v185, rfl, ho0, hb⟩; refine ⟨_, rfl, ?_⟩; have n0_ := Aside0.mk (Kd.R_lower ho0 (below_size (by repeat (first | (with_reducible first | exact HB.out | apply below_alloc | apply pw_below_drewN | apply below_drew1) | exact HB.out)))); have n1_ := Aside0.mk (below_step (by repeat (first | (with_reducible first | exact HB.out | apply below_alloc | apply pw_below_drewN | apply below_drew1) | exact HB.out)) hb); clear HB; have HO186 := n0_; have HB := n1_; clear n0_ n1_; (try clear hb); (try clear hb2); (try clear hk); (try clear hi); (try clear ho0)) | ((with_reducible refine gate_dst (N := 3) rfl ?_); refine box_event ?hg (N := 3) ?hd (cs := #[.int .i64 0, .string (⟨#[]⟩ : ByteArray), .string (⟨#[]⟩ : ByteArray), .string (⟨#[]⟩ : ByteArray), .string (⟨#[]⟩ : ByteArray), .int .i64 0, .int .i64 0, .int .i64 0, .int .i64 0, .int .i64 0, .int .i64 0, .int .i64 0, .int .i64 0, .slice none 0 0]) (t := 68) ?hr ?_; (case hd => rfl); (case hg => rfl); (case hr => first | (go_simp; done) | (go_simp; rfl)); intro gb189 hg w10 hbox hb; have n0_ := Aside0.mk (Kd.R_below (by (with_reducible repeat (first | apply Kd.R_alloc | apply Kd.R_drewN | apply Kd.R_drew)); exact HO186.out) hb); have n1_ := Aside0.mk (below_step (by repeat (first | (with_reducible first | exact HB.out | apply below_alloc | apply pw_below_drewN | apply below_drew1) | exact HB.out)) hb); have n2_ := Aside0.mk (hbox); have n3_ := Aside0.mk ((by rw [hg]; exact (below_size (by repeat (first | (with_reducible first | exact HB.out | apply below_alloc | apply pw_below_drewN | apply below_drew1) | exact HB.out))) : w.heap.size ≤ gb189)); have n4_ := Aside0.mk ((by rw [hg]; exact (below_size (by repeat (first | (with_reducible first | exact HB.out | apply below_alloc | apply pw_below_drewN | apply below_drew1) | exact HB.out))) : w.heap.size ≤ gb189)); clear HO186; clear HB; have HO186 := n0_; have HB := n1_; have BK189 := n2_; have GW189 := n3_; have GE189 := n4_; clear n0_ n1_ n2_ n3_ n4_; clear hb hbox hg; have hcz11_0 : w10.cell? ⟨gb189, 0, none⟩ = some (.int .i64 0) := (blk_cell BK189.out 0).trans rfl; have hcz11_1 : w10.cell? ⟨gb189, 1, none⟩ = some (.string (⟨#[]⟩ : ByteArray)) := (blk_cell BK189.out 1).trans rfl; have hcz11_2 : w10.cell? ⟨gb189, 2, none⟩ = some (.string (⟨#[]⟩ : ByteArray)) := (blk_cell BK189.out 2).trans rfl; have hcz11_3 : w10.cell? ⟨gb189, 3, none⟩ = some (.string (⟨#[]⟩ : ByteArray)) := (blk_cell BK189.out 3).trans rfl; have hcz11_4 : w10.cell? ⟨gb189, 4, none⟩ = some (.string (⟨#[]⟩ : ByteArray)) := (blk_cell BK189.out 4).trans rfl; have hcz11_5 : w10.cell? ⟨gb189, 5, none⟩ = some (.int .i64 0) := (blk_cell BK189.out 5).trans rfl; have hcz11_6 : w10.cell? ⟨gb189, 6, none⟩ = some (.int .i64 0) := (blk_cell BK189.out 6).trans rfl; have hcz11_7 : w10.cell? ⟨gb189, 7, none⟩ = some (.int .i64 0) := (blk_cell BK189.out 7).trans rfl; have hcz11_8 : w10.cell? ⟨gb189, 8, none⟩ = some (.int .i64 0) := (blk_cell BK189.out 8).trans rfl; have hcz11_9 : w10.cell? ⟨gb189, 9, none⟩ = some (.int .i64 0) := (blk_cell BK189.out 9).trans rfl; have hcz11_10 : w10.cell? ⟨gb189, 10, none⟩ = some (.int .i64 0) := (blk_cell BK189.out 10).trans rfl; have hcz11_11 : w10.cell? ⟨gb189, 11, none⟩ = some (.int .i64 0) := (blk_cell BK189.out 11).trans rfl; have hcz11_12 : w10.cell? ⟨gb189, 12, none⟩ = some (.int .i64 0) := (blk_cell BK189.out 12).trans rfl; have hcz11_13 : w10.cell? ⟨gb189, 13, none⟩ = some (.slice none 0 0) := (blk_cell BK189.out 13).trans rfl; have hfz11_0 := blk_frozen BK189.out 0; have hfz11_1 := blk_frozen BK189.out 1; have hfz11_2 := blk_frozen BK189.out 2; have hfz11_3 := blk_frozen BK189.out 3; have hfz11_4 := blk_frozen BK189.out 4; have hfz11_5 := blk_frozen BK189.out 5; have hfz11_6 := blk_frozen BK189.out 6; have hfz11_7 := blk_frozen BK189.out 7; have hfz11_8 := blk_frozen BK189.out 8; have hfz11_9 := blk_frozen BK189.out 9; have hfz11_10 := blk_frozen BK189.out 10; have hfz11_11 := blk_frozen BK189.out 11; have hfz11_12 := blk_frozen BK189.out 12; have hfz11_13 := blk_frozen BK189.out 13; obtain ⟨Ao12, co12, eo12⟩ := Kd.R_slice HO186.out; subst eo12))
            go_ret
            exact ⟨by first | rfl | (simp [errW_none, errW_some] <;> rfl) | (simp [*, errW_none, errW_some] <;> rfl), by repeat (first | (with_reducible first | exact HB.out | apply below_alloc | apply pw_below_drewN | apply below_drew1 | refine below_set ?_ GE189.out) | exact HB.out)⟩
          · rw [if_neg c7] at H
            have c7b0 : (t171 == 2) = false := beq_eq_false_iff_ne.mpr c7
            have c7b1 : (t171 != 2) = true := bne_iff_ne.mpr c7
            obtain rfl := Option.some.inj H
            go_enter Tryd.func38, Tryd.ntmps38
            go_wp2_with (first | ((with_reducible refine gate_callee (f := 40) rfl ?_); refine goesL_ (some 8) rfl rfl Tryd.func40 (by kernel_rfl) rfl #[.agg #[.int .i64 2, .string (⟨#[98]⟩ : ByteArray), .string (⟨#[97]⟩ : ByteArray), .string (⟨#[]⟩ : ByteArray), .string (⟨#[]⟩ : ByteArray), .int .i64 0, .int .i64 0, .int .i64 0, .int .i64 0, .int .i64 0, .int .i64 0, .int .i64 0, .int .i64 0, .slice none 0 0]] rfl (by (try simp only [List.map_toArray, List.map_cons, List.map_nil]); first | done | rfl | (simp only [List.length_drop, List.length_take]; rfl)) ?_; (refine (ask_Encode.calls k 2 (⟨#[98]⟩ : ByteArray) (⟨#[97]⟩ : ByteArray) (⟨#[]⟩ : ByteArray) (⟨#[]⟩ : ByteArray) 0 0 0 0 0 0 0 0 _ _ ([] : List Int) t169 t170 _ ?side3 ?side1 ?side2 A1.out).mono ?_); (case side1 => exact Kd.C_nil _ _); (case side2 => exact Nat.le_refl _); (case side3 => exact Aside0.mk (Tabs_.below hT_.out (by repeat (first | (with_reducible first | exact HB.out | apply below_alloc | apply pw_below_drewN | apply below_drew1) | exact HB.out)))); rintro e w13 ⟨rfl, hb⟩; refine ⟨_, rfl, ?_⟩; have n0_ := Aside0.mk (below_step (by repeat (first | (with_reducible first | exact HB.out | apply below_alloc | apply pw_below_drewN | apply below_drew1) | exact HB.out)) hb); clear HB; have HB := n0_; clear n0_; (try clear hb); (try clear hb2); (try clear hk); (try clear hi)) | ((with_reducible refine gate_callee (f := 41) rfl ?_); refine goesL_ (some 13) rfl rfl Tryd.func41 (by kernel_rfl) rfl #[.string t169] rfl (by (try simp only [List.map_toArray, List.map_cons, List.map_nil]); first | done | rfl | (simp only [List.length_drop, List.length_take]; rfl)) ?_; (with_reducible refine (ask_Decode.calls t169 t171 t172 t173 t174 t175 t176 t177 t178 t179 t180 t181 t182 t183 t184 t187 t188 _ ?side1 A2.out).mono ?_); (case side1 => exact Aside0.mk (Tabs_.below hT_.out (by repeat (first | (with_reducible first | exact HB.out | apply below_alloc | apply pw_below_drewN | apply below_drew1) | exact HB.out)))); rintro e w14 ⟨v185, rfl, ho0, hb⟩; refine ⟨_, rfl, ?_⟩; have n0_ := Aside0.mk (Kd.R_lower ho0 (below_size (by repeat (first | (with_reducible first | exact HB.out | apply below_alloc | apply pw_below_drewN | apply below_drew1) | exact HB.out)))); have n1_ := Aside0.mk (below_step (by repeat (first | (with_reducible first | exact HB.out | apply below_alloc | apply pw_below_drewN | apply below_drew1) | exact HB.out)) hb); clear HB; have HO186 := n0_; have HB := n1_; clear n0_ n1_; (try clear hb); (try clear hb2); (try clear hk); (try clear hi); (try clear ho0)) | ((with_reducible refine gate_dst (N := 3) rfl ?_); refine box_event ?hg (N := 3) ?hd (cs := #[.int .i64 0, .string (⟨#[]⟩ : ByteArray), .string (⟨#[]⟩ : ByteArray), .string (⟨#[]⟩ : ByteArray), .string (⟨#[]⟩ : ByteArray), .int .i64 0, .int .i64 0, .int .i64 0, .int .i64 0, .int .i64 0, .int .i64 0, .int .i64 0, .int .i64 0, .slice none 0 0]) (t := 68) ?hr ?_; (case hd => rfl); (case hg => rfl); (case hr => first | (go_simp; done) | (go_simp; rfl)); intro gb189 hg w15 hbox hb; have n0_ := Aside0.mk (Kd.R_below (by (with_reducible repeat (first | apply Kd.R_alloc | apply Kd.R_drewN | apply Kd.R_drew)); exact HO186.out) hb); have n1_ := Aside0.mk (below_step (by repeat (first | (with_reducible first | exact HB.out | apply below_alloc | apply pw_below_drewN | apply below_drew1) | exact HB.out)) hb); have n2_ := Aside0.mk (hbox); have n3_ := Aside0.mk ((by rw [hg]; exact (below_size (by repeat (first | (with_reducible first | exact HB.out | apply below_alloc | apply pw_below_drewN | apply below_drew1) | exact HB.out))) : w.heap.size ≤ gb189)); have n4_ := Aside0.mk ((by rw [hg]; exact (below_size (by repeat (first | (with_reducible first | exact HB.out | apply below_alloc | apply pw_below_drewN | apply below_drew1) | exact HB.out))) : w.heap.size ≤ gb189)); clear HO186; clear HB; have HO186 := n0_; have HB := n1_; have BK189 := n2_; have GW189 := n3_; have GE189 := n4_; clear n0_ n1_ n2_ n3_ n4_; clear hb hbox hg; have hcz16_0 : w15.cell? ⟨gb189, 0, none⟩ = some (.int .i64 0) := (blk_cell BK189.out 0).trans rfl; have hcz16_1 : w15.cell? ⟨gb189, 1, none⟩ = some (.string (⟨#[]⟩ : ByteArray)) := (blk_cell BK189.out 1).trans rfl; have hcz16_2 : w15.cell? ⟨gb189, 2, none⟩ = some (.string (⟨#[]⟩ : ByteArray)) := (blk_cell BK189.out 2).trans rfl; have hcz16_3 : w15.cell? ⟨gb189, 3, none⟩ = some (.string (⟨#[]⟩ : ByteArray)) := (blk_cell BK189.out 3).trans rfl; have hcz16_4 : w15.cell? ⟨gb189, 4, none⟩ = some (.string (⟨#[]⟩ : ByteArray)) := (blk_cell BK189.out 4).trans rfl; have hcz16_5 : w15.cell? ⟨gb189, 5, none⟩ = some (.int .i64 0) := (blk_cell BK189.out 5).trans rfl; have hcz16_6 : w15.cell? ⟨gb189, 6, none⟩ = some (.int .i64 0) := (blk_cell BK189.out 6).trans rfl; have hcz16_7 : w15.cell? ⟨gb189, 7, none⟩ = some (.int .i64 0) := (blk_cell BK189.out 7).trans rfl; have hcz16_8 : w15.cell? ⟨gb189, 8, none⟩ = some (.int .i64 0) := (blk_cell BK189.out 8).trans rfl; have hcz16_9 : w15.cell? ⟨gb189, 9, none⟩ = some (.int .i64 0) := (blk_cell BK189.out 9).trans rfl; have hcz16_10 : w15.cell? ⟨gb189, 10, none⟩ = some (.int .i64 0) := (blk_cell BK189.out 10).trans rfl; have hcz16_11 : w15.cell? ⟨gb189, 11, none⟩ = some (.int .i64 0) := (blk_cell BK189.out 11).trans rfl; have hcz16_12 : w15.cell? ⟨gb189, 12, none⟩ = some (.int .i64 0) := (blk_cell BK189.out 12).trans rfl; have hcz16_13 : w15.cell? ⟨gb189, 13, none⟩ = some (.slice none 0 0) := (blk_cell BK189.out 13).trans rfl; have hfz16_0 := blk_frozen BK189.out 0; have hfz16_1 := blk_frozen BK189.out 1; have hfz16_2 := blk_frozen BK189.out 2; have hfz16_3 := blk_frozen BK189.out 3; have hfz16_4 := blk_frozen BK189.out 4; have hfz16_5 := blk_frozen BK189.out 5; have hfz16_6 := blk_frozen BK189.out 6; have hfz16_7 := blk_frozen BK189.out 7; have hfz16_8 := blk_frozen BK189.out 8; have hfz16_9 := blk_frozen BK189.out 9; have hfz16_10 := blk_frozen BK189.out 10; have hfz16_11 := blk_frozen BK189.out 11; have hfz16_12 := blk_frozen BK189.out 12; have hfz16_13 := blk_frozen BK189.out 13; obtain ⟨Ao17, co17, eo17⟩ := Kd.R_slice HO186.out; subst eo17))
            go_ret
            exact ⟨by first | rfl | (simp [errW_none, errW_some] <;> rfl) | (simp [*, errW_none, errW_some] <;> rfl), by repeat (first | (with_reducible first | exact HB.out | apply below_alloc | apply pw_below_drewN | apply below_drew1 | refine below_set ?_ GE189.out) | exact HB.out)⟩
        · rw [if_neg c6] at H
          have c6b0 : (t188 == 0) = false := beq_eq_false_iff_ne.mpr c6
          have c6b1 : (t188 != 0) = true := bne_iff_ne.mpr c6
          obtain rfl := Option.some.inj H
          go_enter Tryd.func38, Tryd.ntmps38
          go_wp2_with (first | ((with_reducible refine gate_callee (f := 40) rfl ?_); refine goesL_ (some 8) rfl rfl Tryd.func40 (by kernel_rfl) rfl #[.agg #[.int .i64 2, .string (⟨#[98]⟩ : ByteArray), .string (⟨#[97]⟩ : ByteArray), .string (⟨#[]⟩ : ByteArray), .string (⟨#[]⟩ : ByteArray), .int .i64 0, .int .i64 0, .int .i64 0, .int .i64 0, .int .i64 0, .int .i64 0, .int .i64 0, .int .i64 0, .slice none 0 0]] rfl (by (try simp only [List.map_toArray, List.map_cons, List.map_nil]); first | done | rfl | (simp only [List.length_drop, List.length_take]; rfl)) ?_; (refine (ask_Encode.calls k 2 (⟨#[98]⟩ : ByteArray) (⟨#[97]⟩ : ByteArray) (⟨#[]⟩ : ByteArray) (⟨#[]⟩ : ByteArray) 0 0 0 0 0 0 0 0 _ _ ([] : List Int) t169 t170 _ ?side3 ?side1 ?side2 A1.out).mono ?_); (case side1 => exact Kd.C_nil _ _); (case side2 => exact Nat.le_refl _); (case side3 => exact Aside0.mk (Tabs_.below hT_.out (by repeat (first | (with_reducible first | exact HB.out | apply below_alloc | apply pw_below_drewN | apply below_drew1) | exact HB.out)))); rintro e w18 ⟨rfl, hb⟩; refine ⟨_, rfl, ?_⟩; have n0_ := Aside0.mk (below_step (by repeat (first | (with_reducible first | exact HB.out | apply below_alloc | apply pw_below_drewN | apply below_drew1) | exact HB.out)) hb); clear HB; have HB := n0_; clear n0_; (try clear hb); (try clear hb2); (try clear hk); (try clear hi)) | ((with_reducible refine gate_callee (f := 41) rfl ?_); refine goesL_ (some 13) rfl rfl Tryd.func41 (by kernel_rfl) rfl #[.string t169] rfl (by (try simp only [List.map_toArray, List.map_cons, List.map_nil]); first | done | rfl | (simp only [List.length_drop, List.length_take]; rfl)) ?_; (with_reducible refine (ask_Decode.calls t169 t171 t172 t173 t174 t175 t176 t177 t178 t179 t180 t181 t182 t183 t184 t187 t188 _ ?side1 A2.out).mono ?_); (case side1 => exact Aside0.mk (Tabs_.below hT_.out (by repeat (first | (with_reducible first | exact HB.out | apply below_alloc | apply pw_below_drewN | apply below_drew1) | exact HB.out)))); rintro e w19 ⟨v185, rfl, ho0, hb⟩; refine ⟨_, rfl, ?_⟩; have n0_ := Aside0.mk (Kd.R_lower ho0 (below_size (by repeat (first | (with_reducible first | exact HB.out | apply below_alloc | apply pw_below_drewN | apply below_drew1) | exact HB.out)))); have n1_ := Aside0.mk (below_step (by repeat (first | (with_reducible first | exact HB.out | apply below_alloc | apply pw_below_drewN | apply below_drew1) | exact HB.out)) hb); clear HB; have HO186 := n0_; have HB := n1_; clear n0_ n1_; (try clear hb); (try clear hb2); (try clear hk); (try clear hi); (try clear ho0)) | ((with_reducible refine gate_dst (N := 3) rfl ?_); refine box_event ?hg (N := 3) ?hd (cs := #[.int .i64 0, .string (⟨#[]⟩ : ByteArray), .string (⟨#[]⟩ : ByteArray), .string (⟨#[]⟩ : ByteArray), .string (⟨#[]⟩ : ByteArray), .int .i64 0, .int .i64 0, .int .i64 0, .int .i64 0, .int .i64 0, .int .i64 0, .int .i64 0, .int .i64 0, .slice none 0 0]) (t := 68) ?hr ?_; (case hd => rfl); (case hg => rfl); (case hr => first | (go_simp; done) | (go_simp; rfl)); intro gb189 hg w20 hbox hb; have n0_ := Aside0.mk (Kd.R_below (by (with_reducible repeat (first | apply Kd.R_alloc | apply Kd.R_drewN | apply Kd.R_drew)); exact HO186.out) hb); have n1_ := Aside0.mk (below_step (by repeat (first | (with_reducible first | exact HB.out | apply below_alloc | apply pw_below_drewN | apply below_drew1) | exact HB.out)) hb); have n2_ := Aside0.mk (hbox); have n3_ := Aside0.mk ((by rw [hg]; exact (below_size (by repeat (first | (with_reducible first | exact HB.out | apply below_alloc | apply pw_below_drewN | apply below_drew1) | exact HB.out))) : w.heap.size ≤ gb189)); have n4_ := Aside0.mk ((by rw [hg]; exact (below_size (by repeat (first | (with_reducible first | exact HB.out | apply below_alloc | apply pw_below_drewN | apply below_drew1) | exact HB.out))) : w.heap.size ≤ gb189)); clear HO186; clear HB; have HO186 := n0_; have HB := n1_; have BK189 := n2_; have GW189 := n3_; have GE189 := n4_; clear n0_ n1_ n2_ n3_ n4_; clear hb hbox hg; have hcz21_0 : w20.cell? ⟨gb189, 0, none⟩ = some (.int .i64 0) := (blk_cell BK189.out 0).trans rfl; have hcz21_1 : w20.cell? ⟨gb189, 1, none⟩ = some (.string (⟨#[]⟩ : ByteArray)) := (blk_cell BK189.out 1).trans rfl; have hcz21_2 : w20.cell? ⟨gb189, 2, none⟩ = some (.string (⟨#[]⟩ : ByteArray)) := (blk_cell BK189.out 2).trans rfl; have hcz21_3 : w20.cell? ⟨gb189, 3, none⟩ = some (.string (⟨#[]⟩ : ByteArray)) := (blk_cell BK189.out 3).trans rfl; have hcz21_4 : w20.cell? ⟨gb189, 4, none⟩ = some (.string (⟨#[]⟩ : ByteArray)) := (blk_cell BK189.out 4).trans rfl; have hcz21_5 : w20.cell? ⟨gb189, 5, none⟩ = some (.int .i64 0) := (blk_cell BK189.out 5).trans rfl; have hcz21_6 : w20.cell? ⟨gb189, 6, none⟩ = some (.int .i64 0) := (blk_cell BK189.out 6).trans rfl; have hcz21_7 : w20.cell? ⟨gb189, 7, none⟩ = some (.int .i64 0) := (blk_cell BK189.out 7).trans rfl; have hcz21_8 : w20.cell? ⟨gb189, 8, none⟩ = some (.int .i64 0) := (blk_cell BK189.out 8).trans rfl; have hcz21_9 : w20.cell? ⟨gb189, 9, none⟩ = some (.int .i64 0) := (blk_cell BK189.out 9).trans rfl; have hcz21_10 : w20.cell? ⟨gb189, 10, none⟩ = some (.int .i64 0) := (blk_cell BK189.out 10).trans rfl; have hcz21_11 : w20.cell? ⟨gb189, 11, none⟩ = some (.int .i64 0) := (blk_cell BK189.out 11).trans rfl; have hcz21_12 : w20.cell? ⟨gb189, 12, none⟩ = some (.int .i64 0) := (blk_cell BK189.out 12).trans rfl; have hcz21_13 : w20.cell? ⟨gb189, 13, none⟩ = some (.slice none 0 0) := (blk_cell BK189.out 13).trans rfl; have hfz21_0 := blk_frozen BK189.out 0; have hfz21_1 := blk_frozen BK189.out 1; have hfz21_2 := blk_frozen BK189.out 2; have hfz21_3 := blk_frozen BK189.out 3; have hfz21_4 := blk_frozen BK189.out 4; have hfz21_5 := blk_frozen BK189.out 5; have hfz21_6 := blk_frozen BK189.out 6; have hfz21_7 := blk_frozen BK189.out 7; have hfz21_8 := blk_frozen BK189.out 8; have hfz21_9 := blk_frozen BK189.out 9; have hfz21_10 := blk_frozen BK189.out 10; have hfz21_11 := blk_frozen BK189.out 11; have hfz21_12 := blk_frozen BK189.out 12; have hfz21_13 := blk_frozen BK189.out 13; obtain ⟨Ao22, co22, eo22⟩ := Kd.R_slice HO186.out; subst eo22))
          go_ret
          exact ⟨by first | rfl | (simp [errW_none, errW_some] <;> rfl) | (simp [*, errW_none, errW_some] <;> rfl), by repeat (first | (with_reducible first | exact HB.out | apply below_alloc | apply pw_below_drewN | apply below_drew1 | refine below_set ?_ GE189.out) | exact HB.out)⟩
      · rw [if_neg c5] at H
        have c5b0 : (t187 == 0) = false := beq_eq_false_iff_ne.mpr c5
        have c5b1 : (t187 != 0) = true := bne_iff_ne.mpr c5
        obtain rfl := Option.some.inj H
        go_enter Tryd.func38, Tryd.ntmps38
        go_wp2_with (first | ((with_reducible refine gate_callee (f := 40) rfl ?_); refine goesL_ (some 8) rfl rfl Tryd.func40 (by kernel_rfl) rfl #[.agg #[.int .i64 2, .string (⟨#[98]⟩ : ByteArray), .string (⟨#[97]⟩ : ByteArray), .string (⟨#[]⟩ : ByteArray), .string (⟨#[]⟩ : ByteArray), .int .i64 0, .int .i64 0, .int .i64 0, .int .i64 0, .int .i64 0, .int .i64 0, .int .i64 0, .int .i64 0, .slice none 0 0]] rfl (by (try simp only [List.map_toArray, List.map_cons, List.map_nil]); first | done | rfl | (simp only [List.length_drop, List.length_take]; rfl)) ?_; (refine (ask_Encode.calls k 2 (⟨#[98]⟩ : ByteArray) (⟨#[97]⟩ : ByteArray) (⟨#[]⟩ : ByteArray) (⟨#[]⟩ : ByteArray) 0 0 0 0 0 0 0 0 _ _ ([] : List Int) t169 t170 _ ?side3 ?side1 ?side2 A1.out).mono ?_); (case side1 => exact Kd.C_nil _ _); (case side2 => exact Nat.le_refl _); (case side3 => exact Aside0.mk (Tabs_.below hT_.out (by repeat (first | (with_reducible first | exact HB.out | apply below_alloc | apply pw_below_drewN | apply below_drew1) | exact HB.out)))); rintro e w23 ⟨rfl, hb⟩; refine ⟨_, rfl, ?_⟩; have n0_ := Aside0.mk (below_step (by repeat (first | (with_reducible first | exact HB.out | apply below_alloc | apply pw_below_drewN | apply below_drew1) | exact HB.out)) hb); clear HB; have HB := n0_; clear n0_; (try clear hb); (try clear hb2); (try clear hk); (try clear hi)) | ((with_reducible refine gate_callee (f := 41) rfl ?_); refine goesL_ (some 13) rfl rfl Tryd.func41 (by kernel_rfl) rfl #[.string t169] rfl (by (try simp only [List.map_toArray, List.map_cons, List.map_nil]); first | done | rfl | (simp only [List.length_drop, List.length_take]; rfl)) ?_; (with_reducible refine (ask_Decode.calls t169 t171 t172 t173 t174 t175 t176 t177 t178 t179 t180 t181 t182 t183 t184 t187 t188 _ ?side1 A2.out).mono ?_); (case side1 => exact Aside0.mk (Tabs_.below hT_.out (by repeat (first | (with_reducible first | exact HB.out | apply below_alloc | apply pw_below_drewN | apply below_drew1) | exact HB.out)))); rintro e w24 ⟨v185, rfl, ho0, hb⟩; refine ⟨_, rfl, ?_⟩; have n0_ := Aside0.mk (Kd.R_lower ho0 (below_size (by repeat (first | (with_reducible first | exact HB.out | apply below_alloc | apply pw_below_drewN | apply below_drew1) | exact HB.out)))); have n1_ := Aside0.mk (below_step (by repeat (first | (with_reducible first | exact HB.out | apply below_alloc | apply pw_below_drewN | apply below_drew1) | exact HB.out)) hb); clear HB; have HO186 := n0_; have HB := n1_; clear n0_ n1_; (try clear hb); (try clear hb2); (try clear hk); (try clear hi); (try clear ho0)) | ((with_reducible refine gate_dst (N := 3) rfl ?_); refine box_event ?hg (N := 3) ?hd (cs := #[.int .i64 0, .string (⟨#[]⟩ : ByteArray), .string (⟨#[]⟩ : ByteArray), .string (⟨#[]⟩ : ByteArray), .string (⟨#[]⟩ : ByteArray), .int .i64 0, .int .i64 0, .int .i64 0, .int .i64 0, .int .i64 0, .int .i64 0, .int .i64 0, .int .i64 0, .slice none 0 0]) (t := 68) ?hr ?_; (case hd => rfl); (case hg => rfl); (case hr => first | (go_simp; done) | (go_simp; rfl)); intro gb189 hg w25 hbox hb; have n0_ := Aside0.mk (Kd.R_below (by (with_reducible repeat (first | apply Kd.R_alloc | apply Kd.R_drewN | apply Kd.R_drew)); exact HO186.out) hb); have n1_ := Aside0.mk (below_step (by repeat (first | (with_reducible first | exact HB.out | apply below_alloc | apply pw_below_drewN | apply below_drew1) | exact HB.out)) hb); have n2_ := Aside0.mk (hbox); have n3_ := Aside0.mk ((by rw [hg]; exact (below_size (by repeat (first | (with_reducible first | exact HB.out | apply below_alloc | apply pw_below_drewN | apply below_drew1) | exact HB.out))) : w.heap.size ≤ gb189)); have n4_ := Aside0.mk ((by rw [hg]; exact (below_size (by repeat (first | (with_reducible first | exact HB.out | apply below_alloc | apply pw_below_drewN | apply below_drew1) | exact HB.out))) : w.heap.size ≤ gb189)); clear HO186; clear HB; have HO186 := n0_; have HB := n1_; have BK189 := n2_; have GW189 := n3_; have GE189 := n4_; clear n0_ n1_ n2_ n3_ n4_; clear hb hbox hg; have hcz26_0 : w25.cell? ⟨gb189, 0, none⟩ = some (.int .i64 0) := (blk_cell BK189.out 0).trans rfl; have hcz26_1 : w25.cell? ⟨gb189, 1, none⟩ = some (.string (⟨#[]⟩ : ByteArray)) := (blk_cell BK189.out 1).trans rfl; have hcz26_2 : w25.cell? ⟨gb189, 2, none⟩ = some (.string (⟨#[]⟩ : ByteArray)) := (blk_cell BK189.out 2).trans rfl; have hcz26_3 : w25.cell? ⟨gb189, 3, none⟩ = some (.string (⟨#[]⟩ : ByteArray)) := (blk_cell BK189.out 3).trans rfl; have hcz26_4 : w25.cell? ⟨gb189, 4, none⟩ = some (.string (⟨#[]⟩ : ByteArray)) := (blk_cell BK189.out 4).trans rfl; have hcz26_5 : w25.cell? ⟨gb189, 5, none⟩ = some (.int .i64 0) := (blk_cell BK189.out 5).trans rfl; have hcz26_6 : w25.cell? ⟨gb189, 6, none⟩ = some (.int .i64 0) := (blk_cell BK189.out 6).trans rfl; have hcz26_7 : w25.cell? ⟨gb189, 7, none⟩ = some (.int .i64 0) := (blk_cell BK189.out 7).trans rfl; have hcz26_8 : w25.cell? ⟨gb189, 8, none⟩ = some (.int .i64 0) := (blk_cell BK189.out 8).trans rfl; have hcz26_9 : w25.cell? ⟨gb189, 9, none⟩ = some (.int .i64 0) := (blk_cell BK189.out 9).trans rfl; have hcz26_10 : w25.cell? ⟨gb189, 10, none⟩ = some (.int .i64 0) := (blk_cell BK189.out 10).trans rfl; have hcz26_11 : w25.cell? ⟨gb189, 11, none⟩ = some (.int .i64 0) := (blk_cell BK189.out 11).trans rfl; have hcz26_12 : w25.cell? ⟨gb189, 12, none⟩ = some (.int .i64 0) := (blk_cell BK189.out 12).trans rfl; have hcz26_13 : w25.cell? ⟨gb189, 13, none⟩ = some (.slice none 0 0) := (blk_cell BK189.out 13).trans rfl; have hfz26_0 := blk_frozen BK189.out 0; have hfz26_1 := blk_frozen BK189.out 1; have hfz26_2 := blk_frozen BK189.out 2; have hfz26_3 := blk_frozen BK189.out 3; have hfz26_4 := blk_frozen BK189.out 4; have hfz26_5 := blk_frozen BK189.out 5; have hfz26_6 := blk_frozen BK189.out 6; have hfz26_7 := blk_frozen BK189.out 7; have hfz26_8 := blk_frozen BK189.out 8; have hfz26_9 := blk_frozen BK189.out 9; have hfz26_10 := blk_frozen BK189.out 10; have hfz26_11 := blk_frozen BK189.out 11; have hfz26_12 := blk_frozen BK189.out 12; have hfz26_13 := blk_frozen BK189.out 13; obtain ⟨Ao27, co27, eo27⟩ := Kd.R_slice HO186.out; subst eo27))
        go_ret
        exact ⟨by first | rfl | (simp [errW_none, errW_some] <;> rfl) | (simp [*, errW_none, errW_some] <;> rfl), by repeat (first | (with_reducible first | exact HB.out | apply below_alloc | apply pw_below_drewN | apply below_drew1 | refine below_set ?_ GE189.out) | exact HB.out)⟩
    · rw [if_neg c4] at H
      have c4b0 : (t170 == 0) = false := beq_eq_false_iff_ne.mpr c4
      have c4b1 : (t170 != 0) = true := bne_iff_ne.mpr c4
      obtain rfl := Option.some.inj H
      go_enter Tryd.func38, Tryd.ntmps38
      go_wp2_with (first | ((with_reducible refine gate_callee (f := 40) rfl ?_); refine goesL_ (some 8) rfl rfl Tryd.func40 (by kernel_rfl) rfl #[.agg #[.int .i64 2, .string (⟨#[98]⟩ : ByteArray), .string (⟨#[97]⟩ : ByteArray), .string (⟨#[]⟩ : ByteArray), .string (⟨#[]⟩ : ByteArray), .int .i64 0, .int .i64 0, .int .i64 0, .int .i64 0, .int .i64 0, .int .i64 0, .int .i64 0, .int .i64 0, .slice none 0 0]] rfl (by (try simp only [List.map_toArray, List.map_cons, List.map_nil]); first | done | rfl | (simp only [List.length_drop, List.length_take]; rfl)) ?_; (refine (ask_Encode.calls k 2 (⟨#[98]⟩ : ByteArray) (⟨#[97]⟩ : ByteArray) (⟨#[]⟩ : ByteArray) (⟨#[]⟩ : ByteArray) 0 0 0 0 0 0 0 0 _ _ ([] : List Int) t169 t170 _ ?side3 ?side1 ?side2 A1.out).mono ?_); (case side1 => exact Kd.C_nil _ _); (case side2 => exact Nat.le_refl _); (case side3 => exact Aside0.mk (Tabs_.below hT_.out (by repeat (first | (with_reducible first | exact HB.out | apply below_alloc | apply pw_below_drewN | apply below_drew1) | exact HB.out)))); rintro e w28 ⟨rfl, hb⟩; refine ⟨_, rfl, ?_⟩; have n0_ := Aside0.mk (below_step (by repeat (first | (with_reducible first | exact HB.out | apply below_alloc | apply pw_below_drewN | apply below_drew1) | exact HB.out)) hb); clear HB; have HB := n0_; clear n0_; (try clear hb); (try clear hb2); (try clear hk); (try clear hi)) | ((with_reducible refine gate_callee (f := 41) rfl ?_); refine goesL_ (some 13) rfl rfl Tryd.func41 (by kernel_rfl) rfl #[.string t169] rfl (by (try simp only [List.map_toArray, List.map_cons, List.map_nil]); first | done | rfl | (simp only [List.length_drop, List.length_take]; rfl)) ?_; (with_reducible refine (ask_Decode.calls t169 t171 t172 t173 t174 t175 t176 t177 t178 t179 t180 t181 t182 t183 t184 t187 t188 _ ?side1 A2.out).mono ?_); (case side1 => exact Aside0.mk (Tabs_.below hT_.out (by repeat (first | (with_reducible first | exact HB.out | apply below_alloc | apply pw_below_drewN | apply below_drew1) | exact HB.out)))); rintro e w29 ⟨v185, rfl, ho0, hb⟩; refine ⟨_, rfl, ?_⟩; have n0_ := Aside0.mk (Kd.R_lower ho0 (below_size (by repeat (first | (with_reducible first | exact HB.out | apply below_alloc | apply pw_below_drewN | apply below_drew1) | exact HB.out)))); have n1_ := Aside0.mk (below_step (by repeat (first | (with_reducible first | exact HB.out | apply below_alloc | apply pw_below_drewN | apply below_drew1) | exact HB.out)) hb); clear HB; have HO186 := n0_; have HB := n1_; clear n0_ n1_; (try clear hb); (try clear hb2); (try clear hk); (try clear hi); (try clear ho0)) | ((with_reducible refine gate_dst (N := 3) rfl ?_); refine box_event ?hg (N := 3) ?hd (cs := #[.int .i64 0, .string (⟨#[]⟩ : ByteArray), .string (⟨#[]⟩ : ByteArray), .string (⟨#[]⟩ : ByteArray), .string (⟨#[]⟩ : ByteArray), .int .i64 0, .int .i64 0, .int .i64 0, .int .i64 0, .int .i64 0, .int .i64 0, .int .i64 0, .int .i64 0, .slice none 0 0]) (t := 68) ?hr ?_; (case hd => rfl); (case hg => rfl); (case hr => first | (go_simp; done) | (go_simp; rfl)); intro gb189 hg w30 hbox hb; have n0_ := Aside0.mk (Kd.R_below (by (with_reducible repeat (first | apply Kd.R_alloc | apply Kd.R_drewN | apply Kd.R_drew)); exact HO186.out) hb); have n1_ := Aside0.mk (below_step (by repeat (first | (with_reducible first | exact HB.out | apply below_alloc | apply pw_below_drewN | apply below_drew1) | exact HB.out)) hb); have n2_ := Aside0.mk (hbox); have n3_ := Aside0.mk ((by rw [hg]; exact (below_size (by repeat (first | (with_reducible first | exact HB.out | apply below_alloc | apply pw_below_drewN | apply below_drew1) | exact HB.out))) : w.heap.size ≤ gb189)); have n4_ := Aside0.mk ((by rw [hg]; exact (below_size (by repeat (first | (with_reducible first | exact HB.out | apply below_alloc | apply pw_below_drewN | apply below_drew1) | exact HB.out))) : w.heap.size ≤ gb189)); clear HO186; clear HB; have HO186 := n0_; have HB := n1_; have BK189 := n2_; have GW189 := n3_; have GE189 := n4_; clear n0_ n1_ n2_ n3_ n4_; clear hb hbox hg; have hcz31_0 : w30.cell? ⟨gb189, 0, none⟩ = some (.int .i64 0) := (blk_cell BK189.out 0).trans rfl; have hcz31_1 : w30.cell? ⟨gb189, 1, none⟩ = some (.string (⟨#[]⟩ : ByteArray)) := (blk_cell BK189.out 1).trans rfl; have hcz31_2 : w30.cell? ⟨gb189, 2, none⟩ = some (.string (⟨#[]⟩ : ByteArray)) := (blk_cell BK189.out 2).trans rfl; have hcz31_3 : w30.cell? ⟨gb189, 3, none⟩ = some (.string (⟨#[]⟩ : ByteArray)) := (blk_cell BK189.out 3).trans rfl; have hcz31_4 : w30.cell? ⟨gb189, 4, none⟩ = some (.string (⟨#[]⟩ : ByteArray)) := (blk_cell BK189.out 4).trans rfl; have hcz31_5 : w30.cell? ⟨gb189, 5, none⟩ = some (.int .i64 0) := (blk_cell BK189.out 5).trans rfl; have hcz31_6 : w30.cell? ⟨gb189, 6, none⟩ = some (.int .i64 0) := (blk_cell BK189.out 6).trans rfl; have hcz31_7 : w30.cell? ⟨gb189, 7, none⟩ = some (.int .i64 0) := (blk_cell BK189.out 7).trans rfl; have hcz31_8 : w30.cell? ⟨gb189, 8, none⟩ = some (.int .i64 0) := (blk_cell BK189.out 8).trans rfl; have hcz31_9 : w30.cell? ⟨gb189, 9, none⟩ = some (.int .i64 0) := (blk_cell BK189.out 9).trans rfl; have hcz31_10 : w30.cell? ⟨gb189, 10, none⟩ = some (.int .i64 0) := (blk_cell BK189.out 10).trans rfl; have hcz31_11 : w30.cell? ⟨gb189, 11, none⟩ = some (.int .i64 0) := (blk_cell BK189.out 11).trans rfl; have hcz31_12 : w30.cell? ⟨gb189, 12, none⟩ = some (.int .i64 0) := (blk_cell BK189.out 12).trans rfl; have hcz31_13 : w30.cell? ⟨gb189, 13, none⟩ = some (.slice none 0 0) := (blk_cell BK189.out 13).trans rfl; have hfz31_0 := blk_frozen BK189.out 0; have hfz31_1 := blk_frozen BK189.out 1; have hfz31_2 := blk_frozen BK189.out 2; have hfz31_3 := blk_frozen BK189.out 3; have hfz31_4 := blk_frozen BK189.out 4; have hfz31_5 := blk_frozen BK189.out 5; have hfz31_6 := blk_frozen BK189.out 6; have hfz31_7 := blk_frozen BK189.out 7; have hfz31_8 := blk_frozen BK189.out 8; have hfz31_9 := blk_frozen BK189.out 9; have hfz31_10 := blk_frozen BK189.out 10; have hfz31_11 := blk_frozen BK189.out 11; have hfz31_12 := blk_frozen BK189.out 12; have hfz31_13 := blk_frozen BK189.out 13; obtain ⟨Ao32, co32, eo32⟩ := Kd.R_slice HO186.out; subst eo32))
      go_ret
      exact ⟨by first | rfl | (simp [errW_none, errW_some] <;> rfl) | (simp [*, errW_none, errW_some] <;> rfl), by repeat (first | (with_reducible first | exact HB.out | apply below_alloc | apply pw_below_drewN | apply below_drew1 | refine below_set ?_ GE189.out) | exact HB.out)⟩
  · rw [if_neg c3] at H
    have c3b0 : (t169.toList == ([51, 53, 61, 70, 1, 49, 49, 61, 98, 1, 52, 49, 61, 97, 1] : List UInt8)) = false := beq_eq_false_iff_ne.mpr c3
    have c3b1 : (t169.toList != ([51, 53, 61, 70, 1, 49, 49, 61, 98, 1, 52, 49, 61, 97, 1] : List UInt8)) = true := bne_iff_ne.mpr c3
    obtain rfl := Option.some.inj H
    go_enter Tryd.func38, Tryd.ntmps38
    go_wp2_with (first | ((with_reducible refine gate_callee (f := 40) rfl ?_); refine goesL_ (some 8) rfl rfl Tryd.func40 (by kernel_rfl) rfl #[.agg #[.int .i64 2, .string (⟨#[98]⟩ : ByteArray), .string (⟨#[97]⟩ : ByteArray), .string (⟨#[]⟩ : ByteArray), .string (⟨#[]⟩ : ByteArray), .int .i64 0, .int .i64 0, .int .i64 0, .int .i64 0, .int .i64 0, .int .i64 0, .int .i64 0, .int .i64 0, .slice none 0 0]] rfl (by (try simp only [List.map_toArray, List.map_cons, List.map_nil]); first | done | rfl | (simp only [List.length_drop, List.length_take]; rfl)) ?_; (refine (ask_Encode.calls k 2 (⟨#[98]⟩ : ByteArray) (⟨#[97]⟩ : ByteArray) (⟨#[]⟩ : ByteArray) (⟨#[]⟩ : ByteArray) 0 0 0 0 0 0 0 0 _ _ ([] : List Int) t169 t170 _ ?side3 ?side1 ?side2 A1.out).mono ?_); (case side1 => exact Kd.C_nil _ _); (case side2 => exact Nat.le_refl _); (case side3 => exact Aside0.mk (Tabs_.below hT_.out (by repeat (first | (with_reducible first | exact HB.out | apply below_alloc | apply pw_below_drewN | apply below_drew1) | exact HB.out)))); rintro e w33 ⟨rfl, hb⟩; refine ⟨_, rfl, ?_⟩; have n0_ := Aside0.mk (below_step (by repeat (first | (with_reducible first | exact HB.out | apply below_alloc | apply pw_below_drewN | apply below_drew1) | exact HB.out)) hb); clear HB; have HB := n0_; clear n0_; (try clear hb); (try clear hb2); (try clear hk); (try clear hi)) | ((with_reducible refine gate_callee (f := 41) rfl ?_); refine goesL_ (some 13) rfl rfl Tryd.func41 (by kernel_rfl) rfl #[.string t169] rfl (by (try simp only [List.map_toArray, List.map_cons, List.map_nil]); first | done | rfl | (simp only [List.length_drop, List.length_take]; rfl)) ?_; (with_reducible refine (ask_Decode.calls t169 t171 t172 t173 t174 t175 t176 t177 t178 t179 t180 t181 t182 t183 t184 t187 t188 _ ?side1 A2.out).mono ?_); (case side1 => exact Aside0.mk (Tabs_.below hT_.out (by repeat (first | (with_reducible first | exact HB.out | apply below_alloc | apply pw_below_drewN | apply below_drew1) | exact HB.out)))); rintro e w34 ⟨v185, rfl, ho0, hb⟩; refine ⟨_, rfl, ?_⟩; have n0_ := Aside0.mk (Kd.R_lower ho0 (below_size (by repeat (first | (with_reducible first | exact HB.out | apply below_alloc | apply pw_below_drewN | apply below_drew1) | exact HB.out)))); have n1_ := Aside0.mk (below_step (by repeat (first | (with_reducible first | exact HB.out | apply below_alloc | apply pw_below_drewN | apply below_drew1) | exact HB.out)) hb); clear HB; have HO186 := n0_; have HB := n1_; clear n0_ n1_; (try clear hb); (try clear hb2); (try clear hk); (try clear hi); (try clear ho0)) | ((with_reducible refine gate_dst (N := 3) rfl ?_); refine box_event ?hg (N := 3) ?hd (cs := #[.int .i64 0, .string (⟨#[]⟩ : ByteArray), .string (⟨#[]⟩ : ByteArray), .string (⟨#[]⟩ : ByteArray), .string (⟨#[]⟩ : ByteArray), .int .i64 0, .int .i64 0, .int .i64 0, .int .i64 0, .int .i64 0, .int .i64 0, .int .i64 0, .int .i64 0, .slice none 0 0]) (t := 68) ?hr ?_; (case hd => rfl); (case hg => rfl); (case hr => first | (go_simp; done) | (go_simp; rfl)); intro gb189 hg w35 hbox hb; have n0_ := Aside0.mk (Kd.R_below (by (with_reducible repeat (first | apply Kd.R_alloc | apply Kd.R_drewN | apply Kd.R_drew)); exact HO186.out) hb); have n1_ := Aside0.mk (below_step (by repeat (first | (with_reducible first | exact HB.out | apply below_alloc | apply pw_below_drewN | apply below_drew1) | exact HB.out)) hb); have n2_ := Aside0.mk (hbox); have n3_ := Aside0.mk ((by rw [hg]; exact (below_size (by repeat (first | (with_reducible first | exact HB.out | apply below_alloc | apply pw_below_drewN | apply below_drew1) | exact HB.out))) : w.heap.size ≤ gb189)); have n4_ := Aside0.mk ((by rw [hg]; exact (below_size (by repeat (first | (with_reducible first | exact HB.out | apply below_alloc | apply pw_below_drewN | apply below_drew1) | exact HB.out))) : w.heap.size ≤ gb189)); clear HO186; clear HB; have HO186 := n0_; have HB := n1_; have BK189 := n2_; have GW189 := n3_; have GE189 := n4_; clear n0_ n1_ n2_ n3_ n4_; clear hb hbox hg; have hcz36_0 : w35.cell? ⟨gb189, 0, none⟩ = some (.int .i64 0) := (blk_cell BK189.out 0).trans rfl; have hcz36_1 : w35.cell? ⟨gb189, 1, none⟩ = some (.string (⟨#[]⟩ : ByteArray)) := (blk_cell BK189.out 1).trans rfl; have hcz36_2 : w35.cell? ⟨gb189, 2, none⟩ = some (.string (⟨#[]⟩ : ByteArray)) := (blk_cell BK189.out 2).trans rfl; have hcz36_3 : w35.cell? ⟨gb189, 3, none⟩ = some (.string (⟨#[]⟩ : ByteArray)) := (blk_cell BK189.out 3).trans rfl; have hcz36_4 : w35.cell? ⟨gb189, 4, none⟩ = some (.string (⟨#[]⟩ : ByteArray)) := (blk_cell BK189.out 4).trans rfl; have hcz36_5 : w35.cell? ⟨gb189, 5, none⟩ = some (.int .i64 0) := (blk_cell BK189.out 5).trans rfl; have hcz36_6 : w35.cell? ⟨gb189, 6, none⟩ = some (.int .i64 0) := (blk_cell BK189.out 6).trans rfl; have hcz36_7 : w35.cell? ⟨gb189, 7, none⟩ = some (.int .i64 0) := (blk_cell BK189.out 7).trans rfl; have hcz36_8 : w35.cell? ⟨gb189, 8, none⟩ = some (.int .i64 0) := (blk_cell BK189.out 8).trans rfl; have hcz36_9 : w35.cell? ⟨gb189, 9, none⟩ = some (.int .i64 0) := (blk_cell BK189.out 9).trans rfl; have hcz36_10 : w35.cell? ⟨gb189, 10, none⟩ = some (.int .i64 0) := (blk_cell BK189.out 10).trans rfl; have hcz36_11 : w35.cell? ⟨gb189, 11, none⟩ = some (.int .i64 0) := (blk_cell BK189.out 11).trans rfl; have hcz36_12 : w35.cell? ⟨gb189, 12, none⟩ = some (.int .i64 0) := (blk_cell BK189.out 12).trans rfl; have hcz36_13 : w35.cell? ⟨gb189, 13, none⟩ = some (.slice none 0 0) := (blk_cell BK189.out 13).trans rfl; have hfz36_0 := blk_frozen BK189.out 0; have hfz36_1 := blk_frozen BK189.out 1; have hfz36_2 := blk_frozen BK189.out 2; have hfz36_3 := blk_frozen BK189.out 3; have hfz36_4 := blk_frozen BK189.out 4; have hfz36_5 := blk_frozen BK189.out 5; have hfz36_6 := blk_frozen BK189.out 6; have hfz36_7 := blk_frozen BK189.out 7; have hfz36_8 := blk_frozen BK189.out 8; have hfz36_9 := blk_frozen BK189.out 9; have hfz36_10 := blk_frozen BK189.out 10; have hfz36_11 := blk_frozen BK189.out 11; have hfz36_12 := blk_frozen BK189.out 12; have hfz36_13 := blk_frozen BK189.out 13; obtain ⟨Ao37, co37, eo37⟩ := Kd.R_slice HO186.out; subst eo37))
    go_ret
    exact ⟨by first | rfl | (simp [errW_none, errW_some] <;> rfl) | (simp [*, errW_none, errW_some] <;> rfl), by repeat (first | (with_reducible first | exact HB.out | apply below_alloc | apply pw_below_drewN | apply below_drew1 | refine below_set ?_ GE189.out) | exact HB.out)⟩
theorem dig_comma (n : Nat) : ∀ b ∈ digitsN n, b ≠ 44 := fun b hb e => by
  have h := digitsN_dig n b hb
  subst e
  unfold isDig at h
  exact absurd h.1 (by decide)
theorem split_join : ∀ l : List Int, l ≠ [] → splitC 44 (Lib.join ((l.map digitsB).map (·.data.toList)) [44]) = l.map (fun x => digitsN x.toNat)
  | [], h => absurd rfl h
  | [x], _ => by
    have e : Lib.join (([x].map digitsB).map (·.data.toList)) [44] = digitsN x.toNat := by simp [Lib.join, digitsB_list]
    rw [e, splitC_whole 44 _ (dig_comma _)]; rfl
  | x :: y :: r, _ => by
    have e : Lib.join (((x :: y :: r).map digitsB).map (·.data.toList)) [44] = digitsN x.toNat ++ 44 :: Lib.join (((y :: r).map digitsB).map (·.data.toList)) [44] := by
      rw [← digitsB_list]; simp [Lib.join]
    rw [e, splitC_append 44 _ _ (dig_comma _), split_join (y :: r) (by simp)]; rfl
theorem numsP_digs : ∀ (l acc : List Int), (∀ x ∈ l, i63 x) → numsP (l.map fun x => digitsN x.toNat) acc = (acc ++ l, 0)
  | [], acc, _ => by rw [List.append_nil]; rfl
  | x :: r, acc, h => by
    have hx := h x (by simp)
    obtain ⟨h0, h9⟩ := hx
    have hd := numP_digs x.toNat (by omega)
    rw [List.map_cons, numsP_cons, hd, if_pos rfl, Int.toNat_of_nonneg h0, numsP_digs r _ (fun z hz => h z (by simp [hz]))]
    simp
def smallNs (l : List Int) : Prop := ∀ x ∈ l, 0 ≤ x ∧ x ≤ 1048576
theorem smallNs_i63 {l : List Int} (h : smallNs l) : ∀ x ∈ l, i63 x := fun x hx => by have := h x hx; exact ⟨this.1, by omega⟩
theorem takeInts_ok (l : List Int) (h1 : l ≠ []) (h2 : l.length ≤ 64) (h3 : smallNs l) : takeInts (numsB l) 64 0 1048576 = (l, 0) := by
  have e : numsP (splitC 44 (numsB l).data.toList) [] = (l, 0) := by
    unfold numsB joinB
    rw [show (⟨(Lib.join ((l.map digitsB).map (·.data.toList)) (⟨#[44]⟩ : ByteArray).data.toList).toArray⟩ : ByteArray).data.toList = Lib.join ((l.map digitsB).map (·.data.toList)) [44] by simp, split_join l h1, numsP_digs l [] (smallNs_i63 h3)]; rfl
  unfold takeInts
  rw [e]
  simp only
  rw [if_neg (by omega), if_neg]
  rw [List.any_eq_true]
  rintro ⟨x, hx, hh⟩
  have := h3 x hx
  simp only [Bool.or_eq_true, decide_eq_true_eq] at hh
  omega
theorem ask_ints_ok {F : FormS} {t : Int} {l : List Int} (he : F.e = 0) (hv : F.vals t = some (numsB l)) (h1 : l ≠ []) (h2 : l.length ≤ 64) (h3 : smallNs l) : askL (fun s => takeInts s 64 0 1048576) [] F t = (l, F.mark t) := by
  rw [askL_some (fun s => takeInts s 64 0 1048576) [] F t he hv]
  simp only [takeInts_ok l h1 h2 h3]
  rw [if_pos trivial]
theorem askL_ints {F F' : FormS} {t : Int} {v : List Int} (h : askL (fun s => takeInts s 64 0 1048576) [] F t = (v, F')) (he : F'.e = 0) : F.e = 0 ∧ v.length ≤ 64 ∧ smallNs v := by
  obtain ⟨h0, _, s, _, ht⟩ := askL_good h he
  refine ⟨h0, ?_⟩
  unfold takeInts at ht
  generalize hr : numsP (splitC 44 s.data.toList) [] = r at *
  split at ht
  · simp at ht
  split at ht
  · simp at ht
  rename_i g1 g2
  subst ht
  simp only [true_and] at g1
  refine ⟨by omega, fun x hx => ?_⟩
  simp only [List.any_eq_true, not_exists, not_and, Bool.or_eq_true, decide_eq_true_eq, not_or] at g2
  have := g2 x hx
  omega
theorem allMay_ascii : ∀ l : List UInt8, (∀ b ∈ l, 32 ≤ b.toNat ∧ b.toNat < 127) → allMay l = true
  | [], _ => allMay_nil
  | b :: t, h => by
    have hb := h b (by simp)
    rw [may_cons b (by omega) (by rw [mayB_eq]; omega) t]
    exact allMay_ascii t (fun x hx => h x (by simp [hx]))
theorem join_small : ∀ (l : List Int), l ≠ [] → smallNs l → (Lib.join ((l.map digitsB).map (·.data.toList)) [44]).length + 1 ≤ 8 * l.length ∧ 1 ≤ (Lib.join ((l.map digitsB).map (·.data.toList)) [44]).length ∧ (∀ b ∈ Lib.join ((l.map digitsB).map (·.data.toList)) [44], 32 ≤ b.toNat ∧ b.toNat < 127)
  | [], h, _ => absurd rfl h
  | [x], _, h => by
    have hx := h x (by simp)
    have h1 := digitsN_len 6 x.toNat (by omega)
    have h2 := digitsN_pos x.toNat
    have e : Lib.join (([x].map digitsB).map (·.data.toList)) [44] = digitsN x.toNat := by simp [Lib.join, digitsB_list]
    rw [e]
    refine ⟨by simp; omega, h2, fun b hb => ?_⟩
    have := digitsN_dig _ b hb
    unfold isDig at this
    omega
  | x :: y :: r, _, h => by
    have hx := h x (by simp)
    have h1 := digitsN_len 6 x.toNat (by omega)
    obtain ⟨i1, i2, i3⟩ := join_small (y :: r) (by simp) (fun z hz => h z (by simp only [List.mem_cons] at hz ⊢; exact .inr hz))
    have e : Lib.join (((x :: y :: r).map digitsB).map (·.data.toList)) [44] = digitsN x.toNat ++ 44 :: Lib.join (((y :: r).map digitsB).map (·.data.toList)) [44] := by
      rw [← digitsB_list]; simp [Lib.join]
    rw [e]
    generalize Lib.join (((y :: r).map digitsB).map (·.data.toList)) [44] = t at *
    refine ⟨by simp only [List.length_append, List.length_cons] at i1 ⊢; omega, by simp only [List.length_append, List.length_cons]; omega, fun b hb => ?_⟩
    rcases List.mem_append.1 hb with hb | hb
    · have := digitsN_dig _ b hb
      unfold isDig at this
      omega
    · rcases List.mem_cons.1 hb with rfl | hb
      · decide
      · exact i3 b hb
theorem goodF_nums (t : Int) (l : List Int) (h1 : 1 ≤ t) (h2 : t ≤ 99999) (hl : l ≠ []) (h64 : l.length ≤ 64) (h : smallNs l) : goodF (t, (numsB l).data.toList) := by
  obtain ⟨i1, i2, i3⟩ := join_small l hl h
  have e : (numsB l).data.toList = Lib.join ((l.map digitsB).map (·.data.toList)) [44] := by unfold numsB joinB; simp
  refine ⟨h1, h2, ?_⟩
  show valueL (numsB l).data.toList = true
  rw [e]
  unfold valueL
  rw [decide_eq_true i2, decide_eq_true (show (Lib.join ((l.map digitsB).map (·.data.toList)) [44]).length ≤ 512 by omega), allMay_ascii _ i3]; rfl
theorem curveGo_small : ∀ (l : List Int) (b : Bool), curveGo b l = true → smallNs l
  | [], _, _ => fun x hx => absurd hx List.not_mem_nil
  | x :: r, b, h => by
    rw [curveGo] at h
    split at h
    · cases h
    split at h
    · cases h
    intro y hy
    rcases List.mem_cons.1 hy with rfl | hy
    · omega
    split at h
    · exact curveGo_small r _ h y hy
    · exact curveGo_small r _ h y hy
theorem curveOk_iff {l : List Int} (h : curveOk l = true) : l ≠ [] ∧ l.length ≤ 64 ∧ smallNs l := by
  unfold curveOk at h
  simp only [Bool.and_eq_true, decide_eq_true_eq] at h
  exact ⟨fun e => by rw [e] at h; simp at h, h.1.2, curveGo_small l _ h.2⟩
def validB (s : ByteArray) : Prop := nameL s.data.toList 0 = true
instance (s : ByteArray) : Decidable (validB s) := inferInstanceAs (Decidable (_ = _))
def WorthA (a : AskV) : Prop := (1 ≤ a.f6 ∧ a.f6 ≤ 1099511627776) ∧ (1 ≤ a.f7 ∧ a.f7 ≤ 1099511627776) ∧ (0 ≤ a.f10 ∧ a.f10 ≤ 1099511627776)
instance (a : AskV) : Decidable (WorthA a) := inferInstanceAs (Decidable (_ ∧ _))
def AlgoA (a : AskV) : Prop := (a.f8 = 1 ∧ a.f13 = [] ∧ a.f11 = 0 ∧ a.f12 = 0) ∨ (a.f8 = 2 ∧ curveOk a.f13 = true ∧ a.f11 = 0 ∧ a.f12 = 0) ∨ (a.f8 = 3 ∧ a.f13 = [] ∧ (1 ≤ a.f11 ∧ a.f11 ≤ 10000) ∧ a.f12 = 0) ∨ (a.f8 = 4 ∧ a.f13 = [] ∧ a.f11 = 0 ∧ (1 ≤ a.f12 ∧ a.f12 ≤ 1099511627776))
instance (a : AskV) : Decidable (AlgoA a) := inferInstanceAs (Decidable (_ ∨ _))
def FreshA (a : AskV) : Prop := validB a.f3 ∧ validB a.f4 ∧ a.f2 = ⟨#[]⟩ ∧ (1 ≤ a.f5 ∧ a.f5 ≤ 2) ∧ WorthA a ∧ (0 ≤ a.f9 ∧ a.f9 ≤ 1099511627776) ∧ (1 ≤ wrap64 (a.f10 - a.f9) ∧ wrap64 (a.f10 - a.f9) ≤ 1073741824) ∧ AlgoA a
instance (a : AskV) : Decidable (FreshA a) := inferInstanceAs (Decidable (_ ∧ _))
def BareA (a : AskV) : Prop := a.f3 = ⟨#[]⟩ ∧ a.f4 = ⟨#[]⟩ ∧ a.f5 = 0 ∧ a.f8 = 0 ∧ a.f9 = 0 ∧ a.f11 = 0 ∧ a.f12 = 0 ∧ a.f13 = []
instance (a : AskV) : Decidable (BareA a) := inferInstanceAs (Decidable (_ ∧ _))
def RightA (a : AskV) : Prop := (1 ≤ a.f0 ∧ a.f0 ≤ 5) ∧ validB a.f1 ∧
  ((a.f0 = 1 ∧ FreshA a) ∨ (a.f0 ≠ 1 ∧ validB a.f2 ∧ BareA a ∧ ((a.f0 = 3 ∧ WorthA a) ∨ (a.f0 ≠ 3 ∧ a.f6 = 0 ∧ a.f7 = 0 ∧ a.f10 = 0))))
instance (a : AskV) : Decidable (RightA a) := inferInstanceAs (Decidable (_ ∧ _))
theorem valid_f (s : ByteArray) (h : s.size ≤ 9223372036854775807) : roster_Valid.f s = some (decide (validB s)) := by
  unfold roster_Valid.f
  rw [if_pos h]
  by_cases c : nameL s.data.toList 0 = true
  · rw [c, decide_eq_true (show validB s from c)]
  · rw [decide_eq_false (show ¬ validB s from c), Bool.eq_false_iff.2 c]
theorem within_f (x lo hi : Int) : ask_within.f x lo hi = some (decide (lo ≤ x ∧ x ≤ hi)) := by
  unfold ask_within.f
  by_cases c : x ≥ lo
  · rw [if_pos c]; congr 1; rw [decide_eq_decide]; omega
  · rw [if_neg c]; congr 1; symm; rw [decide_eq_false_iff_not]; omega
theorem span_f (x y : Int) : ask_span.f x y = some (decide (1 ≤ wrap64 (y - x) ∧ wrap64 (y - x) ≤ 1073741824)) := by
  unfold ask_span.f
  rw [within_f]; rfl
theorem empty_iff (s : ByteArray) : (s.toList = ([] : List UInt8)) ↔ s = ⟨#[]⟩ := by
  rw [ByteArray.toList_eq]
  exact ⟨fun h => ba_ext h, fun h => by rw [h]⟩
section
variable (a : AskV)
theorem worth_f : ask_worth.f a.f0 a.f1 a.f2 a.f3 a.f4 a.f5 a.f6 a.f7 a.f8 a.f9 a.f10 a.f11 a.f12 a.f13 = some (decide (WorthA a)) := by
  unfold ask_worth.f WorthA
  rw [within_f, within_f, within_f]
  simp only [Option.bind_some, decide_eq_true_eq]
  by_cases c1 : 1 ≤ a.f6 ∧ a.f6 ≤ 1099511627776
  · rw [if_pos c1]
    by_cases c2 : 1 ≤ a.f7 ∧ a.f7 ≤ 1099511627776
    · rw [if_pos c2]; simp [c1, c2]
    · rw [if_neg c2]; simp [c2]
  · rw [if_neg c1]; simp [c1]
theorem len0 (l : List Int) : ((l.length : Int) = 0) ↔ l = [] := by
  rw [← List.length_eq_zero_iff]; omega
theorem algo_f : ask_algo.f 66 a.f0 a.f1 a.f2 a.f3 a.f4 a.f5 a.f6 a.f7 a.f8 a.f9 a.f10 a.f11 a.f12 a.f13 = some (decide (AlgoA a)) := by
  unfold ask_algo.f AlgoA
  rw [within_f, within_f, curve_f]
  simp only [Option.bind_some, decide_eq_true_eq, len0]
  by_cases c1 : a.f8 = 1
  · rw [if_pos c1]
    by_cases d1 : a.f13 = [] <;> by_cases d2 : a.f11 = 0 <;> by_cases d3 : a.f12 = 0 <;> simp [c1, d1, d2, d3]
  rw [if_neg c1]
  by_cases c2 : a.f8 = 2
  · rw [if_pos c2]
    by_cases d1 : curveOk a.f13 = true <;> by_cases d2 : a.f11 = 0 <;> by_cases d3 : a.f12 = 0 <;> simp [c2, d1, d2, d3]
  rw [if_neg c2]
  by_cases c3 : a.f8 = 3
  · rw [if_pos c3]
    by_cases d1 : a.f13 = [] <;> by_cases d2 : (1 ≤ a.f11 ∧ a.f11 ≤ 10000) <;> by_cases d3 : a.f12 = 0 <;> simp [c3, d1, d2, d3]
  rw [if_neg c3]
  by_cases c4 : a.f8 = 4
  · rw [if_pos c4]
    by_cases d1 : a.f13 = [] <;> by_cases d2 : a.f11 = 0 <;> by_cases d3 : (1 ≤ a.f12 ∧ a.f12 ≤ 1099511627776) <;> simp [c4, d1, d2, d3]
  rw [if_neg c4]
  simp [c1, c2, c3, c4]
theorem fresh_f (h3 : a.f3.size ≤ 9223372036854775807) (h4 : a.f4.size ≤ 9223372036854775807) : ask_fresh.f 67 a.f0 a.f1 a.f2 a.f3 a.f4 a.f5 a.f6 a.f7 a.f8 a.f9 a.f10 a.f11 a.f12 a.f13 = some (decide (FreshA a)) := by
  have hj : ∀ b, ask_fresh.j0 67 b a.f0 a.f1 a.f2 a.f3 a.f4 a.f5 a.f6 a.f7 a.f8 a.f9 a.f10 a.f11 a.f12 a.f13 = some (!b && (decide (WorthA a) && (decide (0 ≤ a.f9 ∧ a.f9 ≤ 1099511627776) && (decide (1 ≤ wrap64 (a.f10 - a.f9) ∧ wrap64 (a.f10 - a.f9) ≤ 1073741824) && decide (AlgoA a))))) := fun b => by
    rw [ask_fresh.j0, worth_f, algo_f, within_f, span_f]
    simp only [Option.bind_some, decide_eq_true_eq]
    cases b
    · rw [if_neg (by decide)]
      by_cases c1 : WorthA a
      · rw [if_pos c1]
        by_cases c2 : 0 ≤ a.f9 ∧ a.f9 ≤ 1099511627776
        · rw [if_pos c2]
          by_cases c3 : 1 ≤ wrap64 (a.f10 - a.f9) ∧ wrap64 (a.f10 - a.f9) ≤ 1073741824
          · rw [if_pos c3]; simp [c1, c2, c3]
          · rw [if_neg c3]; simp [c3]
        · rw [if_neg c2]; simp [c2]
      · rw [if_neg c1]; simp [c1]
    · rw [if_pos rfl]; rfl
  unfold ask_fresh.f
  rw [valid_f _ h3, valid_f _ h4, within_f]
  simp only [Option.bind_some, decide_eq_true_eq, empty_iff, hj]
  by_cases c1 : validB a.f3
  · rw [if_pos c1]
    by_cases c2 : validB a.f4
    · rw [if_pos c2]
      by_cases c3 : a.f2 = ⟨#[]⟩
      · rw [if_pos c3]
        congr 1
        rw [Bool.eq_iff_iff]
        unfold FreshA
        simp [c1, c2, c3]
      · rw [if_neg c3]
        congr 1
        symm
        rw [Bool.not_true, Bool.false_and, decide_eq_false_iff_not]
        exact fun h => c3 h.2.2.1
    · rw [if_neg c2]
      congr 1
      symm
      rw [Bool.not_true, Bool.false_and, decide_eq_false_iff_not]
      exact fun h => c2 h.2.1
  · rw [if_neg c1]
    congr 1
    symm
    rw [Bool.not_true, Bool.false_and, decide_eq_false_iff_not]
    exact fun h => c1 h.1
theorem bare_f : ask_bare.f a.f0 a.f1 a.f2 a.f3 a.f4 a.f5 a.f6 a.f7 a.f8 a.f9 a.f10 a.f11 a.f12 a.f13 = some (decide (BareA a)) := by
  unfold ask_bare.f
  simp only [empty_iff]
  by_cases c1 : a.f3 = ⟨#[]⟩
  case neg => rw [if_neg c1, decide_eq_false (show ¬ BareA a from fun h => c1 h.1)]
  rw [if_pos c1]
  by_cases c2 : a.f4 = ⟨#[]⟩
  case neg => rw [if_neg c2, decide_eq_false (show ¬ BareA a from fun h => c2 h.2.1)]
  rw [if_pos c2]
  by_cases c3 : a.f5 = 0
  case neg => rw [if_neg c3, decide_eq_false (show ¬ BareA a from fun h => c3 h.2.2.1)]
  rw [if_pos c3]
  by_cases c4 : a.f8 = 0
  case neg => rw [if_neg c4, decide_eq_false (show ¬ BareA a from fun h => c4 h.2.2.2.1)]
  rw [if_pos c4]
  by_cases c5 : a.f9 = 0
  case neg => rw [if_neg c5, decide_eq_false (show ¬ BareA a from fun h => c5 h.2.2.2.2.1)]
  rw [if_pos c5]
  by_cases c6 : a.f11 = 0
  case neg => rw [if_neg c6, decide_eq_false (show ¬ BareA a from fun h => c6 h.2.2.2.2.2.1)]
  rw [if_pos c6]
  by_cases c7 : a.f12 = 0
  case neg => rw [if_neg c7, decide_eq_false (show ¬ BareA a from fun h => c7 h.2.2.2.2.2.2.1)]
  rw [if_pos c7]
  by_cases c8 : a.f13 = []
  · rw [decide_eq_true (show BareA a from ⟨c1, c2, c3, c4, c5, c6, c7, c8⟩), c8]; rfl
  · rw [decide_eq_false (show ¬ BareA a from fun h => c8 h.2.2.2.2.2.2.2), beq_eq_false_iff_ne.2 (fun e => c8 ((len0 _).1 e))]
theorem kindW_empty (n : Int) : askKindW n = ⟨#[]⟩ ↔ ¬ (1 ≤ n ∧ n ≤ 5) := by
  have hne : ∀ l : List UInt8, l ≠ [] → (⟨l.toArray⟩ : ByteArray) ≠ ⟨#[]⟩ := fun l h e => h (by have := congrArg (fun b : ByteArray => b.data.toList) e; simpa using this)
  unfold askKindW
  by_cases c1 : n = 1
  · rw [if_pos c1]; exact ⟨fun h => absurd h (hne [68] (by simp)), fun h => absurd (show 1 ≤ n ∧ n ≤ 5 by omega) h⟩
  rw [if_neg c1]
  by_cases c2 : n = 2
  · rw [if_pos c2]; exact ⟨fun h => absurd h (hne [70] (by simp)), fun h => absurd (show 1 ≤ n ∧ n ≤ 5 by omega) h⟩
  rw [if_neg c2]
  by_cases c3 : n = 3
  · rw [if_pos c3]; exact ⟨fun h => absurd h (hne [71] (by simp)), fun h => absurd (show 1 ≤ n ∧ n ≤ 5 by omega) h⟩
  rw [if_neg c3]
  by_cases c4 : n = 4
  · rw [if_pos c4]; exact ⟨fun h => absurd h (hne [85, 80] (by simp)), fun h => absurd (show 1 ≤ n ∧ n ≤ 5 by omega) h⟩
  rw [if_neg c4]
  by_cases c5 : n = 5
  · rw [if_pos c5]; exact ⟨fun h => absurd h (hne [85, 82] (by simp)), fun h => absurd (show 1 ≤ n ∧ n ≤ 5 by omega) h⟩
  rw [if_neg c5]
  exact ⟨fun _ => by omega, fun _ => rfl⟩
theorem right_f (h1 : a.f1.size ≤ 9223372036854775807) (h2 : a.f2.size ≤ 9223372036854775807) (h3 : a.f3.size ≤ 9223372036854775807) (h4 : a.f4.size ≤ 9223372036854775807) : ask_Right.f 68 a.f0 a.f1 a.f2 a.f3 a.f4 a.f5 a.f6 a.f7 a.f8 a.f9 a.f10 a.f11 a.f12 a.f13 = some (decide (RightA a)) := by
  have hj1 : ∀ b, ask_Right.j1 67 b a.f0 a.f1 a.f2 a.f3 a.f4 a.f5 a.f6 a.f7 a.f8 a.f9 a.f10 a.f11 a.f12 a.f13 = some (!b && decide ((a.f0 = 3 ∧ WorthA a) ∨ (a.f0 ≠ 3 ∧ a.f6 = 0 ∧ a.f7 = 0 ∧ a.f10 = 0))) := fun b => by
    rw [ask_Right.j1, worth_f]
    simp only [Option.bind_some]
    cases b
    · rw [if_neg (by decide)]
      by_cases c1 : a.f0 = 3
      · rw [if_pos c1]; simp [c1]
      · rw [if_neg c1]
        by_cases c2 : a.f6 = 0
        · rw [if_pos c2]
          by_cases c3 : a.f7 = 0
          · rw [if_pos c3]; congr 1; rw [Bool.eq_iff_iff]; simp [c1, c2, c3]
          · rw [if_neg c3]; simp [c1, c3]
        · rw [if_neg c2]; simp [c1, c2]
    · rw [if_pos rfl]; rfl
  have hj0 : ∀ b, ask_Right.j0 68 b a.f0 a.f1 a.f2 a.f3 a.f4 a.f5 a.f6 a.f7 a.f8 a.f9 a.f10 a.f11 a.f12 a.f13 = some (!b && decide ((a.f0 = 1 ∧ FreshA a) ∨ (a.f0 ≠ 1 ∧ validB a.f2 ∧ BareA a ∧ ((a.f0 = 3 ∧ WorthA a) ∨ (a.f0 ≠ 3 ∧ a.f6 = 0 ∧ a.f7 = 0 ∧ a.f10 = 0))))) := fun b => by
    rw [ask_Right.j0, fresh_f a h3 h4, bare_f, valid_f _ h2]
    simp only [Option.bind_some, decide_eq_true_eq, hj1]
    cases b
    · rw [if_neg (by decide)]
      by_cases c1 : a.f0 = 1
      · rw [if_pos c1]; simp [c1]
      · rw [if_neg c1]
        by_cases c2 : validB a.f2
        · rw [if_pos c2]
          congr 1
          rw [Bool.eq_iff_iff]
          simp [c1, c2]
        · rw [if_neg c2]
          congr 1
          symm
          rw [Bool.not_false, Bool.true_and, Bool.not_true, Bool.false_and, decide_eq_false_iff_not]
          rintro (h | h)
          · exact c1 h.1
          · exact c2 h.2.1
    · rw [if_pos rfl]; rfl
  unfold ask_Right.f
  rw [kindOf_f, valid_f _ h1]
  simp only [Option.bind_some, empty_iff, hj0]
  by_cases c1 : askKindW a.f0 = ⟨#[]⟩
  · rw [if_pos c1]
    have := (kindW_empty a.f0).1 c1
    congr 1
    symm
    rw [Bool.not_true, Bool.false_and, decide_eq_false_iff_not]
    exact fun h => this h.1
  · rw [if_neg c1]
    have hk : 1 ≤ a.f0 ∧ a.f0 ≤ 5 := by
      by_cases c : 1 ≤ a.f0 ∧ a.f0 ≤ 5
      · exact c
      · exact absurd ((kindW_empty a.f0).2 c) c1
    congr 1
    rw [Bool.eq_iff_iff]
    unfold RightA
    simp [hk]
end
theorem spareL_all_a (asked : Int → Bool) : ∀ l : List Int, (∀ t ∈ l, asked t = true) → spareL asked l = (0, 0)
  | [], _ => rfl
  | t :: r, h => by rw [spareL_cons, if_pos (h t (by simp)), spareL_all_a asked r (fun x hx => h x (by simp [hx]))]
structure AskOk (a : AskV) : Prop where
  form : allFormsL ((askF a).map pairF) = ((((askF a).map pairF).map fieldL).flatten, 0)
  back : askD ⟨((((askF a).map pairF).map fieldL).flatten).toArray⟩ = (a, 0, 0)
theorem read_of_a (L : List S78) (hlen : L.length ≤ 64) (hg : ∀ f ∈ L.map pairF, goodF f) (hn : (tagsOf L).Nodup) (h0 : 0 < L.length) (h35 : (rd_T78 L 0).f0 = 35) :
    allFormsL (L.map pairF) = (((L.map pairF).map fieldL).flatten, 0) ∧ readB ⟨(((L.map pairF).map fieldL).flatten).toArray⟩ = (some (formOf L), 0) := by
  have hf := allFormsL_good _ (by rw [List.length_map]; exact hlen) hg
  have hr := readB_formed L hn h0 h35 (fun x hx => by have := (hg (pairF x) (List.mem_map_of_mem hx)).1; unfold pairF at this; simp only at this; omega) (by rw [hf])
  rw [hf] at hr
  exact ⟨hf, hr⟩
set_option maxRecDepth 100000 in
theorem ask_ok_1_1 (ac sy i : ByteArray) (sd q p st en : Int) (n_i : nameL i.data.toList 0 = true) (n_ac : nameL ac.data.toList 0 = true) (n_sy : nameL sy.data.toList 0 = true) (h_sd : 1 ≤ sd ∧ sd ≤ 2) (h_q : 1 ≤ q ∧ q ≤ 1099511627776) (h_p : 1 ≤ p ∧ p ≤ 1099511627776) (h_st : 0 ≤ st ∧ st ≤ 1099511627776) (h_en : 0 ≤ en ∧ en ≤ 1099511627776) (h_sp : 1 ≤ wrap64 (en - st) ∧ wrap64 (en - st) ≤ 1073741824) : AskOk ⟨1, i, ⟨#[]⟩, ac, sy, sd, q, p, 1, st, en, 0, 0, []⟩ := by
  have eL : askF ⟨1, i, ⟨#[]⟩, ac, sy, sd, q, p, 1, st, en, 0, 0, []⟩ = [⟨35, ⟨#[68]⟩⟩, ⟨11, i⟩, ⟨1, ac⟩, ⟨55, sy⟩, ⟨54, digitsB sd⟩, ⟨38, digitsB q⟩, ⟨44, digitsB p⟩, ⟨5001, digitsB 1⟩, ⟨5002, digitsB st⟩, ⟨5003, digitsB en⟩] := rfl
  obtain ⟨hf, hr⟩ := read_of_a (askF ⟨1, i, ⟨#[]⟩, ac, sy, sd, q, p, 1, st, en, 0, 0, []⟩) (by rw [eL]; simp) (by
    rw [eL]
    simp only [List.map_cons, List.map_nil, pairF, List.forall_mem_cons]
    exact ⟨goodF_one 35 68 (by decide) (by decide) (by decide) (by decide), goodF_name 11 i (by decide) (by decide) n_i, goodF_name 1 ac (by decide) (by decide) n_ac, goodF_name 55 sy (by decide) (by decide) n_sy, goodF_num 54 sd (by decide) (by decide) (by omega), goodF_num 38 q (by decide) (by decide) (by omega), goodF_num 44 p (by decide) (by decide) (by omega), goodF_num 5001 1 (by decide) (by decide) (by omega), goodF_num 5002 st (by decide) (by decide) (by omega), goodF_num 5003 en (by decide) (by decide) (by omega), fun _ h => absurd h List.not_mem_nil⟩) (by rw [eL]; show List.Nodup [35, 11, 1, 55, 54, 38, 44, 5001, 5002, 5003]; decide) (by rw [eL]; simp) (by rw [eL]; rfl)
  have hv : ((formOf (askF ⟨1, i, ⟨#[]⟩, ac, sy, sd, q, p, 1, st, en, 0, 0, []⟩)).vals 35).getD ⟨#[]⟩ = ⟨#[68]⟩ := by rw [eL]; rfl
  generalize hF0 : formOf (askF ⟨1, i, ⟨#[]⟩, ac, sy, sd, q, p, 1, st, en, 0, 0, []⟩) = F0 at *
  have h0e : F0.e = 0 := by rw [← hF0]; rfl
  have hx1 : F0.vals 11 = some (i) := by rw [← hF0, eL]; rfl
  have hx2 : F0.vals 1 = some (ac) := by rw [← hF0, eL]; rfl
  have hx3 : F0.vals 55 = some (sy) := by rw [← hF0, eL]; rfl
  have hx4 : F0.vals 54 = some (digitsB sd) := by rw [← hF0, eL]; rfl
  have hx5 : F0.vals 38 = some (digitsB q) := by rw [← hF0, eL]; rfl
  have hx6 : F0.vals 44 = some (digitsB p) := by rw [← hF0, eL]; rfl
  have hx7 : F0.vals 5001 = some (digitsB 1) := by rw [← hF0, eL]; rfl
  have hx8 : F0.vals 5002 = some (digitsB st) := by rw [← hF0, eL]; rfl
  have hx9 : F0.vals 5003 = some (digitsB en) := by rw [← hF0, eL]; rfl
  obtain ⟨G0, hG0⟩ : ∃ G, F0.mark 35 = G := ⟨_, rfl⟩
  have ge0 : G0.e = 0 := by rw [← hG0]; exact h0e
  have gv0 : G0.vals = F0.vals := by rw [← hG0]; exact rfl
  have go0 : G0.order = F0.order := by rw [← hG0]; exact rfl
  have ga0 : ∀ x, G0.asked x = if x = 35 then true else F0.asked x := by rw [← hG0]; intro x; rfl
  have E1 := ask_name_ok (F := G0) (t := 11) ge0 (by rw [gv0]; exact hx1) n_i
  obtain ⟨G1, hG1⟩ : ∃ G, G0.mark 11 = G := ⟨_, rfl⟩
  rw [hG1] at E1
  have ge1 : G1.e = 0 := by rw [← hG1]; exact ge0
  have gv1 : G1.vals = F0.vals := by rw [← hG1]; exact gv0
  have go1 : G1.order = F0.order := by rw [← hG1]; exact go0
  have ga1 : ∀ x, G1.asked x = if x = 11 then true else G0.asked x := by rw [← hG1]; intro x; rfl
  have E2 := ask_name_ok (F := G1) (t := 1) ge1 (by rw [gv1]; exact hx2) n_ac
  obtain ⟨G2, hG2⟩ : ∃ G, G1.mark 1 = G := ⟨_, rfl⟩
  rw [hG2] at E2
  have ge2 : G2.e = 0 := by rw [← hG2]; exact ge1
  have gv2 : G2.vals = F0.vals := by rw [← hG2]; exact gv1
  have go2 : G2.order = F0.order := by rw [← hG2]; exact go1
  have ga2 : ∀ x, G2.asked x = if x = 1 then true else G1.asked x := by rw [← hG2]; intro x; rfl
  have E3 := ask_name_ok (F := G2) (t := 55) ge2 (by rw [gv2]; exact hx3) n_sy
  obtain ⟨G3, hG3⟩ : ∃ G, G2.mark 55 = G := ⟨_, rfl⟩
  rw [hG3] at E3
  have ge3 : G3.e = 0 := by rw [← hG3]; exact ge2
  have gv3 : G3.vals = F0.vals := by rw [← hG3]; exact gv2
  have go3 : G3.order = F0.order := by rw [← hG3]; exact go2
  have ga3 : ∀ x, G3.asked x = if x = 55 then true else G2.asked x := by rw [← hG3]; intro x; rfl
  have E4 := ask_int_ok (F := G3) (t := 54) (lo := 1) (hi := 2) ge3 (by rw [gv3]; exact hx4) (by omega) (by omega) (by omega) (by omega)
  obtain ⟨G4, hG4⟩ : ∃ G, G3.mark 54 = G := ⟨_, rfl⟩
  rw [hG4] at E4
  have ge4 : G4.e = 0 := by rw [← hG4]; exact ge3
  have gv4 : G4.vals = F0.vals := by rw [← hG4]; exact gv3
  have go4 : G4.order = F0.order := by rw [← hG4]; exact go3
  have ga4 : ∀ x, G4.asked x = if x = 54 then true else G3.asked x := by rw [← hG4]; intro x; rfl
  have E5 := ask_int_ok (F := G4) (t := 38) (lo := 1) (hi := 1099511627776) ge4 (by rw [gv4]; exact hx5) (by omega) (by omega) (by omega) (by omega)
  obtain ⟨G5, hG5⟩ : ∃ G, G4.mark 38 = G := ⟨_, rfl⟩
  rw [hG5] at E5
  have ge5 : G5.e = 0 := by rw [← hG5]; exact ge4
  have gv5 : G5.vals = F0.vals := by rw [← hG5]; exact gv4
  have go5 : G5.order = F0.order := by rw [← hG5]; exact go4
  have ga5 : ∀ x, G5.asked x = if x = 38 then true else G4.asked x := by rw [← hG5]; intro x; rfl
  have E6 := ask_int_ok (F := G5) (t := 44) (lo := 1) (hi := 1099511627776) ge5 (by rw [gv5]; exact hx6) (by omega) (by omega) (by omega) (by omega)
  obtain ⟨G6, hG6⟩ : ∃ G, G5.mark 44 = G := ⟨_, rfl⟩
  rw [hG6] at E6
  have ge6 : G6.e = 0 := by rw [← hG6]; exact ge5
  have gv6 : G6.vals = F0.vals := by rw [← hG6]; exact gv5
  have go6 : G6.order = F0.order := by rw [← hG6]; exact go5
  have ga6 : ∀ x, G6.asked x = if x = 44 then true else G5.asked x := by rw [← hG6]; intro x; rfl
  have E7 := ask_int_ok (F := G6) (t := 5001) (lo := 1) (hi := 4) ge6 (by rw [gv6]; exact hx7) (by omega) (by omega) (by omega) (by omega)
  obtain ⟨G7, hG7⟩ : ∃ G, G6.mark 5001 = G := ⟨_, rfl⟩
  rw [hG7] at E7
  have ge7 : G7.e = 0 := by rw [← hG7]; exact ge6
  have gv7 : G7.vals = F0.vals := by rw [← hG7]; exact gv6
  have go7 : G7.order = F0.order := by rw [← hG7]; exact go6
  have ga7 : ∀ x, G7.asked x = if x = 5001 then true else G6.asked x := by rw [← hG7]; intro x; rfl
  have E8 := ask_int_ok (F := G7) (t := 5002) (lo := 0) (hi := 1099511627776) ge7 (by rw [gv7]; exact hx8) (by omega) (by omega) (by omega) (by omega)
  obtain ⟨G8, hG8⟩ : ∃ G, G7.mark 5002 = G := ⟨_, rfl⟩
  rw [hG8] at E8
  have ge8 : G8.e = 0 := by rw [← hG8]; exact ge7
  have gv8 : G8.vals = F0.vals := by rw [← hG8]; exact gv7
  have go8 : G8.order = F0.order := by rw [← hG8]; exact go7
  have ga8 : ∀ x, G8.asked x = if x = 5002 then true else G7.asked x := by rw [← hG8]; intro x; rfl
  have E9 := ask_int_ok (F := G8) (t := 5003) (lo := 0) (hi := 1099511627776) ge8 (by rw [gv8]; exact hx9) (by omega) (by omega) (by omega) (by omega)
  obtain ⟨G9, hG9⟩ : ∃ G, G8.mark 5003 = G := ⟨_, rfl⟩
  rw [hG9] at E9
  have ge9 : G9.e = 0 := by rw [← hG9]; exact ge8
  have gv9 : G9.vals = F0.vals := by rw [← hG9]; exact gv8
  have go9 : G9.order = F0.order := by rw [← hG9]; exact go8
  have ga9 : ∀ x, G9.asked x = if x = 5003 then true else G8.asked x := by rw [← hG9]; intro x; rfl
  have ha : asksT askNew G0 = ([.s i, .s ac, .s sy, .n sd, .n q, .n p, .n 1, .n st, .n en], G9) := by
    rw [show askNew = [.name 11, .name 1, .name 55, .int 54 1 2, .int 38 1 1099511627776, .int 44 1 1099511627776, .int 5001 1 4, .int 5002 0 1099511627776, .int 5003 0 1099511627776] from rfl, asksT_name E1, asksT_name E2, asksT_name E3, asksT_int E4, asksT_int E5, asksT_int E6, asksT_int E7, asksT_int E8, asksT_int E9]; rfl
  have hta : takeA 1 (F0.mark 35) = (⟨1, i, ⟨#[]⟩, ac, sy, sd, q, p, 1, st, en, 0, 0, []⟩, G9) := by
    rw [hG0]
    unfold takeA
    rw [if_pos rfl, ha]
    show (askNewOf [.s i, .s ac, .s sy, .n sd, .n q, .n p, .n 1, .n st, .n en] (asksT (algSch 1) G9).1, (asksT (algSch 1) G9).2) = _
    rw [show algSch 1 = [] from rfl]
    rfl
  have hd : (doneL G9).2 = 0 := by
    have ho : G9.order = [35, 11, 1, 55, 54, 38, 44, 5001, 5002, 5003] := by rw [go9, ← hF0, eL]; rfl
    rw [doneL_ok ge9]
    rw [ho]
    refine spareL_all_a _ _ ?_
    simp only [List.forall_mem_cons]
    exact ⟨by rw [ga9, if_neg (by decide), ga8, if_neg (by decide), ga7, if_neg (by decide), ga6, if_neg (by decide), ga5, if_neg (by decide), ga4, if_neg (by decide), ga3, if_neg (by decide), ga2, if_neg (by decide), ga1, if_neg (by decide), ga0, if_pos rfl], by rw [ga9, if_neg (by decide), ga8, if_neg (by decide), ga7, if_neg (by decide), ga6, if_neg (by decide), ga5, if_neg (by decide), ga4, if_neg (by decide), ga3, if_neg (by decide), ga2, if_neg (by decide), ga1, if_pos rfl], by rw [ga9, if_neg (by decide), ga8, if_neg (by decide), ga7, if_neg (by decide), ga6, if_neg (by decide), ga5, if_neg (by decide), ga4, if_neg (by decide), ga3, if_neg (by decide), ga2, if_pos rfl], by rw [ga9, if_neg (by decide), ga8, if_neg (by decide), ga7, if_neg (by decide), ga6, if_neg (by decide), ga5, if_neg (by decide), ga4, if_neg (by decide), ga3, if_pos rfl], by rw [ga9, if_neg (by decide), ga8, if_neg (by decide), ga7, if_neg (by decide), ga6, if_neg (by decide), ga5, if_neg (by decide), ga4, if_pos rfl], by rw [ga9, if_neg (by decide), ga8, if_neg (by decide), ga7, if_neg (by decide), ga6, if_neg (by decide), ga5, if_pos rfl], by rw [ga9, if_neg (by decide), ga8, if_neg (by decide), ga7, if_neg (by decide), ga6, if_pos rfl], by rw [ga9, if_neg (by decide), ga8, if_neg (by decide), ga7, if_pos rfl], by rw [ga9, if_neg (by decide), ga8, if_pos rfl], by rw [ga9, if_pos rfl], fun _ h => absurd h List.not_mem_nil⟩
  exact ⟨hf, askD_good (k := 1) hr hv rfl (by decide) hta hd (by unfold wholeA; rw [if_pos rfl, if_pos h_sp, if_neg (by show ¬ (1 : Int) = 2; decide)])⟩
set_option maxRecDepth 100000 in
theorem ask_ok_1_2 (ac sy i : ByteArray) (sd q p st en : Int) (n_i : nameL i.data.toList 0 = true) (n_ac : nameL ac.data.toList 0 = true) (n_sy : nameL sy.data.toList 0 = true) (h_sd : 1 ≤ sd ∧ sd ≤ 2) (h_q : 1 ≤ q ∧ q ≤ 1099511627776) (h_p : 1 ≤ p ∧ p ≤ 1099511627776) (h_st : 0 ≤ st ∧ st ≤ 1099511627776) (h_en : 0 ≤ en ∧ en ≤ 1099511627776) (h_sp : 1 ≤ wrap64 (en - st) ∧ wrap64 (en - st) ≤ 1073741824) (l : List Int) (hc : curveOk l = true) : AskOk ⟨1, i, ⟨#[]⟩, ac, sy, sd, q, p, 2, st, en, 0, 0, l⟩ := by
  obtain ⟨hl1, hl2, hl3⟩ := curveOk_iff hc
  have eL : askF ⟨1, i, ⟨#[]⟩, ac, sy, sd, q, p, 2, st, en, 0, 0, l⟩ = [⟨35, ⟨#[68]⟩⟩, ⟨11, i⟩, ⟨1, ac⟩, ⟨55, sy⟩, ⟨54, digitsB sd⟩, ⟨38, digitsB q⟩, ⟨44, digitsB p⟩, ⟨5001, digitsB 2⟩, ⟨5002, digitsB st⟩, ⟨5003, digitsB en⟩, ⟨5006, numsB l⟩] := rfl
  obtain ⟨hf, hr⟩ := read_of_a (askF ⟨1, i, ⟨#[]⟩, ac, sy, sd, q, p, 2, st, en, 0, 0, l⟩) (by rw [eL]; simp) (by
    rw [eL]
    simp only [List.map_cons, List.map_nil, pairF, List.forall_mem_cons]
    exact ⟨goodF_one 35 68 (by decide) (by decide) (by decide) (by decide), goodF_name 11 i (by decide) (by decide) n_i, goodF_name 1 ac (by decide) (by decide) n_ac, goodF_name 55 sy (by decide) (by decide) n_sy, goodF_num 54 sd (by decide) (by decide) (by omega), goodF_num 38 q (by decide) (by decide) (by omega), goodF_num 44 p (by decide) (by decide) (by omega), goodF_num 5001 2 (by decide) (by decide) (by omega), goodF_num 5002 st (by decide) (by decide) (by omega), goodF_num 5003 en (by decide) (by decide) (by omega), goodF_nums 5006 l (by decide) (by decide) hl1 hl2 hl3, fun _ h => absurd h List.not_mem_nil⟩) (by rw [eL]; show List.Nodup [35, 11, 1, 55, 54, 38, 44, 5001, 5002, 5003, 5006]; decide) (by rw [eL]; simp) (by rw [eL]; rfl)
  have hv : ((formOf (askF ⟨1, i, ⟨#[]⟩, ac, sy, sd, q, p, 2, st, en, 0, 0, l⟩)).vals 35).getD ⟨#[]⟩ = ⟨#[68]⟩ := by rw [eL]; rfl
  generalize hF0 : formOf (askF ⟨1, i, ⟨#[]⟩, ac, sy, sd, q, p, 2, st, en, 0, 0, l⟩) = F0 at *
  have h0e : F0.e = 0 := by rw [← hF0]; rfl
  have hx1 : F0.vals 11 = some (i) := by rw [← hF0, eL]; rfl
  have hx2 : F0.vals 1 = some (ac) := by rw [← hF0, eL]; rfl
  have hx3 : F0.vals 55 = some (sy) := by rw [← hF0, eL]; rfl
  have hx4 : F0.vals 54 = some (digitsB sd) := by rw [← hF0, eL]; rfl
  have hx5 : F0.vals 38 = some (digitsB q) := by rw [← hF0, eL]; rfl
  have hx6 : F0.vals 44 = some (digitsB p) := by rw [← hF0, eL]; rfl
  have hx7 : F0.vals 5001 = some (digitsB 2) := by rw [← hF0, eL]; rfl
  have hx8 : F0.vals 5002 = some (digitsB st) := by rw [← hF0, eL]; rfl
  have hx9 : F0.vals 5003 = some (digitsB en) := by rw [← hF0, eL]; rfl
  have hx10 : F0.vals 5006 = some (numsB l) := by rw [← hF0, eL]; rfl
  obtain ⟨G0, hG0⟩ : ∃ G, F0.mark 35 = G := ⟨_, rfl⟩
  have ge0 : G0.e = 0 := by rw [← hG0]; exact h0e
  have gv0 : G0.vals = F0.vals := by rw [← hG0]; exact rfl
  have go0 : G0.order = F0.order := by rw [← hG0]; exact rfl
  have ga0 : ∀ x, G0.asked x = if x = 35 then true else F0.asked x := by rw [← hG0]; intro x; rfl
  have E1 := ask_name_ok (F := G0) (t := 11) ge0 (by rw [gv0]; exact hx1) n_i
  obtain ⟨G1, hG1⟩ : ∃ G, G0.mark 11 = G := ⟨_, rfl⟩
  rw [hG1] at E1
  have ge1 : G1.e = 0 := by rw [← hG1]; exact ge0
  have gv1 : G1.vals = F0.vals := by rw [← hG1]; exact gv0
  have go1 : G1.order = F0.order := by rw [← hG1]; exact go0
  have ga1 : ∀ x, G1.asked x = if x = 11 then true else G0.asked x := by rw [← hG1]; intro x; rfl
  have E2 := ask_name_ok (F := G1) (t := 1) ge1 (by rw [gv1]; exact hx2) n_ac
  obtain ⟨G2, hG2⟩ : ∃ G, G1.mark 1 = G := ⟨_, rfl⟩
  rw [hG2] at E2
  have ge2 : G2.e = 0 := by rw [← hG2]; exact ge1
  have gv2 : G2.vals = F0.vals := by rw [← hG2]; exact gv1
  have go2 : G2.order = F0.order := by rw [← hG2]; exact go1
  have ga2 : ∀ x, G2.asked x = if x = 1 then true else G1.asked x := by rw [← hG2]; intro x; rfl
  have E3 := ask_name_ok (F := G2) (t := 55) ge2 (by rw [gv2]; exact hx3) n_sy
  obtain ⟨G3, hG3⟩ : ∃ G, G2.mark 55 = G := ⟨_, rfl⟩
  rw [hG3] at E3
  have ge3 : G3.e = 0 := by rw [← hG3]; exact ge2
  have gv3 : G3.vals = F0.vals := by rw [← hG3]; exact gv2
  have go3 : G3.order = F0.order := by rw [← hG3]; exact go2
  have ga3 : ∀ x, G3.asked x = if x = 55 then true else G2.asked x := by rw [← hG3]; intro x; rfl
  have E4 := ask_int_ok (F := G3) (t := 54) (lo := 1) (hi := 2) ge3 (by rw [gv3]; exact hx4) (by omega) (by omega) (by omega) (by omega)
  obtain ⟨G4, hG4⟩ : ∃ G, G3.mark 54 = G := ⟨_, rfl⟩
  rw [hG4] at E4
  have ge4 : G4.e = 0 := by rw [← hG4]; exact ge3
  have gv4 : G4.vals = F0.vals := by rw [← hG4]; exact gv3
  have go4 : G4.order = F0.order := by rw [← hG4]; exact go3
  have ga4 : ∀ x, G4.asked x = if x = 54 then true else G3.asked x := by rw [← hG4]; intro x; rfl
  have E5 := ask_int_ok (F := G4) (t := 38) (lo := 1) (hi := 1099511627776) ge4 (by rw [gv4]; exact hx5) (by omega) (by omega) (by omega) (by omega)
  obtain ⟨G5, hG5⟩ : ∃ G, G4.mark 38 = G := ⟨_, rfl⟩
  rw [hG5] at E5
  have ge5 : G5.e = 0 := by rw [← hG5]; exact ge4
  have gv5 : G5.vals = F0.vals := by rw [← hG5]; exact gv4
  have go5 : G5.order = F0.order := by rw [← hG5]; exact go4
  have ga5 : ∀ x, G5.asked x = if x = 38 then true else G4.asked x := by rw [← hG5]; intro x; rfl
  have E6 := ask_int_ok (F := G5) (t := 44) (lo := 1) (hi := 1099511627776) ge5 (by rw [gv5]; exact hx6) (by omega) (by omega) (by omega) (by omega)
  obtain ⟨G6, hG6⟩ : ∃ G, G5.mark 44 = G := ⟨_, rfl⟩
  rw [hG6] at E6
  have ge6 : G6.e = 0 := by rw [← hG6]; exact ge5
  have gv6 : G6.vals = F0.vals := by rw [← hG6]; exact gv5
  have go6 : G6.order = F0.order := by rw [← hG6]; exact go5
  have ga6 : ∀ x, G6.asked x = if x = 44 then true else G5.asked x := by rw [← hG6]; intro x; rfl
  have E7 := ask_int_ok (F := G6) (t := 5001) (lo := 1) (hi := 4) ge6 (by rw [gv6]; exact hx7) (by omega) (by omega) (by omega) (by omega)
  obtain ⟨G7, hG7⟩ : ∃ G, G6.mark 5001 = G := ⟨_, rfl⟩
  rw [hG7] at E7
  have ge7 : G7.e = 0 := by rw [← hG7]; exact ge6
  have gv7 : G7.vals = F0.vals := by rw [← hG7]; exact gv6
  have go7 : G7.order = F0.order := by rw [← hG7]; exact go6
  have ga7 : ∀ x, G7.asked x = if x = 5001 then true else G6.asked x := by rw [← hG7]; intro x; rfl
  have E8 := ask_int_ok (F := G7) (t := 5002) (lo := 0) (hi := 1099511627776) ge7 (by rw [gv7]; exact hx8) (by omega) (by omega) (by omega) (by omega)
  obtain ⟨G8, hG8⟩ : ∃ G, G7.mark 5002 = G := ⟨_, rfl⟩
  rw [hG8] at E8
  have ge8 : G8.e = 0 := by rw [← hG8]; exact ge7
  have gv8 : G8.vals = F0.vals := by rw [← hG8]; exact gv7
  have go8 : G8.order = F0.order := by rw [← hG8]; exact go7
  have ga8 : ∀ x, G8.asked x = if x = 5002 then true else G7.asked x := by rw [← hG8]; intro x; rfl
  have E9 := ask_int_ok (F := G8) (t := 5003) (lo := 0) (hi := 1099511627776) ge8 (by rw [gv8]; exact hx9) (by omega) (by omega) (by omega) (by omega)
  obtain ⟨G9, hG9⟩ : ∃ G, G8.mark 5003 = G := ⟨_, rfl⟩
  rw [hG9] at E9
  have ge9 : G9.e = 0 := by rw [← hG9]; exact ge8
  have gv9 : G9.vals = F0.vals := by rw [← hG9]; exact gv8
  have go9 : G9.order = F0.order := by rw [← hG9]; exact go8
  have ga9 : ∀ x, G9.asked x = if x = 5003 then true else G8.asked x := by rw [← hG9]; intro x; rfl
  have E10 := ask_ints_ok (F := G9) (t := 5006) ge9 (by rw [gv9]; exact hx10) hl1 hl2 hl3
  obtain ⟨G10, hG10⟩ : ∃ G, G9.mark 5006 = G := ⟨_, rfl⟩
  rw [hG10] at E10
  have ge10 : G10.e = 0 := by rw [← hG10]; exact ge9
  have gv10 : G10.vals = F0.vals := by rw [← hG10]; exact gv9
  have go10 : G10.order = F0.order := by rw [← hG10]; exact go9
  have ga10 : ∀ x, G10.asked x = if x = 5006 then true else G9.asked x := by rw [← hG10]; intro x; rfl
  have ha : asksT askNew G0 = ([.s i, .s ac, .s sy, .n sd, .n q, .n p, .n 2, .n st, .n en], G9) := by
    rw [show askNew = [.name 11, .name 1, .name 55, .int 54 1 2, .int 38 1 1099511627776, .int 44 1 1099511627776, .int 5001 1 4, .int 5002 0 1099511627776, .int 5003 0 1099511627776] from rfl, asksT_name E1, asksT_name E2, asksT_name E3, asksT_int E4, asksT_int E5, asksT_int E6, asksT_int E7, asksT_int E8, asksT_int E9]; rfl
  have hta : takeA 1 (F0.mark 35) = (⟨1, i, ⟨#[]⟩, ac, sy, sd, q, p, 2, st, en, 0, 0, l⟩, G10) := by
    rw [hG0]
    unfold takeA
    rw [if_pos rfl, ha]
    show (askNewOf [.s i, .s ac, .s sy, .n sd, .n q, .n p, .n 2, .n st, .n en] (asksT (algSch 2) G9).1, (asksT (algSch 2) G9).2) = _
    rw [show algSch 2 = [.ints 5006 (fun s => takeInts s 64 0 1048576)] from rfl, asksT_ints E10]
    rfl
  have hd : (doneL G10).2 = 0 := by
    have ho : G10.order = [35, 11, 1, 55, 54, 38, 44, 5001, 5002, 5003, 5006] := by rw [go10, ← hF0, eL]; rfl
    rw [doneL_ok ge10]
    rw [ho]
    refine spareL_all_a _ _ ?_
    simp only [List.forall_mem_cons]
    exact ⟨by rw [ga10, if_neg (by decide), ga9, if_neg (by decide), ga8, if_neg (by decide), ga7, if_neg (by decide), ga6, if_neg (by decide), ga5, if_neg (by decide), ga4, if_neg (by decide), ga3, if_neg (by decide), ga2, if_neg (by decide), ga1, if_neg (by decide), ga0, if_pos rfl], by rw [ga10, if_neg (by decide), ga9, if_neg (by decide), ga8, if_neg (by decide), ga7, if_neg (by decide), ga6, if_neg (by decide), ga5, if_neg (by decide), ga4, if_neg (by decide), ga3, if_neg (by decide), ga2, if_neg (by decide), ga1, if_pos rfl], by rw [ga10, if_neg (by decide), ga9, if_neg (by decide), ga8, if_neg (by decide), ga7, if_neg (by decide), ga6, if_neg (by decide), ga5, if_neg (by decide), ga4, if_neg (by decide), ga3, if_neg (by decide), ga2, if_pos rfl], by rw [ga10, if_neg (by decide), ga9, if_neg (by decide), ga8, if_neg (by decide), ga7, if_neg (by decide), ga6, if_neg (by decide), ga5, if_neg (by decide), ga4, if_neg (by decide), ga3, if_pos rfl], by rw [ga10, if_neg (by decide), ga9, if_neg (by decide), ga8, if_neg (by decide), ga7, if_neg (by decide), ga6, if_neg (by decide), ga5, if_neg (by decide), ga4, if_pos rfl], by rw [ga10, if_neg (by decide), ga9, if_neg (by decide), ga8, if_neg (by decide), ga7, if_neg (by decide), ga6, if_neg (by decide), ga5, if_pos rfl], by rw [ga10, if_neg (by decide), ga9, if_neg (by decide), ga8, if_neg (by decide), ga7, if_neg (by decide), ga6, if_pos rfl], by rw [ga10, if_neg (by decide), ga9, if_neg (by decide), ga8, if_neg (by decide), ga7, if_pos rfl], by rw [ga10, if_neg (by decide), ga9, if_neg (by decide), ga8, if_pos rfl], by rw [ga10, if_neg (by decide), ga9, if_pos rfl], by rw [ga10, if_pos rfl], fun _ h => absurd h List.not_mem_nil⟩
  exact ⟨hf, askD_good (k := 1) hr hv rfl (by decide) hta hd (by unfold wholeA; rw [if_pos rfl, if_pos h_sp, if_pos rfl, if_pos hc])⟩
set_option maxRecDepth 100000 in
theorem ask_ok_1_3 (ac sy i : ByteArray) (sd q p st en rt : Int) (n_i : nameL i.data.toList 0 = true) (n_ac : nameL ac.data.toList 0 = true) (n_sy : nameL sy.data.toList 0 = true) (h_sd : 1 ≤ sd ∧ sd ≤ 2) (h_q : 1 ≤ q ∧ q ≤ 1099511627776) (h_p : 1 ≤ p ∧ p ≤ 1099511627776) (h_st : 0 ≤ st ∧ st ≤ 1099511627776) (h_en : 0 ≤ en ∧ en ≤ 1099511627776) (h_sp : 1 ≤ wrap64 (en - st) ∧ wrap64 (en - st) ≤ 1073741824) (h_rt : 1 ≤ rt ∧ rt ≤ 10000) : AskOk ⟨1, i, ⟨#[]⟩, ac, sy, sd, q, p, 3, st, en, rt, 0, []⟩ := by
  have eL : askF ⟨1, i, ⟨#[]⟩, ac, sy, sd, q, p, 3, st, en, rt, 0, []⟩ = [⟨35, ⟨#[68]⟩⟩, ⟨11, i⟩, ⟨1, ac⟩, ⟨55, sy⟩, ⟨54, digitsB sd⟩, ⟨38, digitsB q⟩, ⟨44, digitsB p⟩, ⟨5001, digitsB 3⟩, ⟨5002, digitsB st⟩, ⟨5003, digitsB en⟩, ⟨5004, digitsB rt⟩] := rfl
  obtain ⟨hf, hr⟩ := read_of_a (askF ⟨1, i, ⟨#[]⟩, ac, sy, sd, q, p, 3, st, en, rt, 0, []⟩) (by rw [eL]; simp) (by
    rw [eL]
    simp only [List.map_cons, List.map_nil, pairF, List.forall_mem_cons]
    exact ⟨goodF_one 35 68 (by decide) (by decide) (by decide) (by decide), goodF_name 11 i (by decide) (by decide) n_i, goodF_name 1 ac (by decide) (by decide) n_ac, goodF_name 55 sy (by decide) (by decide) n_sy, goodF_num 54 sd (by decide) (by decide) (by omega), goodF_num 38 q (by decide) (by decide) (by omega), goodF_num 44 p (by decide) (by decide) (by omega), goodF_num 5001 3 (by decide) (by decide) (by omega), goodF_num 5002 st (by decide) (by decide) (by omega), goodF_num 5003 en (by decide) (by decide) (by omega), goodF_num 5004 rt (by decide) (by decide) (by omega), fun _ h => absurd h List.not_mem_nil⟩) (by rw [eL]; show List.Nodup [35, 11, 1, 55, 54, 38, 44, 5001, 5002, 5003, 5004]; decide) (by rw [eL]; simp) (by rw [eL]; rfl)
  have hv : ((formOf (askF ⟨1, i, ⟨#[]⟩, ac, sy, sd, q, p, 3, st, en, rt, 0, []⟩)).vals 35).getD ⟨#[]⟩ = ⟨#[68]⟩ := by rw [eL]; rfl
  generalize hF0 : formOf (askF ⟨1, i, ⟨#[]⟩, ac, sy, sd, q, p, 3, st, en, rt, 0, []⟩) = F0 at *
  have h0e : F0.e = 0 := by rw [← hF0]; rfl
  have hx1 : F0.vals 11 = some (i) := by rw [← hF0, eL]; rfl
  have hx2 : F0.vals 1 = some (ac) := by rw [← hF0, eL]; rfl
  have hx3 : F0.vals 55 = some (sy) := by rw [← hF0, eL]; rfl
  have hx4 : F0.vals 54 = some (digitsB sd) := by rw [← hF0, eL]; rfl
  have hx5 : F0.vals 38 = some (digitsB q) := by rw [← hF0, eL]; rfl
  have hx6 : F0.vals 44 = some (digitsB p) := by rw [← hF0, eL]; rfl
  have hx7 : F0.vals 5001 = some (digitsB 3) := by rw [← hF0, eL]; rfl
  have hx8 : F0.vals 5002 = some (digitsB st) := by rw [← hF0, eL]; rfl
  have hx9 : F0.vals 5003 = some (digitsB en) := by rw [← hF0, eL]; rfl
  have hx10 : F0.vals 5004 = some (digitsB rt) := by rw [← hF0, eL]; rfl
  obtain ⟨G0, hG0⟩ : ∃ G, F0.mark 35 = G := ⟨_, rfl⟩
  have ge0 : G0.e = 0 := by rw [← hG0]; exact h0e
  have gv0 : G0.vals = F0.vals := by rw [← hG0]; exact rfl
  have go0 : G0.order = F0.order := by rw [← hG0]; exact rfl
  have ga0 : ∀ x, G0.asked x = if x = 35 then true else F0.asked x := by rw [← hG0]; intro x; rfl
  have E1 := ask_name_ok (F := G0) (t := 11) ge0 (by rw [gv0]; exact hx1) n_i
  obtain ⟨G1, hG1⟩ : ∃ G, G0.mark 11 = G := ⟨_, rfl⟩
  rw [hG1] at E1
  have ge1 : G1.e = 0 := by rw [← hG1]; exact ge0
  have gv1 : G1.vals = F0.vals := by rw [← hG1]; exact gv0
  have go1 : G1.order = F0.order := by rw [← hG1]; exact go0
  have ga1 : ∀ x, G1.asked x = if x = 11 then true else G0.asked x := by rw [← hG1]; intro x; rfl
  have E2 := ask_name_ok (F := G1) (t := 1) ge1 (by rw [gv1]; exact hx2) n_ac
  obtain ⟨G2, hG2⟩ : ∃ G, G1.mark 1 = G := ⟨_, rfl⟩
  rw [hG2] at E2
  have ge2 : G2.e = 0 := by rw [← hG2]; exact ge1
  have gv2 : G2.vals = F0.vals := by rw [← hG2]; exact gv1
  have go2 : G2.order = F0.order := by rw [← hG2]; exact go1
  have ga2 : ∀ x, G2.asked x = if x = 1 then true else G1.asked x := by rw [← hG2]; intro x; rfl
  have E3 := ask_name_ok (F := G2) (t := 55) ge2 (by rw [gv2]; exact hx3) n_sy
  obtain ⟨G3, hG3⟩ : ∃ G, G2.mark 55 = G := ⟨_, rfl⟩
  rw [hG3] at E3
  have ge3 : G3.e = 0 := by rw [← hG3]; exact ge2
  have gv3 : G3.vals = F0.vals := by rw [← hG3]; exact gv2
  have go3 : G3.order = F0.order := by rw [← hG3]; exact go2
  have ga3 : ∀ x, G3.asked x = if x = 55 then true else G2.asked x := by rw [← hG3]; intro x; rfl
  have E4 := ask_int_ok (F := G3) (t := 54) (lo := 1) (hi := 2) ge3 (by rw [gv3]; exact hx4) (by omega) (by omega) (by omega) (by omega)
  obtain ⟨G4, hG4⟩ : ∃ G, G3.mark 54 = G := ⟨_, rfl⟩
  rw [hG4] at E4
  have ge4 : G4.e = 0 := by rw [← hG4]; exact ge3
  have gv4 : G4.vals = F0.vals := by rw [← hG4]; exact gv3
  have go4 : G4.order = F0.order := by rw [← hG4]; exact go3
  have ga4 : ∀ x, G4.asked x = if x = 54 then true else G3.asked x := by rw [← hG4]; intro x; rfl
  have E5 := ask_int_ok (F := G4) (t := 38) (lo := 1) (hi := 1099511627776) ge4 (by rw [gv4]; exact hx5) (by omega) (by omega) (by omega) (by omega)
  obtain ⟨G5, hG5⟩ : ∃ G, G4.mark 38 = G := ⟨_, rfl⟩
  rw [hG5] at E5
  have ge5 : G5.e = 0 := by rw [← hG5]; exact ge4
  have gv5 : G5.vals = F0.vals := by rw [← hG5]; exact gv4
  have go5 : G5.order = F0.order := by rw [← hG5]; exact go4
  have ga5 : ∀ x, G5.asked x = if x = 38 then true else G4.asked x := by rw [← hG5]; intro x; rfl
  have E6 := ask_int_ok (F := G5) (t := 44) (lo := 1) (hi := 1099511627776) ge5 (by rw [gv5]; exact hx6) (by omega) (by omega) (by omega) (by omega)
  obtain ⟨G6, hG6⟩ : ∃ G, G5.mark 44 = G := ⟨_, rfl⟩
  rw [hG6] at E6
  have ge6 : G6.e = 0 := by rw [← hG6]; exact ge5
  have gv6 : G6.vals = F0.vals := by rw [← hG6]; exact gv5
  have go6 : G6.order = F0.order := by rw [← hG6]; exact go5
  have ga6 : ∀ x, G6.asked x = if x = 44 then true else G5.asked x := by rw [← hG6]; intro x; rfl
  have E7 := ask_int_ok (F := G6) (t := 5001) (lo := 1) (hi := 4) ge6 (by rw [gv6]; exact hx7) (by omega) (by omega) (by omega) (by omega)
  obtain ⟨G7, hG7⟩ : ∃ G, G6.mark 5001 = G := ⟨_, rfl⟩
  rw [hG7] at E7
  have ge7 : G7.e = 0 := by rw [← hG7]; exact ge6
  have gv7 : G7.vals = F0.vals := by rw [← hG7]; exact gv6
  have go7 : G7.order = F0.order := by rw [← hG7]; exact go6
  have ga7 : ∀ x, G7.asked x = if x = 5001 then true else G6.asked x := by rw [← hG7]; intro x; rfl
  have E8 := ask_int_ok (F := G7) (t := 5002) (lo := 0) (hi := 1099511627776) ge7 (by rw [gv7]; exact hx8) (by omega) (by omega) (by omega) (by omega)
  obtain ⟨G8, hG8⟩ : ∃ G, G7.mark 5002 = G := ⟨_, rfl⟩
  rw [hG8] at E8
  have ge8 : G8.e = 0 := by rw [← hG8]; exact ge7
  have gv8 : G8.vals = F0.vals := by rw [← hG8]; exact gv7
  have go8 : G8.order = F0.order := by rw [← hG8]; exact go7
  have ga8 : ∀ x, G8.asked x = if x = 5002 then true else G7.asked x := by rw [← hG8]; intro x; rfl
  have E9 := ask_int_ok (F := G8) (t := 5003) (lo := 0) (hi := 1099511627776) ge8 (by rw [gv8]; exact hx9) (by omega) (by omega) (by omega) (by omega)
  obtain ⟨G9, hG9⟩ : ∃ G, G8.mark 5003 = G := ⟨_, rfl⟩
  rw [hG9] at E9
  have ge9 : G9.e = 0 := by rw [← hG9]; exact ge8
  have gv9 : G9.vals = F0.vals := by rw [← hG9]; exact gv8
  have go9 : G9.order = F0.order := by rw [← hG9]; exact go8
  have ga9 : ∀ x, G9.asked x = if x = 5003 then true else G8.asked x := by rw [← hG9]; intro x; rfl
  have E10 := ask_int_ok (F := G9) (t := 5004) (lo := 1) (hi := 10000) ge9 (by rw [gv9]; exact hx10) (by omega) (by omega) (by omega) (by omega)
  obtain ⟨G10, hG10⟩ : ∃ G, G9.mark 5004 = G := ⟨_, rfl⟩
  rw [hG10] at E10
  have ge10 : G10.e = 0 := by rw [← hG10]; exact ge9
  have gv10 : G10.vals = F0.vals := by rw [← hG10]; exact gv9
  have go10 : G10.order = F0.order := by rw [← hG10]; exact go9
  have ga10 : ∀ x, G10.asked x = if x = 5004 then true else G9.asked x := by rw [← hG10]; intro x; rfl
  have ha : asksT askNew G0 = ([.s i, .s ac, .s sy, .n sd, .n q, .n p, .n 3, .n st, .n en], G9) := by
    rw [show askNew = [.name 11, .name 1, .name 55, .int 54 1 2, .int 38 1 1099511627776, .int 44 1 1099511627776, .int 5001 1 4, .int 5002 0 1099511627776, .int 5003 0 1099511627776] from rfl, asksT_name E1, asksT_name E2, asksT_name E3, asksT_int E4, asksT_int E5, asksT_int E6, asksT_int E7, asksT_int E8, asksT_int E9]; rfl
  have hta : takeA 1 (F0.mark 35) = (⟨1, i, ⟨#[]⟩, ac, sy, sd, q, p, 3, st, en, rt, 0, []⟩, G10) := by
    rw [hG0]
    unfold takeA
    rw [if_pos rfl, ha]
    show (askNewOf [.s i, .s ac, .s sy, .n sd, .n q, .n p, .n 3, .n st, .n en] (asksT (algSch 3) G9).1, (asksT (algSch 3) G9).2) = _
    rw [show algSch 3 = [.int 5004 1 10000] from rfl, asksT_int E10]
    rfl
  have hd : (doneL G10).2 = 0 := by
    have ho : G10.order = [35, 11, 1, 55, 54, 38, 44, 5001, 5002, 5003, 5004] := by rw [go10, ← hF0, eL]; rfl
    rw [doneL_ok ge10]
    rw [ho]
    refine spareL_all_a _ _ ?_
    simp only [List.forall_mem_cons]
    exact ⟨by rw [ga10, if_neg (by decide), ga9, if_neg (by decide), ga8, if_neg (by decide), ga7, if_neg (by decide), ga6, if_neg (by decide), ga5, if_neg (by decide), ga4, if_neg (by decide), ga3, if_neg (by decide), ga2, if_neg (by decide), ga1, if_neg (by decide), ga0, if_pos rfl], by rw [ga10, if_neg (by decide), ga9, if_neg (by decide), ga8, if_neg (by decide), ga7, if_neg (by decide), ga6, if_neg (by decide), ga5, if_neg (by decide), ga4, if_neg (by decide), ga3, if_neg (by decide), ga2, if_neg (by decide), ga1, if_pos rfl], by rw [ga10, if_neg (by decide), ga9, if_neg (by decide), ga8, if_neg (by decide), ga7, if_neg (by decide), ga6, if_neg (by decide), ga5, if_neg (by decide), ga4, if_neg (by decide), ga3, if_neg (by decide), ga2, if_pos rfl], by rw [ga10, if_neg (by decide), ga9, if_neg (by decide), ga8, if_neg (by decide), ga7, if_neg (by decide), ga6, if_neg (by decide), ga5, if_neg (by decide), ga4, if_neg (by decide), ga3, if_pos rfl], by rw [ga10, if_neg (by decide), ga9, if_neg (by decide), ga8, if_neg (by decide), ga7, if_neg (by decide), ga6, if_neg (by decide), ga5, if_neg (by decide), ga4, if_pos rfl], by rw [ga10, if_neg (by decide), ga9, if_neg (by decide), ga8, if_neg (by decide), ga7, if_neg (by decide), ga6, if_neg (by decide), ga5, if_pos rfl], by rw [ga10, if_neg (by decide), ga9, if_neg (by decide), ga8, if_neg (by decide), ga7, if_neg (by decide), ga6, if_pos rfl], by rw [ga10, if_neg (by decide), ga9, if_neg (by decide), ga8, if_neg (by decide), ga7, if_pos rfl], by rw [ga10, if_neg (by decide), ga9, if_neg (by decide), ga8, if_pos rfl], by rw [ga10, if_neg (by decide), ga9, if_pos rfl], by rw [ga10, if_pos rfl], fun _ h => absurd h List.not_mem_nil⟩
  exact ⟨hf, askD_good (k := 1) hr hv rfl (by decide) hta hd (by unfold wholeA; rw [if_pos rfl, if_pos h_sp, if_neg (by show ¬ (3 : Int) = 2; decide)])⟩
set_option maxRecDepth 100000 in
theorem ask_ok_1_4 (ac sy i : ByteArray) (sd q p st en sh : Int) (n_i : nameL i.data.toList 0 = true) (n_ac : nameL ac.data.toList 0 = true) (n_sy : nameL sy.data.toList 0 = true) (h_sd : 1 ≤ sd ∧ sd ≤ 2) (h_q : 1 ≤ q ∧ q ≤ 1099511627776) (h_p : 1 ≤ p ∧ p ≤ 1099511627776) (h_st : 0 ≤ st ∧ st ≤ 1099511627776) (h_en : 0 ≤ en ∧ en ≤ 1099511627776) (h_sp : 1 ≤ wrap64 (en - st) ∧ wrap64 (en - st) ≤ 1073741824) (h_sh : 1 ≤ sh ∧ sh ≤ 1099511627776) : AskOk ⟨1, i, ⟨#[]⟩, ac, sy, sd, q, p, 4, st, en, 0, sh, []⟩ := by
  have eL : askF ⟨1, i, ⟨#[]⟩, ac, sy, sd, q, p, 4, st, en, 0, sh, []⟩ = [⟨35, ⟨#[68]⟩⟩, ⟨11, i⟩, ⟨1, ac⟩, ⟨55, sy⟩, ⟨54, digitsB sd⟩, ⟨38, digitsB q⟩, ⟨44, digitsB p⟩, ⟨5001, digitsB 4⟩, ⟨5002, digitsB st⟩, ⟨5003, digitsB en⟩, ⟨5005, digitsB sh⟩] := rfl
  obtain ⟨hf, hr⟩ := read_of_a (askF ⟨1, i, ⟨#[]⟩, ac, sy, sd, q, p, 4, st, en, 0, sh, []⟩) (by rw [eL]; simp) (by
    rw [eL]
    simp only [List.map_cons, List.map_nil, pairF, List.forall_mem_cons]
    exact ⟨goodF_one 35 68 (by decide) (by decide) (by decide) (by decide), goodF_name 11 i (by decide) (by decide) n_i, goodF_name 1 ac (by decide) (by decide) n_ac, goodF_name 55 sy (by decide) (by decide) n_sy, goodF_num 54 sd (by decide) (by decide) (by omega), goodF_num 38 q (by decide) (by decide) (by omega), goodF_num 44 p (by decide) (by decide) (by omega), goodF_num 5001 4 (by decide) (by decide) (by omega), goodF_num 5002 st (by decide) (by decide) (by omega), goodF_num 5003 en (by decide) (by decide) (by omega), goodF_num 5005 sh (by decide) (by decide) (by omega), fun _ h => absurd h List.not_mem_nil⟩) (by rw [eL]; show List.Nodup [35, 11, 1, 55, 54, 38, 44, 5001, 5002, 5003, 5005]; decide) (by rw [eL]; simp) (by rw [eL]; rfl)
  have hv : ((formOf (askF ⟨1, i, ⟨#[]⟩, ac, sy, sd, q, p, 4, st, en, 0, sh, []⟩)).vals 35).getD ⟨#[]⟩ = ⟨#[68]⟩ := by rw [eL]; rfl
  generalize hF0 : formOf (askF ⟨1, i, ⟨#[]⟩, ac, sy, sd, q, p, 4, st, en, 0, sh, []⟩) = F0 at *
  have h0e : F0.e = 0 := by rw [← hF0]; rfl
  have hx1 : F0.vals 11 = some (i) := by rw [← hF0, eL]; rfl
  have hx2 : F0.vals 1 = some (ac) := by rw [← hF0, eL]; rfl
  have hx3 : F0.vals 55 = some (sy) := by rw [← hF0, eL]; rfl
  have hx4 : F0.vals 54 = some (digitsB sd) := by rw [← hF0, eL]; rfl
  have hx5 : F0.vals 38 = some (digitsB q) := by rw [← hF0, eL]; rfl
  have hx6 : F0.vals 44 = some (digitsB p) := by rw [← hF0, eL]; rfl
  have hx7 : F0.vals 5001 = some (digitsB 4) := by rw [← hF0, eL]; rfl
  have hx8 : F0.vals 5002 = some (digitsB st) := by rw [← hF0, eL]; rfl
  have hx9 : F0.vals 5003 = some (digitsB en) := by rw [← hF0, eL]; rfl
  have hx10 : F0.vals 5005 = some (digitsB sh) := by rw [← hF0, eL]; rfl
  obtain ⟨G0, hG0⟩ : ∃ G, F0.mark 35 = G := ⟨_, rfl⟩
  have ge0 : G0.e = 0 := by rw [← hG0]; exact h0e
  have gv0 : G0.vals = F0.vals := by rw [← hG0]; exact rfl
  have go0 : G0.order = F0.order := by rw [← hG0]; exact rfl
  have ga0 : ∀ x, G0.asked x = if x = 35 then true else F0.asked x := by rw [← hG0]; intro x; rfl
  have E1 := ask_name_ok (F := G0) (t := 11) ge0 (by rw [gv0]; exact hx1) n_i
  obtain ⟨G1, hG1⟩ : ∃ G, G0.mark 11 = G := ⟨_, rfl⟩
  rw [hG1] at E1
  have ge1 : G1.e = 0 := by rw [← hG1]; exact ge0
  have gv1 : G1.vals = F0.vals := by rw [← hG1]; exact gv0
  have go1 : G1.order = F0.order := by rw [← hG1]; exact go0
  have ga1 : ∀ x, G1.asked x = if x = 11 then true else G0.asked x := by rw [← hG1]; intro x; rfl
  have E2 := ask_name_ok (F := G1) (t := 1) ge1 (by rw [gv1]; exact hx2) n_ac
  obtain ⟨G2, hG2⟩ : ∃ G, G1.mark 1 = G := ⟨_, rfl⟩
  rw [hG2] at E2
  have ge2 : G2.e = 0 := by rw [← hG2]; exact ge1
  have gv2 : G2.vals = F0.vals := by rw [← hG2]; exact gv1
  have go2 : G2.order = F0.order := by rw [← hG2]; exact go1
  have ga2 : ∀ x, G2.asked x = if x = 1 then true else G1.asked x := by rw [← hG2]; intro x; rfl
  have E3 := ask_name_ok (F := G2) (t := 55) ge2 (by rw [gv2]; exact hx3) n_sy
  obtain ⟨G3, hG3⟩ : ∃ G, G2.mark 55 = G := ⟨_, rfl⟩
  rw [hG3] at E3
  have ge3 : G3.e = 0 := by rw [← hG3]; exact ge2
  have gv3 : G3.vals = F0.vals := by rw [← hG3]; exact gv2
  have go3 : G3.order = F0.order := by rw [← hG3]; exact go2
  have ga3 : ∀ x, G3.asked x = if x = 55 then true else G2.asked x := by rw [← hG3]; intro x; rfl
  have E4 := ask_int_ok (F := G3) (t := 54) (lo := 1) (hi := 2) ge3 (by rw [gv3]; exact hx4) (by omega) (by omega) (by omega) (by omega)
  obtain ⟨G4, hG4⟩ : ∃ G, G3.mark 54 = G := ⟨_, rfl⟩
  rw [hG4] at E4
  have ge4 : G4.e = 0 := by rw [← hG4]; exact ge3
  have gv4 : G4.vals = F0.vals := by rw [← hG4]; exact gv3
  have go4 : G4.order = F0.order := by rw [← hG4]; exact go3
  have ga4 : ∀ x, G4.asked x = if x = 54 then true else G3.asked x := by rw [← hG4]; intro x; rfl
  have E5 := ask_int_ok (F := G4) (t := 38) (lo := 1) (hi := 1099511627776) ge4 (by rw [gv4]; exact hx5) (by omega) (by omega) (by omega) (by omega)
  obtain ⟨G5, hG5⟩ : ∃ G, G4.mark 38 = G := ⟨_, rfl⟩
  rw [hG5] at E5
  have ge5 : G5.e = 0 := by rw [← hG5]; exact ge4
  have gv5 : G5.vals = F0.vals := by rw [← hG5]; exact gv4
  have go5 : G5.order = F0.order := by rw [← hG5]; exact go4
  have ga5 : ∀ x, G5.asked x = if x = 38 then true else G4.asked x := by rw [← hG5]; intro x; rfl
  have E6 := ask_int_ok (F := G5) (t := 44) (lo := 1) (hi := 1099511627776) ge5 (by rw [gv5]; exact hx6) (by omega) (by omega) (by omega) (by omega)
  obtain ⟨G6, hG6⟩ : ∃ G, G5.mark 44 = G := ⟨_, rfl⟩
  rw [hG6] at E6
  have ge6 : G6.e = 0 := by rw [← hG6]; exact ge5
  have gv6 : G6.vals = F0.vals := by rw [← hG6]; exact gv5
  have go6 : G6.order = F0.order := by rw [← hG6]; exact go5
  have ga6 : ∀ x, G6.asked x = if x = 44 then true else G5.asked x := by rw [← hG6]; intro x; rfl
  have E7 := ask_int_ok (F := G6) (t := 5001) (lo := 1) (hi := 4) ge6 (by rw [gv6]; exact hx7) (by omega) (by omega) (by omega) (by omega)
  obtain ⟨G7, hG7⟩ : ∃ G, G6.mark 5001 = G := ⟨_, rfl⟩
  rw [hG7] at E7
  have ge7 : G7.e = 0 := by rw [← hG7]; exact ge6
  have gv7 : G7.vals = F0.vals := by rw [← hG7]; exact gv6
  have go7 : G7.order = F0.order := by rw [← hG7]; exact go6
  have ga7 : ∀ x, G7.asked x = if x = 5001 then true else G6.asked x := by rw [← hG7]; intro x; rfl
  have E8 := ask_int_ok (F := G7) (t := 5002) (lo := 0) (hi := 1099511627776) ge7 (by rw [gv7]; exact hx8) (by omega) (by omega) (by omega) (by omega)
  obtain ⟨G8, hG8⟩ : ∃ G, G7.mark 5002 = G := ⟨_, rfl⟩
  rw [hG8] at E8
  have ge8 : G8.e = 0 := by rw [← hG8]; exact ge7
  have gv8 : G8.vals = F0.vals := by rw [← hG8]; exact gv7
  have go8 : G8.order = F0.order := by rw [← hG8]; exact go7
  have ga8 : ∀ x, G8.asked x = if x = 5002 then true else G7.asked x := by rw [← hG8]; intro x; rfl
  have E9 := ask_int_ok (F := G8) (t := 5003) (lo := 0) (hi := 1099511627776) ge8 (by rw [gv8]; exact hx9) (by omega) (by omega) (by omega) (by omega)
  obtain ⟨G9, hG9⟩ : ∃ G, G8.mark 5003 = G := ⟨_, rfl⟩
  rw [hG9] at E9
  have ge9 : G9.e = 0 := by rw [← hG9]; exact ge8
  have gv9 : G9.vals = F0.vals := by rw [← hG9]; exact gv8
  have go9 : G9.order = F0.order := by rw [← hG9]; exact go8
  have ga9 : ∀ x, G9.asked x = if x = 5003 then true else G8.asked x := by rw [← hG9]; intro x; rfl
  have E10 := ask_int_ok (F := G9) (t := 5005) (lo := 1) (hi := 1099511627776) ge9 (by rw [gv9]; exact hx10) (by omega) (by omega) (by omega) (by omega)
  obtain ⟨G10, hG10⟩ : ∃ G, G9.mark 5005 = G := ⟨_, rfl⟩
  rw [hG10] at E10
  have ge10 : G10.e = 0 := by rw [← hG10]; exact ge9
  have gv10 : G10.vals = F0.vals := by rw [← hG10]; exact gv9
  have go10 : G10.order = F0.order := by rw [← hG10]; exact go9
  have ga10 : ∀ x, G10.asked x = if x = 5005 then true else G9.asked x := by rw [← hG10]; intro x; rfl
  have ha : asksT askNew G0 = ([.s i, .s ac, .s sy, .n sd, .n q, .n p, .n 4, .n st, .n en], G9) := by
    rw [show askNew = [.name 11, .name 1, .name 55, .int 54 1 2, .int 38 1 1099511627776, .int 44 1 1099511627776, .int 5001 1 4, .int 5002 0 1099511627776, .int 5003 0 1099511627776] from rfl, asksT_name E1, asksT_name E2, asksT_name E3, asksT_int E4, asksT_int E5, asksT_int E6, asksT_int E7, asksT_int E8, asksT_int E9]; rfl
  have hta : takeA 1 (F0.mark 35) = (⟨1, i, ⟨#[]⟩, ac, sy, sd, q, p, 4, st, en, 0, sh, []⟩, G10) := by
    rw [hG0]
    unfold takeA
    rw [if_pos rfl, ha]
    show (askNewOf [.s i, .s ac, .s sy, .n sd, .n q, .n p, .n 4, .n st, .n en] (asksT (algSch 4) G9).1, (asksT (algSch 4) G9).2) = _
    rw [show algSch 4 = [.int 5005 1 1099511627776] from rfl, asksT_int E10]
    rfl
  have hd : (doneL G10).2 = 0 := by
    have ho : G10.order = [35, 11, 1, 55, 54, 38, 44, 5001, 5002, 5003, 5005] := by rw [go10, ← hF0, eL]; rfl
    rw [doneL_ok ge10]
    rw [ho]
    refine spareL_all_a _ _ ?_
    simp only [List.forall_mem_cons]
    exact ⟨by rw [ga10, if_neg (by decide), ga9, if_neg (by decide), ga8, if_neg (by decide), ga7, if_neg (by decide), ga6, if_neg (by decide), ga5, if_neg (by decide), ga4, if_neg (by decide), ga3, if_neg (by decide), ga2, if_neg (by decide), ga1, if_neg (by decide), ga0, if_pos rfl], by rw [ga10, if_neg (by decide), ga9, if_neg (by decide), ga8, if_neg (by decide), ga7, if_neg (by decide), ga6, if_neg (by decide), ga5, if_neg (by decide), ga4, if_neg (by decide), ga3, if_neg (by decide), ga2, if_neg (by decide), ga1, if_pos rfl], by rw [ga10, if_neg (by decide), ga9, if_neg (by decide), ga8, if_neg (by decide), ga7, if_neg (by decide), ga6, if_neg (by decide), ga5, if_neg (by decide), ga4, if_neg (by decide), ga3, if_neg (by decide), ga2, if_pos rfl], by rw [ga10, if_neg (by decide), ga9, if_neg (by decide), ga8, if_neg (by decide), ga7, if_neg (by decide), ga6, if_neg (by decide), ga5, if_neg (by decide), ga4, if_neg (by decide), ga3, if_pos rfl], by rw [ga10, if_neg (by decide), ga9, if_neg (by decide), ga8, if_neg (by decide), ga7, if_neg (by decide), ga6, if_neg (by decide), ga5, if_neg (by decide), ga4, if_pos rfl], by rw [ga10, if_neg (by decide), ga9, if_neg (by decide), ga8, if_neg (by decide), ga7, if_neg (by decide), ga6, if_neg (by decide), ga5, if_pos rfl], by rw [ga10, if_neg (by decide), ga9, if_neg (by decide), ga8, if_neg (by decide), ga7, if_neg (by decide), ga6, if_pos rfl], by rw [ga10, if_neg (by decide), ga9, if_neg (by decide), ga8, if_neg (by decide), ga7, if_pos rfl], by rw [ga10, if_neg (by decide), ga9, if_neg (by decide), ga8, if_pos rfl], by rw [ga10, if_neg (by decide), ga9, if_pos rfl], by rw [ga10, if_pos rfl], fun _ h => absurd h List.not_mem_nil⟩
  exact ⟨hf, askD_good (k := 1) hr hv rfl (by decide) hta hd (by unfold wholeA; rw [if_pos rfl, if_pos h_sp, if_neg (by show ¬ (4 : Int) = 2; decide)])⟩
set_option maxRecDepth 100000 in
theorem ask_ok_3 (i tg : ByteArray) (q p en : Int) (n_i : nameL i.data.toList 0 = true) (n_tg : nameL tg.data.toList 0 = true) (h_q : 1 ≤ q ∧ q ≤ 1099511627776) (h_p : 1 ≤ p ∧ p ≤ 1099511627776) (h_en : 0 ≤ en ∧ en ≤ 1099511627776) : AskOk ⟨3, i, tg, ⟨#[]⟩, ⟨#[]⟩, 0, q, p, 0, 0, en, 0, 0, []⟩ := by
  have eL : askF ⟨3, i, tg, ⟨#[]⟩, ⟨#[]⟩, 0, q, p, 0, 0, en, 0, 0, []⟩ = [⟨35, ⟨#[71]⟩⟩, ⟨11, i⟩, ⟨41, tg⟩, ⟨38, digitsB q⟩, ⟨44, digitsB p⟩, ⟨5003, digitsB en⟩] := rfl
  obtain ⟨hf, hr⟩ := read_of_a (askF ⟨3, i, tg, ⟨#[]⟩, ⟨#[]⟩, 0, q, p, 0, 0, en, 0, 0, []⟩) (by rw [eL]; simp) (by
    rw [eL]
    simp only [List.map_cons, List.map_nil, pairF, List.forall_mem_cons]
    exact ⟨goodF_one 35 71 (by decide) (by decide) (by decide) (by decide), goodF_name 11 i (by decide) (by decide) n_i, goodF_name 41 tg (by decide) (by decide) n_tg, goodF_num 38 q (by decide) (by decide) (by omega), goodF_num 44 p (by decide) (by decide) (by omega), goodF_num 5003 en (by decide) (by decide) (by omega), fun _ h => absurd h List.not_mem_nil⟩) (by rw [eL]; show List.Nodup [35, 11, 41, 38, 44, 5003]; decide) (by rw [eL]; simp) (by rw [eL]; rfl)
  have hv : ((formOf (askF ⟨3, i, tg, ⟨#[]⟩, ⟨#[]⟩, 0, q, p, 0, 0, en, 0, 0, []⟩)).vals 35).getD ⟨#[]⟩ = ⟨#[71]⟩ := by rw [eL]; rfl
  generalize hF0 : formOf (askF ⟨3, i, tg, ⟨#[]⟩, ⟨#[]⟩, 0, q, p, 0, 0, en, 0, 0, []⟩) = F0 at *
  have h0e : F0.e = 0 := by rw [← hF0]; rfl
  have hx1 : F0.vals 11 = some (i) := by rw [← hF0, eL]; rfl
  have hx2 : F0.vals 41 = some (tg) := by rw [← hF0, eL]; rfl
  have hx3 : F0.vals 38 = some (digitsB q) := by rw [← hF0, eL]; rfl
  have hx4 : F0.vals 44 = some (digitsB p) := by rw [← hF0, eL]; rfl
  have hx5 : F0.vals 5003 = some (digitsB en) := by rw [← hF0, eL]; rfl
  obtain ⟨G0, hG0⟩ : ∃ G, F0.mark 35 = G := ⟨_, rfl⟩
  have ge0 : G0.e = 0 := by rw [← hG0]; exact h0e
  have gv0 : G0.vals = F0.vals := by rw [← hG0]; exact rfl
  have go0 : G0.order = F0.order := by rw [← hG0]; exact rfl
  have ga0 : ∀ x, G0.asked x = if x = 35 then true else F0.asked x := by rw [← hG0]; intro x; rfl
  have E1 := ask_name_ok (F := G0) (t := 11) ge0 (by rw [gv0]; exact hx1) n_i
  obtain ⟨G1, hG1⟩ : ∃ G, G0.mark 11 = G := ⟨_, rfl⟩
  rw [hG1] at E1
  have ge1 : G1.e = 0 := by rw [← hG1]; exact ge0
  have gv1 : G1.vals = F0.vals := by rw [← hG1]; exact gv0
  have go1 : G1.order = F0.order := by rw [← hG1]; exact go0
  have ga1 : ∀ x, G1.asked x = if x = 11 then true else G0.asked x := by rw [← hG1]; intro x; rfl
  have E2 := ask_name_ok (F := G1) (t := 41) ge1 (by rw [gv1]; exact hx2) n_tg
  obtain ⟨G2, hG2⟩ : ∃ G, G1.mark 41 = G := ⟨_, rfl⟩
  rw [hG2] at E2
  have ge2 : G2.e = 0 := by rw [← hG2]; exact ge1
  have gv2 : G2.vals = F0.vals := by rw [← hG2]; exact gv1
  have go2 : G2.order = F0.order := by rw [← hG2]; exact go1
  have ga2 : ∀ x, G2.asked x = if x = 41 then true else G1.asked x := by rw [← hG2]; intro x; rfl
  have E3 := ask_int_ok (F := G2) (t := 38) (lo := 1) (hi := 1099511627776) ge2 (by rw [gv2]; exact hx3) (by omega) (by omega) (by omega) (by omega)
  obtain ⟨G3, hG3⟩ : ∃ G, G2.mark 38 = G := ⟨_, rfl⟩
  rw [hG3] at E3
  have ge3 : G3.e = 0 := by rw [← hG3]; exact ge2
  have gv3 : G3.vals = F0.vals := by rw [← hG3]; exact gv2
  have go3 : G3.order = F0.order := by rw [← hG3]; exact go2
  have ga3 : ∀ x, G3.asked x = if x = 38 then true else G2.asked x := by rw [← hG3]; intro x; rfl
  have E4 := ask_int_ok (F := G3) (t := 44) (lo := 1) (hi := 1099511627776) ge3 (by rw [gv3]; exact hx4) (by omega) (by omega) (by omega) (by omega)
  obtain ⟨G4, hG4⟩ : ∃ G, G3.mark 44 = G := ⟨_, rfl⟩
  rw [hG4] at E4
  have ge4 : G4.e = 0 := by rw [← hG4]; exact ge3
  have gv4 : G4.vals = F0.vals := by rw [← hG4]; exact gv3
  have go4 : G4.order = F0.order := by rw [← hG4]; exact go3
  have ga4 : ∀ x, G4.asked x = if x = 44 then true else G3.asked x := by rw [← hG4]; intro x; rfl
  have E5 := ask_int_ok (F := G4) (t := 5003) (lo := 0) (hi := 1099511627776) ge4 (by rw [gv4]; exact hx5) (by omega) (by omega) (by omega) (by omega)
  obtain ⟨G5, hG5⟩ : ∃ G, G4.mark 5003 = G := ⟨_, rfl⟩
  rw [hG5] at E5
  have ge5 : G5.e = 0 := by rw [← hG5]; exact ge4
  have gv5 : G5.vals = F0.vals := by rw [← hG5]; exact gv4
  have go5 : G5.order = F0.order := by rw [← hG5]; exact go4
  have ga5 : ∀ x, G5.asked x = if x = 5003 then true else G4.asked x := by rw [← hG5]; intro x; rfl
  have hta : takeA 3 (F0.mark 35) = (⟨3, i, tg, ⟨#[]⟩, ⟨#[]⟩, 0, q, p, 0, 0, en, 0, 0, []⟩, G5) := by
    rw [hG0]
    unfold takeA
    rw [if_neg (by decide), if_pos rfl, show askAmend = [.name 11, .name 41, .int 38 1 1099511627776, .int 44 1 1099511627776, .int 5003 0 1099511627776] from rfl, asksT_name E1, asksT_name E2, asksT_int E3, asksT_int E4, asksT_int E5]
    rfl
  have hd : (doneL G5).2 = 0 := by
    have ho : G5.order = [35, 11, 41, 38, 44, 5003] := by rw [go5, ← hF0, eL]; rfl
    rw [doneL_ok ge5]
    rw [ho]
    refine spareL_all_a _ _ ?_
    simp only [List.forall_mem_cons]
    exact ⟨by rw [ga5, if_neg (by decide), ga4, if_neg (by decide), ga3, if_neg (by decide), ga2, if_neg (by decide), ga1, if_neg (by decide), ga0, if_pos rfl], by rw [ga5, if_neg (by decide), ga4, if_neg (by decide), ga3, if_neg (by decide), ga2, if_neg (by decide), ga1, if_pos rfl], by rw [ga5, if_neg (by decide), ga4, if_neg (by decide), ga3, if_neg (by decide), ga2, if_pos rfl], by rw [ga5, if_neg (by decide), ga4, if_neg (by decide), ga3, if_pos rfl], by rw [ga5, if_neg (by decide), ga4, if_pos rfl], by rw [ga5, if_pos rfl], fun _ h => absurd h List.not_mem_nil⟩
  exact ⟨hf, askD_good (k := 3) hr hv rfl (by decide) hta hd (by unfold wholeA; rw [if_neg (by show ¬ (3 : Int) = 1; decide)])⟩
set_option maxRecDepth 100000 in
theorem ask_ok_2 (i tg : ByteArray) (n_i : nameL i.data.toList 0 = true) (n_tg : nameL tg.data.toList 0 = true) : AskOk ⟨2, i, tg, ⟨#[]⟩, ⟨#[]⟩, 0, 0, 0, 0, 0, 0, 0, 0, []⟩ := by
  have eL : askF ⟨2, i, tg, ⟨#[]⟩, ⟨#[]⟩, 0, 0, 0, 0, 0, 0, 0, 0, []⟩ = [⟨35, ⟨#[70]⟩⟩, ⟨11, i⟩, ⟨41, tg⟩] := rfl
  obtain ⟨hf, hr⟩ := read_of_a (askF ⟨2, i, tg, ⟨#[]⟩, ⟨#[]⟩, 0, 0, 0, 0, 0, 0, 0, 0, []⟩) (by rw [eL]; simp) (by
    rw [eL]
    simp only [List.map_cons, List.map_nil, pairF, List.forall_mem_cons]
    exact ⟨goodF_one 35 70 (by decide) (by decide) (by decide) (by decide), goodF_name 11 i (by decide) (by decide) n_i, goodF_name 41 tg (by decide) (by decide) n_tg, fun _ h => absurd h List.not_mem_nil⟩) (by rw [eL]; show List.Nodup [35, 11, 41]; decide) (by rw [eL]; simp) (by rw [eL]; rfl)
  have hv : ((formOf (askF ⟨2, i, tg, ⟨#[]⟩, ⟨#[]⟩, 0, 0, 0, 0, 0, 0, 0, 0, []⟩)).vals 35).getD ⟨#[]⟩ = ⟨#[70]⟩ := by rw [eL]; rfl
  generalize hF0 : formOf (askF ⟨2, i, tg, ⟨#[]⟩, ⟨#[]⟩, 0, 0, 0, 0, 0, 0, 0, 0, []⟩) = F0 at *
  have h0e : F0.e = 0 := by rw [← hF0]; rfl
  have hx1 : F0.vals 11 = some (i) := by rw [← hF0, eL]; rfl
  have hx2 : F0.vals 41 = some (tg) := by rw [← hF0, eL]; rfl
  obtain ⟨G0, hG0⟩ : ∃ G, F0.mark 35 = G := ⟨_, rfl⟩
  have ge0 : G0.e = 0 := by rw [← hG0]; exact h0e
  have gv0 : G0.vals = F0.vals := by rw [← hG0]; exact rfl
  have go0 : G0.order = F0.order := by rw [← hG0]; exact rfl
  have ga0 : ∀ x, G0.asked x = if x = 35 then true else F0.asked x := by rw [← hG0]; intro x; rfl
  have E1 := ask_name_ok (F := G0) (t := 11) ge0 (by rw [gv0]; exact hx1) n_i
  obtain ⟨G1, hG1⟩ : ∃ G, G0.mark 11 = G := ⟨_, rfl⟩
  rw [hG1] at E1
  have ge1 : G1.e = 0 := by rw [← hG1]; exact ge0
  have gv1 : G1.vals = F0.vals := by rw [← hG1]; exact gv0
  have go1 : G1.order = F0.order := by rw [← hG1]; exact go0
  have ga1 : ∀ x, G1.asked x = if x = 11 then true else G0.asked x := by rw [← hG1]; intro x; rfl
  have E2 := ask_name_ok (F := G1) (t := 41) ge1 (by rw [gv1]; exact hx2) n_tg
  obtain ⟨G2, hG2⟩ : ∃ G, G1.mark 41 = G := ⟨_, rfl⟩
  rw [hG2] at E2
  have ge2 : G2.e = 0 := by rw [← hG2]; exact ge1
  have gv2 : G2.vals = F0.vals := by rw [← hG2]; exact gv1
  have go2 : G2.order = F0.order := by rw [← hG2]; exact go1
  have ga2 : ∀ x, G2.asked x = if x = 41 then true else G1.asked x := by rw [← hG2]; intro x; rfl
  have hta : takeA 2 (F0.mark 35) = (⟨2, i, tg, ⟨#[]⟩, ⟨#[]⟩, 0, 0, 0, 0, 0, 0, 0, 0, []⟩, G2) := by
    rw [hG0]
    unfold takeA
    rw [if_neg (by decide), if_neg (by decide), show askBare = [.name 11, .name 41] from rfl, asksT_name E1, asksT_name E2]
    rfl
  have hd : (doneL G2).2 = 0 := by
    have ho : G2.order = [35, 11, 41] := by rw [go2, ← hF0, eL]; rfl
    rw [doneL_ok ge2]
    rw [ho]
    refine spareL_all_a _ _ ?_
    simp only [List.forall_mem_cons]
    exact ⟨by rw [ga2, if_neg (by decide), ga1, if_neg (by decide), ga0, if_pos rfl], by rw [ga2, if_neg (by decide), ga1, if_pos rfl], by rw [ga2, if_pos rfl], fun _ h => absurd h List.not_mem_nil⟩
  exact ⟨hf, askD_good (k := 2) hr hv rfl (by decide) hta hd (by unfold wholeA; rw [if_neg (by show ¬ (2 : Int) = 1; decide)])⟩
set_option maxRecDepth 100000 in
theorem ask_ok_4 (i tg : ByteArray) (n_i : nameL i.data.toList 0 = true) (n_tg : nameL tg.data.toList 0 = true) : AskOk ⟨4, i, tg, ⟨#[]⟩, ⟨#[]⟩, 0, 0, 0, 0, 0, 0, 0, 0, []⟩ := by
  have eL : askF ⟨4, i, tg, ⟨#[]⟩, ⟨#[]⟩, 0, 0, 0, 0, 0, 0, 0, 0, []⟩ = [⟨35, ⟨#[85, 80]⟩⟩, ⟨11, i⟩, ⟨41, tg⟩] := rfl
  obtain ⟨hf, hr⟩ := read_of_a (askF ⟨4, i, tg, ⟨#[]⟩, ⟨#[]⟩, 0, 0, 0, 0, 0, 0, 0, 0, []⟩) (by rw [eL]; simp) (by
    rw [eL]
    simp only [List.map_cons, List.map_nil, pairF, List.forall_mem_cons]
    exact ⟨goodF_two 35 85 80 (by decide) (by decide) (by decide) (by decide) (by decide) (by decide), goodF_name 11 i (by decide) (by decide) n_i, goodF_name 41 tg (by decide) (by decide) n_tg, fun _ h => absurd h List.not_mem_nil⟩) (by rw [eL]; show List.Nodup [35, 11, 41]; decide) (by rw [eL]; simp) (by rw [eL]; rfl)
  have hv : ((formOf (askF ⟨4, i, tg, ⟨#[]⟩, ⟨#[]⟩, 0, 0, 0, 0, 0, 0, 0, 0, []⟩)).vals 35).getD ⟨#[]⟩ = ⟨#[85, 80]⟩ := by rw [eL]; rfl
  generalize hF0 : formOf (askF ⟨4, i, tg, ⟨#[]⟩, ⟨#[]⟩, 0, 0, 0, 0, 0, 0, 0, 0, []⟩) = F0 at *
  have h0e : F0.e = 0 := by rw [← hF0]; rfl
  have hx1 : F0.vals 11 = some (i) := by rw [← hF0, eL]; rfl
  have hx2 : F0.vals 41 = some (tg) := by rw [← hF0, eL]; rfl
  obtain ⟨G0, hG0⟩ : ∃ G, F0.mark 35 = G := ⟨_, rfl⟩
  have ge0 : G0.e = 0 := by rw [← hG0]; exact h0e
  have gv0 : G0.vals = F0.vals := by rw [← hG0]; exact rfl
  have go0 : G0.order = F0.order := by rw [← hG0]; exact rfl
  have ga0 : ∀ x, G0.asked x = if x = 35 then true else F0.asked x := by rw [← hG0]; intro x; rfl
  have E1 := ask_name_ok (F := G0) (t := 11) ge0 (by rw [gv0]; exact hx1) n_i
  obtain ⟨G1, hG1⟩ : ∃ G, G0.mark 11 = G := ⟨_, rfl⟩
  rw [hG1] at E1
  have ge1 : G1.e = 0 := by rw [← hG1]; exact ge0
  have gv1 : G1.vals = F0.vals := by rw [← hG1]; exact gv0
  have go1 : G1.order = F0.order := by rw [← hG1]; exact go0
  have ga1 : ∀ x, G1.asked x = if x = 11 then true else G0.asked x := by rw [← hG1]; intro x; rfl
  have E2 := ask_name_ok (F := G1) (t := 41) ge1 (by rw [gv1]; exact hx2) n_tg
  obtain ⟨G2, hG2⟩ : ∃ G, G1.mark 41 = G := ⟨_, rfl⟩
  rw [hG2] at E2
  have ge2 : G2.e = 0 := by rw [← hG2]; exact ge1
  have gv2 : G2.vals = F0.vals := by rw [← hG2]; exact gv1
  have go2 : G2.order = F0.order := by rw [← hG2]; exact go1
  have ga2 : ∀ x, G2.asked x = if x = 41 then true else G1.asked x := by rw [← hG2]; intro x; rfl
  have hta : takeA 4 (F0.mark 35) = (⟨4, i, tg, ⟨#[]⟩, ⟨#[]⟩, 0, 0, 0, 0, 0, 0, 0, 0, []⟩, G2) := by
    rw [hG0]
    unfold takeA
    rw [if_neg (by decide), if_neg (by decide), show askBare = [.name 11, .name 41] from rfl, asksT_name E1, asksT_name E2]
    rfl
  have hd : (doneL G2).2 = 0 := by
    have ho : G2.order = [35, 11, 41] := by rw [go2, ← hF0, eL]; rfl
    rw [doneL_ok ge2]
    rw [ho]
    refine spareL_all_a _ _ ?_
    simp only [List.forall_mem_cons]
    exact ⟨by rw [ga2, if_neg (by decide), ga1, if_neg (by decide), ga0, if_pos rfl], by rw [ga2, if_neg (by decide), ga1, if_pos rfl], by rw [ga2, if_pos rfl], fun _ h => absurd h List.not_mem_nil⟩
  exact ⟨hf, askD_good (k := 4) hr hv rfl (by decide) hta hd (by unfold wholeA; rw [if_neg (by show ¬ (4 : Int) = 1; decide)])⟩
set_option maxRecDepth 100000 in
theorem ask_ok_5 (i tg : ByteArray) (n_i : nameL i.data.toList 0 = true) (n_tg : nameL tg.data.toList 0 = true) : AskOk ⟨5, i, tg, ⟨#[]⟩, ⟨#[]⟩, 0, 0, 0, 0, 0, 0, 0, 0, []⟩ := by
  have eL : askF ⟨5, i, tg, ⟨#[]⟩, ⟨#[]⟩, 0, 0, 0, 0, 0, 0, 0, 0, []⟩ = [⟨35, ⟨#[85, 82]⟩⟩, ⟨11, i⟩, ⟨41, tg⟩] := rfl
  obtain ⟨hf, hr⟩ := read_of_a (askF ⟨5, i, tg, ⟨#[]⟩, ⟨#[]⟩, 0, 0, 0, 0, 0, 0, 0, 0, []⟩) (by rw [eL]; simp) (by
    rw [eL]
    simp only [List.map_cons, List.map_nil, pairF, List.forall_mem_cons]
    exact ⟨goodF_two 35 85 82 (by decide) (by decide) (by decide) (by decide) (by decide) (by decide), goodF_name 11 i (by decide) (by decide) n_i, goodF_name 41 tg (by decide) (by decide) n_tg, fun _ h => absurd h List.not_mem_nil⟩) (by rw [eL]; show List.Nodup [35, 11, 41]; decide) (by rw [eL]; simp) (by rw [eL]; rfl)
  have hv : ((formOf (askF ⟨5, i, tg, ⟨#[]⟩, ⟨#[]⟩, 0, 0, 0, 0, 0, 0, 0, 0, []⟩)).vals 35).getD ⟨#[]⟩ = ⟨#[85, 82]⟩ := by rw [eL]; rfl
  generalize hF0 : formOf (askF ⟨5, i, tg, ⟨#[]⟩, ⟨#[]⟩, 0, 0, 0, 0, 0, 0, 0, 0, []⟩) = F0 at *
  have h0e : F0.e = 0 := by rw [← hF0]; rfl
  have hx1 : F0.vals 11 = some (i) := by rw [← hF0, eL]; rfl
  have hx2 : F0.vals 41 = some (tg) := by rw [← hF0, eL]; rfl
  obtain ⟨G0, hG0⟩ : ∃ G, F0.mark 35 = G := ⟨_, rfl⟩
  have ge0 : G0.e = 0 := by rw [← hG0]; exact h0e
  have gv0 : G0.vals = F0.vals := by rw [← hG0]; exact rfl
  have go0 : G0.order = F0.order := by rw [← hG0]; exact rfl
  have ga0 : ∀ x, G0.asked x = if x = 35 then true else F0.asked x := by rw [← hG0]; intro x; rfl
  have E1 := ask_name_ok (F := G0) (t := 11) ge0 (by rw [gv0]; exact hx1) n_i
  obtain ⟨G1, hG1⟩ : ∃ G, G0.mark 11 = G := ⟨_, rfl⟩
  rw [hG1] at E1
  have ge1 : G1.e = 0 := by rw [← hG1]; exact ge0
  have gv1 : G1.vals = F0.vals := by rw [← hG1]; exact gv0
  have go1 : G1.order = F0.order := by rw [← hG1]; exact go0
  have ga1 : ∀ x, G1.asked x = if x = 11 then true else G0.asked x := by rw [← hG1]; intro x; rfl
  have E2 := ask_name_ok (F := G1) (t := 41) ge1 (by rw [gv1]; exact hx2) n_tg
  obtain ⟨G2, hG2⟩ : ∃ G, G1.mark 41 = G := ⟨_, rfl⟩
  rw [hG2] at E2
  have ge2 : G2.e = 0 := by rw [← hG2]; exact ge1
  have gv2 : G2.vals = F0.vals := by rw [← hG2]; exact gv1
  have go2 : G2.order = F0.order := by rw [← hG2]; exact go1
  have ga2 : ∀ x, G2.asked x = if x = 41 then true else G1.asked x := by rw [← hG2]; intro x; rfl
  have hta : takeA 5 (F0.mark 35) = (⟨5, i, tg, ⟨#[]⟩, ⟨#[]⟩, 0, 0, 0, 0, 0, 0, 0, 0, []⟩, G2) := by
    rw [hG0]
    unfold takeA
    rw [if_neg (by decide), if_neg (by decide), show askBare = [.name 11, .name 41] from rfl, asksT_name E1, asksT_name E2]
    rfl
  have hd : (doneL G2).2 = 0 := by
    have ho : G2.order = [35, 11, 41] := by rw [go2, ← hF0, eL]; rfl
    rw [doneL_ok ge2]
    rw [ho]
    refine spareL_all_a _ _ ?_
    simp only [List.forall_mem_cons]
    exact ⟨by rw [ga2, if_neg (by decide), ga1, if_neg (by decide), ga0, if_pos rfl], by rw [ga2, if_neg (by decide), ga1, if_pos rfl], by rw [ga2, if_pos rfl], fun _ h => absurd h List.not_mem_nil⟩
  exact ⟨hf, askD_good (k := 5) hr hv rfl (by decide) hta hd (by unfold wholeA; rw [if_neg (by show ¬ (5 : Int) = 1; decide)])⟩
theorem ask_ok (a : AskV) (h : RightA a) : AskOk a := by
  obtain ⟨f0, f1, f2, f3, f4, f5, f6, f7, f8, f9, f10, f11, f12, f13⟩ := a
  obtain ⟨hk, h1, h | h⟩ := h
  · obtain ⟨k1, h3, h4, h2, hd, ⟨hq, hp, he⟩, hs, hsp, hal⟩ := h
    simp only at hk h1 k1 h3 h4 h2 hd hq hp he hs hsp
    subst k1 h2
    rcases hal with ⟨a1, a2, a3, a4⟩ | ⟨a1, a2, a3, a4⟩ | ⟨a1, a2, a3, a4⟩ | ⟨a1, a2, a3, a4⟩
    · simp only at a1 a2 a3 a4
      subst a1 a2 a3 a4
      exact ask_ok_1_1 f3 f4 f1 f5 f6 f7 f9 f10 h1 h3 h4 hd hq hp hs he hsp
    · simp only at a1 a2 a3 a4
      subst a1 a3 a4
      exact ask_ok_1_2 f3 f4 f1 f5 f6 f7 f9 f10 h1 h3 h4 hd hq hp hs he hsp f13 a2
    · simp only at a1 a2 a3 a4
      subst a1 a2 a4
      exact ask_ok_1_3 f3 f4 f1 f5 f6 f7 f9 f10 f11 h1 h3 h4 hd hq hp hs he hsp a3
    · simp only at a1 a2 a3 a4
      subst a1 a2 a3
      exact ask_ok_1_4 f3 f4 f1 f5 f6 f7 f9 f10 f12 h1 h3 h4 hd hq hp hs he hsp a4
  · obtain ⟨k1, h2, ⟨b3, b4, b5, b8, b9, b11, b12, b13⟩, hw⟩ := h
    simp only at hk h1 k1 h2 b3 b4 b5 b8 b9 b11 b12 b13 hw
    subst b3 b4 b5 b8 b9 b11 b12 b13
    rcases hw with ⟨k3, ⟨hq, hp, he⟩⟩ | ⟨k3, z6, z7, z10⟩
    · try simp only at k3 hq hp he
      subst k3
      exact ask_ok_3 f1 f2 f6 f7 f10 h1 h2 hq hp he
    · subst z6 z7 z10
      rcases (show f0 = 2 ∨ f0 = 4 ∨ f0 = 5 by omega) with rfl | rfl | rfl
      · exact ask_ok_2 f1 f2 h1 h2
      · exact ask_ok_4 f1 f2 h1 h2
      · exact ask_ok_5 f1 f2 h1 h2
def encA (a : AskV) : ByteArray × Int := if RightA a then (⟨((((askF a).map pairF).map fieldL).flatten).toArray⟩, 0) else (⟨#[]⟩, 2)
theorem encA_right (a : AskV) (h : RightA a) : encA a = (⟨((((askF a).map pairF).map fieldL).flatten).toArray⟩, 0) := if_pos h
theorem encA_wrong (a : AskV) (h : ¬ RightA a) : encA a = (⟨#[]⟩, 2) := if_neg h
theorem encA_back (a : AskV) (h : RightA a) : askD (encA a).1 = (a, 0, 0) := by rw [encA_right a h]; exact (ask_ok a h).back
theorem encA_size (a : AskV) : (encA a).1.size ≤ 40000 := by
  unfold encA
  split
  · rename_i h
    have h1 := allFormsL_len ((askF a).map pairF)
    rw [(ask_ok a h).form] at h1
    show (⟨((((askF a).map pairF).map fieldL).flatten).toArray⟩ : ByteArray).size ≤ 40000
    rw [sz_lit]; exact h1
  · show (0 : Nat) ≤ 40000; omega
theorem name_size {s : ByteArray} (h : nameL s.data.toList 0 = true) : s.size ≤ 80 := by
  have := (nameL_value h).2
  rwa [size_list] at this
theorem rightA_sizes (a : AskV) (h : RightA a) : a.f1.size ≤ 80 ∧ a.f2.size ≤ 80 ∧ a.f3.size ≤ 80 ∧ a.f4.size ≤ 80 ∧ a.f13.length ≤ 64 := by
  have z : (⟨#[]⟩ : ByteArray).size ≤ 80 := by decide
  obtain ⟨hk, h1, h | h⟩ := h
  · obtain ⟨k1, h3, h4, h2, hd, _, hs, hsp, hal⟩ := h
    refine ⟨name_size h1, by rw [h2]; exact z, name_size h3, name_size h4, ?_⟩
    rcases hal with h | h | h | h
    · rw [h.2.1]; simp
    · exact (curveOk_iff h.2.1).2.1
    · rw [h.2.1]; simp
    · rw [h.2.1]; simp
  · obtain ⟨k1, h2, ⟨b3, b4, b5, b8, b9, b11, b12, b13⟩, hw⟩ := h
    exact ⟨name_size h1, name_size h2, by rw [b3]; exact z, by rw [b4]; exact z, by rw [b13]; simp⟩
theorem rightA_nums (a : AskV) (h : RightA a) : (i63 a.f5 ∧ i63 a.f6 ∧ i63 a.f7 ∧ i63 a.f8 ∧ i63 a.f9 ∧ i63 a.f10 ∧ i63 a.f11 ∧ i63 a.f12) ∧ numsI a.f13 := by
  have hl := (rightA_sizes a h).2.2.2.2
  unfold i63 numsI
  obtain ⟨hk, h1, h | h⟩ := h
  · obtain ⟨k1, h3, h4, h2, hd, ⟨hq, hp, he⟩, hs, hsp, hal⟩ := h
    rcases hal with h | h | h | h
    · exact ⟨by omega, by omega, fun x hx => by rw [h.2.1] at hx; exact absurd hx List.not_mem_nil⟩
    · exact ⟨by omega, by omega, smallNs_i63 (curveOk_iff h.2.1).2.2⟩
    · exact ⟨by omega, by omega, fun x hx => by rw [h.2.1] at hx; exact absurd hx List.not_mem_nil⟩
    · exact ⟨by omega, by omega, fun x hx => by rw [h.2.1] at hx; exact absurd hx List.not_mem_nil⟩
  · obtain ⟨k1, h2, ⟨b3, b4, b5, b8, b9, b11, b12, b13⟩, hw⟩ := h
    refine ⟨?_, by rw [b13]; exact Nat.zero_le _, fun x hx => by rw [b13] at hx; exact absurd hx List.not_mem_nil⟩
    rcases hw with ⟨_, ⟨hq, hp, he⟩⟩ | ⟨_, z6, z7, z10⟩
    · omega
    · omega
theorem good_small (l : List S78) (h : ∀ x ∈ l, x.f1.size ≤ 9223372036854775807) : smallF l = true := by
  unfold smallF
  rw [List.all_eq_true]
  intro x hx
  rw [decide_eq_true_eq]
  exact h x hx
theorem encode_f (a : AskV) (h1 : a.f1.size ≤ 9223372036854775807) (h2 : a.f2.size ≤ 9223372036854775807) (h3 : a.f3.size ≤ 9223372036854775807) (h4 : a.f4.size ≤ 9223372036854775807) : ask_Encode.f 68 a.f0 a.f1 a.f2 a.f3 a.f4 a.f5 a.f6 a.f7 a.f8 a.f9 a.f10 a.f11 a.f12 a.f13 = some (encA a) := by
  unfold ask_Encode.f
  rw [right_f a h1 h2 h3 h4]
  simp only [Option.bind_some, decide_eq_true_eq]
  by_cases c : RightA a
  · rw [if_pos c]
    have hn := rightA_nums a c
    have hg : ∀ f ∈ (askF a).map pairF, valueL f.2 = true ∨ True := fun _ _ => .inr trivial
    have hff : ask_fields.f a.f0 a.f1 a.f2 a.f3 a.f4 a.f5 a.f6 a.f7 a.f8 a.f9 a.f10 a.f11 a.f12 a.f13 = some (askF a) := by unfold ask_fields.f; rw [if_pos hn]
    have hsm : smallF (askF a) = true := good_small _ (fun x hx => by
      have hb : ∀ n, i63 n → (digitsB n).size ≤ 9223372036854775807 := fun n h => by have := digitsB_20 n h.2; omega
      have hj := join_len a.f13 hn.2.2
      have hl := hn.2.1
      have hnb : (numsB a.f13).size ≤ 9223372036854775807 := by
        unfold numsB joinB
        rw [sz_lit]
        show (Lib.join ((a.f13.map digitsB).map (·.data.toList)) [44]).length ≤ _
        omega
      have hw : (askKindW a.f0).size ≤ 9223372036854775807 := by
        unfold askKindW
        repeat' split
        all_goals decide
      obtain ⟨i5, i6, i7, i8, i9, i10, i11, i12⟩ := hn.1
      unfold askF at hx
      split at hx
      · rcases List.mem_append.1 hx with hx | hx
        · simp only [List.mem_cons, List.not_mem_nil, or_false] at hx
          rcases hx with rfl | rfl | rfl | rfl | rfl | rfl | rfl | rfl | rfl | rfl
          · exact hw
          · exact h1
          · exact h3
          · exact h4
          · exact hb _ i5
          · exact hb _ i6
          · exact hb _ i7
          · exact hb _ i8
          · exact hb _ i9
          · exact hb _ i10
        · split at hx
          · rw [List.mem_singleton.1 hx]; exact hnb
          split at hx
          · rw [List.mem_singleton.1 hx]; exact hb _ i11
          split at hx
          · rw [List.mem_singleton.1 hx]; exact hb _ i12
          · exact absurd hx List.not_mem_nil
      split at hx
      · simp only [List.mem_cons, List.not_mem_nil, or_false] at hx
        rcases hx with rfl | rfl | rfl | rfl | rfl | rfl
        · exact hw
        · exact h1
        · exact h2
        · exact hb _ i6
        · exact hb _ i7
        · exact hb _ i10
      · simp only [List.mem_cons, List.not_mem_nil, or_false] at hx
        rcases hx with rfl | rfl | rfl
        · exact hw
        · exact h1
        · exact h2)
    have htf : tag_Forms.f (askF a) = some (encA a) := by
      unfold tag_Forms.f
      rw [if_pos hsm, (ask_ok a c).form, encA_right a c]; rfl
    rw [hff]
    simp only [Option.bind_some]
    rw [htf]; rfl
  · rw [if_neg c, encA_wrong a c]
theorem decode_f (s : ByteArray) (h : s.size ≤ 140737488351232) : ask_Decode.f s = some (flatA (askD s)) := by unfold ask_Decode.f; rw [if_pos h]
theorem take_right_1 (F : FormS) (hF : (takeA 1 F).2.e = 0) (hw : (wholeA (takeA 1 F).1).2 = 0) : RightA (takeA 1 F).1 := by
  obtain ⟨v1, F1, E1⟩ : ∃ v F'', askL takeName ⟨#[]⟩ F 11 = (v, F'') := ⟨_, _, rfl⟩
  obtain ⟨v2, F2, E2⟩ : ∃ v F'', askL takeName ⟨#[]⟩ F1 1 = (v, F'') := ⟨_, _, rfl⟩
  obtain ⟨v3, F3, E3⟩ : ∃ v F'', askL takeName ⟨#[]⟩ F2 55 = (v, F'') := ⟨_, _, rfl⟩
  obtain ⟨v4, F4, E4⟩ : ∃ v F'', askL (fun s => takeInt s 1 2) 0 F3 54 = (v, F'') := ⟨_, _, rfl⟩
  obtain ⟨v5, F5, E5⟩ : ∃ v F'', askL (fun s => takeInt s 1 1099511627776) 0 F4 38 = (v, F'') := ⟨_, _, rfl⟩
  obtain ⟨v6, F6, E6⟩ : ∃ v F'', askL (fun s => takeInt s 1 1099511627776) 0 F5 44 = (v, F'') := ⟨_, _, rfl⟩
  obtain ⟨v7, F7, E7⟩ : ∃ v F'', askL (fun s => takeInt s 1 4) 0 F6 5001 = (v, F'') := ⟨_, _, rfl⟩
  obtain ⟨v8, F8, E8⟩ : ∃ v F'', askL (fun s => takeInt s 0 1099511627776) 0 F7 5002 = (v, F'') := ⟨_, _, rfl⟩
  obtain ⟨v9, F9, E9⟩ : ∃ v F'', askL (fun s => takeInt s 0 1099511627776) 0 F8 5003 = (v, F'') := ⟨_, _, rfl⟩
  have ha : asksT askNew F = ([.s v1, .s v2, .s v3, .n v4, .n v5, .n v6, .n v7, .n v8, .n v9], F9) := by
    rw [show askNew = [.name 11, .name 1, .name 55, .int 54 1 2, .int 38 1 1099511627776, .int 44 1 1099511627776, .int 5001 1 4, .int 5002 0 1099511627776, .int 5003 0 1099511627776] from rfl, asksT_name E1, asksT_name E2, asksT_name E3, asksT_int E4, asksT_int E5, asksT_int E6, asksT_int E7, asksT_int E8, asksT_int E9]; rfl
  unfold takeA at hF hw ⊢
  rw [if_pos rfl, ha] at hF hw ⊢
  rw [show algOf [.s v1, .s v2, .s v3, .n v4, .n v5, .n v6, .n v7, .n v8, .n v9] = v7 from rfl] at hF hw ⊢
  simp only at hF hw ⊢
  by_cases c1 : v7 = 1
  · have hal : v7 = 1 := c1
    have hb : asksT (algSch v7) F9 = ([], F9) := by rw [hal]; rfl
    rw [hb] at hF hw ⊢
    simp only at hF hw ⊢
    obtain ⟨e8, b9⟩ := askL_int E9 hF
    obtain ⟨e7, b8⟩ := askL_int E8 e8
    obtain ⟨e6, b7⟩ := askL_int E7 e7
    obtain ⟨e5, b6⟩ := askL_int E6 e6
    obtain ⟨e4, b5⟩ := askL_int E5 e5
    obtain ⟨e3, b4⟩ := askL_int E4 e4
    obtain ⟨e2, b3⟩ := askL_name E3 e3
    obtain ⟨e1, b2⟩ := askL_name E2 e2
    obtain ⟨e0, b1⟩ := askL_name E1 e1
    have er : askNewOf [.s v1, .s v2, .s v3, .n v4, .n v5, .n v6, .n v7, .n v8, .n v9] [] = ⟨1, v1, ⟨#[]⟩, v2, v3, v4, v5, v6, 1, v8, v9, 0, 0, []⟩ := by
      subst hal; rfl
    rw [er] at hw ⊢
    unfold wholeA at hw
    rw [if_pos rfl] at hw
    simp only at hw
    by_cases hsp : 1 ≤ wrap64 (v9 - v8) ∧ wrap64 (v9 - v8) ≤ 1073741824
    · rw [if_pos hsp] at hw
      exact ⟨⟨by show (1 : Int) ≤ 1; decide, by show (1 : Int) ≤ 5; decide⟩, b1, .inl ⟨rfl, b2, b3, rfl, b4, ⟨b5, b6, b9⟩, b8, hsp, .inl ⟨rfl, rfl, rfl, rfl⟩⟩⟩
    · rw [if_neg hsp] at hw; exact absurd hw (by decide)
  by_cases c2 : v7 = 2
  · have hal : v7 = 2 := c2
    obtain ⟨v10, F10, E10⟩ : ∃ v F'', askL (fun s => takeInts s 64 0 1048576) [] F9 5006 = (v, F'') := ⟨_, _, rfl⟩
    have hb : asksT (algSch v7) F9 = ([.l v10], F10) := by rw [hal, show algSch 2 = [.ints 5006 (fun s => takeInts s 64 0 1048576)] from rfl, asksT_ints E10]; rfl
    rw [hb] at hF hw ⊢
    simp only at hF hw ⊢
    obtain ⟨e9, b10⟩ := askL_ints E10 hF
    obtain ⟨e8, b9⟩ := askL_int E9 e9
    obtain ⟨e7, b8⟩ := askL_int E8 e8
    obtain ⟨e6, b7⟩ := askL_int E7 e7
    obtain ⟨e5, b6⟩ := askL_int E6 e6
    obtain ⟨e4, b5⟩ := askL_int E5 e5
    obtain ⟨e3, b4⟩ := askL_int E4 e4
    obtain ⟨e2, b3⟩ := askL_name E3 e3
    obtain ⟨e1, b2⟩ := askL_name E2 e2
    obtain ⟨e0, b1⟩ := askL_name E1 e1
    have er : askNewOf [.s v1, .s v2, .s v3, .n v4, .n v5, .n v6, .n v7, .n v8, .n v9] [.l v10] = ⟨1, v1, ⟨#[]⟩, v2, v3, v4, v5, v6, 2, v8, v9, 0, 0, v10⟩ := by
      subst hal; rfl
    rw [er] at hw ⊢
    unfold wholeA at hw
    rw [if_pos rfl] at hw
    simp only at hw
    by_cases hsp : 1 ≤ wrap64 (v9 - v8) ∧ wrap64 (v9 - v8) ≤ 1073741824
    · rw [if_pos hsp] at hw
      rw [if_pos trivial] at hw
      by_cases hc : curveOk v10 = true
      · exact ⟨⟨by show (1 : Int) ≤ 1; decide, by show (1 : Int) ≤ 5; decide⟩, b1, .inl ⟨rfl, b2, b3, rfl, b4, ⟨b5, b6, b9⟩, b8, hsp, .inr (.inl ⟨rfl, hc, rfl, rfl⟩)⟩⟩
      · rw [if_neg hc] at hw; exact absurd hw (by decide)
    · rw [if_neg hsp] at hw; exact absurd hw (by decide)
  by_cases c3 : v7 = 3
  · have hal : v7 = 3 := c3
    obtain ⟨v10, F10, E10⟩ : ∃ v F'', askL (fun s => takeInt s 1 10000) 0 F9 5004 = (v, F'') := ⟨_, _, rfl⟩
    have hb : asksT (algSch v7) F9 = ([.n v10], F10) := by rw [hal, show algSch 3 = [.int 5004 1 10000] from rfl, asksT_int E10]; rfl
    rw [hb] at hF hw ⊢
    simp only at hF hw ⊢
    obtain ⟨e9, b10⟩ := askL_int E10 hF
    obtain ⟨e8, b9⟩ := askL_int E9 e9
    obtain ⟨e7, b8⟩ := askL_int E8 e8
    obtain ⟨e6, b7⟩ := askL_int E7 e7
    obtain ⟨e5, b6⟩ := askL_int E6 e6
    obtain ⟨e4, b5⟩ := askL_int E5 e5
    obtain ⟨e3, b4⟩ := askL_int E4 e4
    obtain ⟨e2, b3⟩ := askL_name E3 e3
    obtain ⟨e1, b2⟩ := askL_name E2 e2
    obtain ⟨e0, b1⟩ := askL_name E1 e1
    have er : askNewOf [.s v1, .s v2, .s v3, .n v4, .n v5, .n v6, .n v7, .n v8, .n v9] [.n v10] = ⟨1, v1, ⟨#[]⟩, v2, v3, v4, v5, v6, 3, v8, v9, v10, 0, []⟩ := by
      subst hal; rfl
    rw [er] at hw ⊢
    unfold wholeA at hw
    rw [if_pos rfl] at hw
    simp only at hw
    by_cases hsp : 1 ≤ wrap64 (v9 - v8) ∧ wrap64 (v9 - v8) ≤ 1073741824
    · rw [if_pos hsp] at hw
      exact ⟨⟨by show (1 : Int) ≤ 1; decide, by show (1 : Int) ≤ 5; decide⟩, b1, .inl ⟨rfl, b2, b3, rfl, b4, ⟨b5, b6, b9⟩, b8, hsp, .inr (.inr (.inl ⟨rfl, rfl, b10, rfl⟩))⟩⟩
    · rw [if_neg hsp] at hw; exact absurd hw (by decide)
  by_cases c4 : v7 = 4
  · have hal : v7 = 4 := c4
    obtain ⟨v10, F10, E10⟩ : ∃ v F'', askL (fun s => takeInt s 1 1099511627776) 0 F9 5005 = (v, F'') := ⟨_, _, rfl⟩
    have hb : asksT (algSch v7) F9 = ([.n v10], F10) := by rw [hal, show algSch 4 = [.int 5005 1 1099511627776] from rfl, asksT_int E10]; rfl
    rw [hb] at hF hw ⊢
    simp only at hF hw ⊢
    obtain ⟨e9, b10⟩ := askL_int E10 hF
    obtain ⟨e8, b9⟩ := askL_int E9 e9
    obtain ⟨e7, b8⟩ := askL_int E8 e8
    obtain ⟨e6, b7⟩ := askL_int E7 e7
    obtain ⟨e5, b6⟩ := askL_int E6 e6
    obtain ⟨e4, b5⟩ := askL_int E5 e5
    obtain ⟨e3, b4⟩ := askL_int E4 e4
    obtain ⟨e2, b3⟩ := askL_name E3 e3
    obtain ⟨e1, b2⟩ := askL_name E2 e2
    obtain ⟨e0, b1⟩ := askL_name E1 e1
    have er : askNewOf [.s v1, .s v2, .s v3, .n v4, .n v5, .n v6, .n v7, .n v8, .n v9] [.n v10] = ⟨1, v1, ⟨#[]⟩, v2, v3, v4, v5, v6, 4, v8, v9, 0, v10, []⟩ := by
      subst hal; rfl
    rw [er] at hw ⊢
    unfold wholeA at hw
    rw [if_pos rfl] at hw
    simp only at hw
    by_cases hsp : 1 ≤ wrap64 (v9 - v8) ∧ wrap64 (v9 - v8) ≤ 1073741824
    · rw [if_pos hsp] at hw
      exact ⟨⟨by show (1 : Int) ≤ 1; decide, by show (1 : Int) ≤ 5; decide⟩, b1, .inl ⟨rfl, b2, b3, rfl, b4, ⟨b5, b6, b9⟩, b8, hsp, .inr (.inr (.inr ⟨rfl, rfl, rfl, b10⟩))⟩⟩
    · rw [if_neg hsp] at hw; exact absurd hw (by decide)
  exfalso
  have hb : asksT (algSch v7) F9 = ([], F9) := by unfold algSch; rw [if_neg c2, if_neg c3, if_neg c4]; rfl
  rw [hb] at hF
  simp only at hF
  obtain ⟨e8, b9⟩ := askL_int E9 hF
  obtain ⟨e7, b8⟩ := askL_int E8 e8
  obtain ⟨e6, b7⟩ := askL_int E7 e7
  obtain ⟨e5, b6⟩ := askL_int E6 e6
  obtain ⟨e4, b5⟩ := askL_int E5 e5
  obtain ⟨e3, b4⟩ := askL_int E4 e4
  obtain ⟨e2, b3⟩ := askL_name E3 e3
  obtain ⟨e1, b2⟩ := askL_name E2 e2
  obtain ⟨e0, b1⟩ := askL_name E1 e1
  omega
theorem take_right_3 (F : FormS) (hF : (takeA 3 F).2.e = 0) : RightA (takeA 3 F).1 := by
  obtain ⟨v1, F1, E1⟩ : ∃ v F'', askL takeName ⟨#[]⟩ F 11 = (v, F'') := ⟨_, _, rfl⟩
  obtain ⟨v2, F2, E2⟩ : ∃ v F'', askL takeName ⟨#[]⟩ F1 41 = (v, F'') := ⟨_, _, rfl⟩
  obtain ⟨v3, F3, E3⟩ : ∃ v F'', askL (fun s => takeInt s 1 1099511627776) 0 F2 38 = (v, F'') := ⟨_, _, rfl⟩
  obtain ⟨v4, F4, E4⟩ : ∃ v F'', askL (fun s => takeInt s 1 1099511627776) 0 F3 44 = (v, F'') := ⟨_, _, rfl⟩
  obtain ⟨v5, F5, E5⟩ : ∃ v F'', askL (fun s => takeInt s 0 1099511627776) 0 F4 5003 = (v, F'') := ⟨_, _, rfl⟩
  have ha : asksT askAmend F = ([.s v1, .s v2, .n v3, .n v4, .n v5], F5) := by
    rw [show askAmend = [.name 11, .name 41, .int 38 1 1099511627776, .int 44 1 1099511627776, .int 5003 0 1099511627776] from rfl, asksT_name E1, asksT_name E2, asksT_int E3, asksT_int E4, asksT_int E5]; rfl
  unfold takeA at hF ⊢
  rw [if_neg (by decide), if_pos rfl, ha] at hF ⊢
  simp only at hF ⊢
  obtain ⟨e4, b5⟩ := askL_int E5 hF
  obtain ⟨e3, b4⟩ := askL_int E4 e4
  obtain ⟨e2, b3⟩ := askL_int E3 e3
  obtain ⟨e1, b2⟩ := askL_name E2 e2
  obtain ⟨e0, b1⟩ := askL_name E1 e1
  exact ⟨⟨by show (1 : Int) ≤ 3; decide, by show (3 : Int) ≤ 5; decide⟩, b1, .inr ⟨by show ¬ (3 : Int) = 1; decide, b2, ⟨rfl, rfl, rfl, rfl, rfl, rfl, rfl, rfl⟩, .inl ⟨rfl, b3, b4, b5⟩⟩⟩
theorem take_right_x (k : Int) (hk : 1 ≤ k ∧ k ≤ 5) (k1 : k ≠ 1) (k3 : k ≠ 3) (F : FormS) (hF : (takeA k F).2.e = 0) : RightA (takeA k F).1 := by
  obtain ⟨v1, F1, E1⟩ : ∃ v F'', askL takeName ⟨#[]⟩ F 11 = (v, F'') := ⟨_, _, rfl⟩
  obtain ⟨v2, F2, E2⟩ : ∃ v F'', askL takeName ⟨#[]⟩ F1 41 = (v, F'') := ⟨_, _, rfl⟩
  have ha : asksT askBare F = ([.s v1, .s v2], F2) := by
    rw [show askBare = [.name 11, .name 41] from rfl, asksT_name E1, asksT_name E2]; rfl
  unfold takeA at hF ⊢
  rw [if_neg k1, if_neg k3, ha] at hF ⊢
  simp only at hF ⊢
  obtain ⟨e1, b2⟩ := askL_name E2 hF
  obtain ⟨e0, b1⟩ := askL_name E1 e1
  exact ⟨hk, b1, .inr ⟨k1, b2, ⟨rfl, rfl, rfl, rfl, rfl, rfl, rfl, rfl⟩, .inr ⟨k3, rfl, rfl, rfl⟩⟩⟩
theorem askD_right (s : ByteArray) : ((askD s).2.2 = 0 → RightA (askD s).1) ∧ ((askD s).2.2 ≠ 0 → (askD s).1 = zAsk) := by
  rcases hr : readB s with ⟨F, x⟩
  cases F with
  | none =>
    rw [askD_none hr]
    exact ⟨fun h => absurd h (readB_none_ne hr), fun _ => rfl⟩
  | some F =>
    obtain ⟨v, hv⟩ : ∃ v, (F.vals 35).getD ⟨#[]⟩ = v := ⟨_, rfl⟩
    obtain ⟨k, hk⟩ : ∃ k, askKind v = k := ⟨_, rfl⟩
    have h5 : k ≤ 5 := hk ▸ askKind_le v
    by_cases k0 : k = 0
    · rw [askD_zero hr hv (hk.trans k0)]
      exact ⟨fun h => absurd h (by show ¬ (120 : Int) = 0; decide), fun _ => rfl⟩
    obtain ⟨a, F', ha⟩ : ∃ a F', takeA (k : Nat) (F.mark 35) = (a, F') := ⟨_, _, rfl⟩
    obtain ⟨td, ed, hd⟩ : ∃ t e, doneL F' = (t, e) := ⟨_, _, rfl⟩
    by_cases he : ed = 0
    · subst he
      obtain ⟨tw, ew, hw⟩ : ∃ t e, wholeA a = (t, e) := ⟨_, _, rfl⟩
      by_cases hx : ew = 0
      · subst hx
        rw [askD_good hr hv hk k0 ha (by rw [hd]) (by rw [hw])]
        refine ⟨fun _ => ?_, fun h => absurd rfl h⟩
        have hF := doneL_e (F := F') (by rw [hd])
        have e1 : F' = (takeA (k : Nat) (F.mark 35)).2 := by rw [ha]
        have e2 : a = (takeA (k : Nat) (F.mark 35)).1 := by rw [ha]
        rw [e1] at hF
        rw [e2]
        by_cases k1 : k = 1
        · subst k1
          exact take_right_1 _ hF (by show (wholeA (takeA ((1 : Nat) : Int) (F.mark 35)).1).2 = 0; rw [← e2, hw])
        by_cases k3 : k = 3
        · subst k3
          exact take_right_3 _ hF
        exact take_right_x _ (by omega) (by omega) (by omega) _ hF
      · rw [askD_broken hr hv hk k0 ha (by rw [hd]) hw hx]
        exact ⟨fun h => absurd h hx, fun _ => rfl⟩
    · rw [askD_undone hr hv hk k0 ha hd he]
      exact ⟨fun h => absurd h he, fun _ => rfl⟩
theorem one_name_a (b : UInt8) (h : b.toNat < 128) (hm : mayN b.toNat = true) : nameL (⟨#[b]⟩ : ByteArray).data.toList 0 = true := by
  show nameL [b] 0 = true
  rw [nameL_go [b] (by simp) 0 (by decide) (by rw [dec_ascii b [] h]; exact hm), dec_ascii b [] h]
  show nameL [] 1 = true
  rw [nameL_nil]; rfl
def aw12 : AskV := ⟨2, ⟨#[98]⟩, ⟨#[97]⟩, ⟨#[]⟩, ⟨#[]⟩, 0, 0, 0, 0, 0, 0, 0, 0, []⟩
theorem aw12_right : RightA aw12 := ⟨⟨by decide, by decide⟩, one_name_a 98 (by decide) (by decide), .inr ⟨by decide, one_name_a 97 (by decide) (by decide), ⟨rfl, rfl, rfl, rfl, rfl, rfl, rfl, rfl⟩, .inr ⟨by decide, rfl, rfl, rfl⟩⟩⟩
theorem aw12_text : encA aw12 = (⟨#[51, 53, 61, 70, 1, 49, 49, 61, 98, 1, 52, 49, 61, 97, 1]⟩, 0) := by
  rw [encA_right _ aw12_right]
  have eL : askF aw12 = [⟨35, ⟨#[70]⟩⟩, ⟨11, ⟨#[98]⟩⟩, ⟨41, ⟨#[97]⟩⟩] := rfl
  rw [eL]
  simp only [List.map_cons, List.map_nil, pairF, fieldL]
  rw [show (35 : Int).toNat = 35 from rfl, show (11 : Int).toNat = 11 from rfl, show (41 : Int).toNat = 41 from rfl, dg35, dg11, dg41]
  rfl
theorem aw12_p : spigotlaw12_awake_p.f 68 = some true := by
  have e1 : ask_Encode.f 68 2 ⟨#[98]⟩ ⟨#[97]⟩ ⟨#[]⟩ ⟨#[]⟩ 0 0 0 0 0 0 0 0 [] = some (⟨#[51, 53, 61, 70, 1, 49, 49, 61, 98, 1, 52, 49, 61, 97, 1]⟩, 0) := by
    have h := encode_f aw12 (by decide) (by decide) (by decide) (by decide)
    rw [aw12_text] at h
    exact h
  have e2 : ask_Decode.f ⟨#[51, 53, 61, 70, 1, 49, 49, 61, 98, 1, 52, 49, 61, 97, 1]⟩ = some (flatA (aw12, 0, 0)) := by
    have h := encA_back _ aw12_right
    rw [aw12_text] at h
    rw [decode_f _ (by decide), h]
  unfold spigotlaw12_awake_p.f
  rw [e1]
  simp only [Option.bind_some]
  rw [e2]
  simp only [Option.bind_some]
  rw [if_pos (by rw [ByteArray.toList_eq])]
  rw [if_pos trivial]
  simp only [flatA, aw12, if_true]
  rw [ByteArray.toList_eq]; rfl
def spigotlaw12_awake.f : Option Bool := some true
theorem spigotlaw12_awake.calls (r : Bool) (w : World) (hT_ : Aside0 (Tabs_ w)) (h : spigotlaw12_awake.f = some r) :
    Calls Tryd.prog 38 #[] w fun e w' => e = .returned (.bool r) ∧ Below w.heap.size w w' := by
  obtain rfl := Option.some.inj h
  exact spigotlaw12_awake_p.calls 68 true w hT_ aw12_p
end Go.Proofs.YtgfigkfcmkdjdaaDoor.B
end
