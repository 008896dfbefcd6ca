/- The functions that the law reaches, as plain Lean functions, and their contracts: texts merged. -/
import Derived.Laws.StructEq
import Derived.Test.YtgfigkfcmkdjdaaGreatDoorzAskEncodes2
import Derived.Test.YtgfigkfcmkdjdaaGreatDoorzAskEncodes0
import Derived.Test.YtgfigkfcmkdjdaaGreatDoorzAskEncodes1
import Derived.Test.YtgfigkfcmkdjdaaGreatDoorzAskEncodes3
import Derived.Test.YtgfigkfcmkdjdaaGreatDoorzAskEncodes4
import Derived.Test.YtgfigkfcmkdjdaaGreatDoorzAskEncodes5
import Derived.Test.YtgfigkfcmkdjdaaGreatDoorzAskEncodes6
import Derived.Test.YtgfigkfcmkdjdaaGreatDoorzAskEncodes7
import Derived.Test.YtgfigkfcmkdjdaaGreatDoorzAskEncodes8
import Derived.Test.YtgfigkfcmkdjdaaGreatDoorzAskEncodes9
import Derived.Test.YtgfigkfcmkdjdaaGreatDoorzAskEncodes10
import Derived.Test.YtgfigkfcmkdjdaaGreatDoorzAskEncodes11
import Derived.Test.YtgfigkfcmkdjdaaGreatDoorzAskEncodes12
section
namespace Go.Proofs.YtgfigkfcmkdjdaaGreatDoor.B
open Go.RowKit Go.Proofs.YtgfigkfcmkdjdaaGreatDoorW.PrintWords Go.Proofs.YtgfigkfcmkdjdaaGreatDoorW.PrintLast Go.Proofs.YtgfigkfcmkdjdaaGreatDoorW.PrintMore
attribute [local go_sem] max2_int min2_int max_two min_two max_three min_three max_four min_four   -- for this text's walks alone
set_option linter.unusedVariables false
set_option linter.unusedSimpArgs false
theorem world_cut {P : Program} {C : Code} {Q : Exit → Act → World → Prop} {a : Act} {w : World} (R : World → Prop) (h : R w) (k : ∀ W, R W → C.wp P Q a W) : C.wp P Q a w := k w h
theorem low_cells14 {B : Nat} {w W : World} (h : Below B w W) {b : Nat} (hb : B ≤ b) {v0 v1 v2 v3 v4 v5 v6 v7 v8 v9 v10 v11 v12 v13 : Value} : Below B w ((((((((((((((W.setCell ⟨b, 0, none⟩ v0).setCell ⟨b, 1, none⟩ v1).setCell ⟨b, 2, none⟩ v2).setCell ⟨b, 3, none⟩ v3).setCell ⟨b, 4, none⟩ v4).setCell ⟨b, 5, none⟩ v5).setCell ⟨b, 6, none⟩ v6).setCell ⟨b, 7, none⟩ v7).setCell ⟨b, 8, none⟩ v8).setCell ⟨b, 9, none⟩ v9).setCell ⟨b, 10, none⟩ v10).setCell ⟨b, 11, none⟩ v11).setCell ⟨b, 12, none⟩ v12).setCell ⟨b, 13, none⟩ v13) :=
  (((((((((((((h.setCell hb _).setCell hb _).setCell hb _).setCell hb _).setCell hb _).setCell hb _).setCell hb _).setCell hb _).setCell hb _).setCell hb _).setCell hb _).setCell hb _).setCell hb _).setCell hb _
set_option maxHeartbeats 8000000 in
set_option maxRecDepth 100000 in
theorem kept_x (a0_0 : Int) (a0_1 a0_2 a0_3 a0_4 : ByteArray) (a0_5 a0_6 a0_7 a0_8 a0_9 a0_10 a0_11 a0_12 : Int) (A0_13 : Option Addr) (c0_13 : Nat) (l0_13 : List Int) (w : World) (k1 : (a0_0 != 1) = true) (k2 : (a0_0 == 1) = false) (k3 : (a0_0 == 3) = false) :
    Calls Tryz.prog 25 #[.agg #[.int .i64 a0_0, .string a0_1, .string a0_2, .string a0_3, .string a0_4, .int .i64 a0_5, .int .i64 a0_6, .int .i64 a0_7, .int .i64 a0_8, .int .i64 a0_9, .int .i64 a0_10, .int .i64 a0_11, .int .i64 a0_12, .slice A0_13 l0_13.length c0_13]] w fun e w' => e = .returned (.agg #[.int .i64 a0_0, .string a0_1, .string a0_2, .string ⟨#[]⟩, .string ⟨#[]⟩, .int .i64 0, .int .i64 0, .int .i64 0, .int .i64 0, .int .i64 0, .int .i64 0, .int .i64 0, .int .i64 0, .slice none 0 0]) ∧ Below w.heap.size w w' := by
  have HB0 := Aside0.mk (Below.refl w.heap.size w)
  go_enter Tryz.func25, Tryz.ntmps25
  go_upto_region 2 with (first | ((with_reducible refine gate_dst (N := 1) rfl ?_); refine box_event ?hg (N := 1) ?hd (cs := #[.int .i64 a0_0, .string a0_1, .string a0_2, .string a0_3, .string a0_4, .int .i64 a0_5, .int .i64 a0_6, .int .i64 a0_7, .int .i64 a0_8, .int .i64 a0_9, .int .i64 a0_10, .int .i64 a0_11, .int .i64 a0_12, .slice A0_13 l0_13.length c0_13]) (t := 32) ?hr ?_; (case hd => rfl); (case hg => rfl); (case hr => first | (go_simp; done) | (go_simp; rfl)); intro g1 hg w1 hbox hb; have K1 := Aside0.mk hbox; have L1 := Aside0.mk (HB0.out.trans (hb.mono HB0.out.size)); clear HB0; clear hb hbox hg) | ((with_reducible refine gate_dst (N := 2) rfl ?_); refine box_event ?hg (N := 2) ?hd (cs := #[.int .i64 0, .string ⟨#[]⟩, .string ⟨#[]⟩, .string ⟨#[]⟩, .string ⟨#[]⟩, .int .i64 0, .int .i64 0, .int .i64 0, .int .i64 0, .int .i64 0, .int .i64 0, .int .i64 0, .int .i64 0, .slice none 0 0]) (t := 32) ?hr ?_; (case hd => rfl); (case hg => rfl); (case hr => first | (go_simp; done) | (go_simp; rfl)); intro g2 hg w2 hbox hb; have K2 := Aside0.mk hbox; have K1b := Aside0.mk (blk_below K1.out hb); have L2 := Aside0.mk (L1.out.trans (hb.mono L1.out.size)); have G2 : Aside0 (w.heap.size ≤ g2) := ⟨by rw [hg]; exact L1.out.size⟩; have NE : g1 ≠ g2 := (by rw [hg]; exact Nat.ne_of_lt (blk_lt K1.out)); have NE' : g2 ≠ g1 := Ne.symm NE; have hx := fun i => blk_cell K1b.out i; have hz := fun i => blk_frozen K1b.out i; clear hb hbox hg) | ((with_reducible refine gate_dst (N := 3) rfl ?_); refine box_event ?hg (N := 3) ?hd (cs := #[.int .i64 0, .string ⟨#[]⟩, .string ⟨#[]⟩, .string ⟨#[]⟩, .string ⟨#[]⟩, .int .i64 0, .int .i64 0, .int .i64 0, .int .i64 0, .int .i64 0, .int .i64 0, .int .i64 0, .int .i64 0, .slice none 0 0]) (t := 32) ?hr ?_; (case hd => rfl); (case hg => rfl); (case hr => first | (go_simp; done) | (go_simp; rfl)); intro g3 hg w3 hbox hb; (try clear hx hz); have K3 := Aside0.mk hbox; have K1c := Aside0.mk (blk_below K1b.out hb); have K2b := Aside0.mk (blk_below K2.out hb); have L3 := Aside0.mk (L2.out.trans (hb.mono L2.out.size)); have G3 : Aside0 (w.heap.size ≤ g3) := ⟨by rw [hg]; exact L2.out.size⟩; have NF : g1 ≠ g3 := (by rw [hg]; exact Nat.ne_of_lt (blk_lt K1b.out)); have NF' : g3 ≠ g1 := Ne.symm NF; have NG : g2 ≠ g3 := (by rw [hg]; exact Nat.ne_of_lt (blk_lt K2.out)); have NG' : g3 ≠ g2 := Ne.symm NG; have hx := fun i => blk_cell K1c.out i; have hy := fun i => blk_cell K2b.out i; have hyz := fun i => blk_frozen K2b.out i; have hw := fun i => blk_cell K3.out i; have hwz := fun i => blk_frozen K3.out i; clear hb hbox hg))
  refine world_cut (fun W => W.heap[g1]? = some (.cells #[.int .i64 a0_0, .string a0_1, .string a0_2, .string a0_3, .string a0_4, .int .i64 a0_5, .int .i64 a0_6, .int .i64 a0_7, .int .i64 a0_8, .int .i64 a0_9, .int .i64 a0_10, .int .i64 a0_11, .int .i64 a0_12, .slice A0_13 l0_13.length c0_13] 32 (0, 0)) ∧ W.heap[g2]? = some (.cells #[.int .i64 0, .string ⟨#[]⟩, .string ⟨#[]⟩, .string ⟨#[]⟩, .string ⟨#[]⟩, .int .i64 0, .int .i64 0, .int .i64 0, .int .i64 0, .int .i64 0, .int .i64 0, .int .i64 0, .int .i64 0, .slice none 0 0] 32 (0, 0)) ∧ W.heap[g3]? = some (.cells #[.int .i64 a0_0, .string a0_1, .string ⟨#[]⟩, .string ⟨#[]⟩, .string ⟨#[]⟩, .int .i64 0, .int .i64 0, .int .i64 0, .int .i64 0, .int .i64 0, .int .i64 0, .int .i64 0, .int .i64 0, .slice none 0 0] 32 (0, 0)) ∧ Below w.heap.size w W) ⟨by repeat (first | (with_reducible exact K1c.out) | (with_reducible refine blk_far ?_ NF _)), by repeat (first | (with_reducible exact K2b.out) | (with_reducible refine blk_far ?_ NG _)), blk_fill14 K3.out _ _ _ _ _ _ _ _ _ _ _ _ _ _, low_cells14 L3.out G3.out⟩ ?_
  rintro W ⟨e1, e2, e3, lw⟩
  have E1 := Aside0.mk e1
  have E2 := Aside0.mk e2
  have E3 := Aside0.mk e3
  have LW := Aside0.mk lw
  clear e1 e2 e3 lw hx hy hyz hw hwz K1 K1b K1c K2 K2b K3 L1 L2 L3
  have hx := fun i => blk_cell E1.out i
  have hy := fun i => blk_cell E2.out i
  have hyz := fun i => blk_frozen E2.out i
  have hw := fun i => blk_cell E3.out i
  have hwz := fun i => blk_frozen E3.out i
  go_wp2
  refine bodyPost_ret (results_cell_row rfl _ _ g2 32 #[.int .i64 a0_0, .string a0_1, .string a0_2, .string ⟨#[]⟩, .string ⟨#[]⟩, .int .i64 0, .int .i64 0, .int .i64 0, .int .i64 0, .int .i64 0, .int .i64 0, .int .i64 0, .int .i64 0, .slice none 0 0] (0, 0) _ rfl (blk_fill14 (by repeat (first | (with_reducible exact E2.out) | (with_reducible refine blk_far ?_ NG _))) _ _ _ _ _ _ _ _ _ _ _ _ _ _) Tryz.underlying32 rfl (by kernel_rfl)) rfl ?_
  exact ⟨rfl, by repeat (first | (with_reducible refine below_set ?_ G2.out) | (with_reducible refine below_set ?_ G3.out) | (with_reducible exact LW.out))⟩
set_option maxHeartbeats 8000000 in
set_option maxRecDepth 100000 in
theorem kept_3 (a0_0 : Int) (a0_1 a0_2 a0_3 a0_4 : ByteArray) (a0_5 a0_6 a0_7 a0_8 a0_9 a0_10 a0_11 a0_12 : Int) (A0_13 : Option Addr) (c0_13 : Nat) (l0_13 : List Int) (w : World) (k1 : (a0_0 != 1) = true) (k2 : (a0_0 == 1) = false) (k3 : (a0_0 == 3) = true) :
    Calls Tryz.prog 25 #[.agg #[.int .i64 a0_0, .string a0_1, .string a0_2, .string a0_3, .string a0_4, .int .i64 a0_5, .int .i64 a0_6, .int .i64 a0_7, .int .i64 a0_8, .int .i64 a0_9, .int .i64 a0_10, .int .i64 a0_11, .int .i64 a0_12, .slice A0_13 l0_13.length c0_13]] w fun e w' => e = .returned (.agg #[.int .i64 a0_0, .string a0_1, .string a0_2, .string ⟨#[]⟩, .string ⟨#[]⟩, .int .i64 0, .int .i64 a0_6, .int .i64 a0_7, .int .i64 0, .int .i64 0, .int .i64 a0_10, .int .i64 0, .int .i64 0, .slice none 0 0]) ∧ Below w.heap.size w w' := by
  have HB0 := Aside0.mk (Below.refl w.heap.size w)
  go_enter Tryz.func25, Tryz.ntmps25
  go_upto_region 2 with (first | ((with_reducible refine gate_dst (N := 1) rfl ?_); refine box_event ?hg (N := 1) ?hd (cs := #[.int .i64 a0_0, .string a0_1, .string a0_2, .string a0_3, .string a0_4, .int .i64 a0_5, .int .i64 a0_6, .int .i64 a0_7, .int .i64 a0_8, .int .i64 a0_9, .int .i64 a0_10, .int .i64 a0_11, .int .i64 a0_12, .slice A0_13 l0_13.length c0_13]) (t := 32) ?hr ?_; (case hd => rfl); (case hg => rfl); (case hr => first | (go_simp; done) | (go_simp; rfl)); intro g1 hg w1 hbox hb; have K1 := Aside0.mk hbox; have L1 := Aside0.mk (HB0.out.trans (hb.mono HB0.out.size)); clear HB0; clear hb hbox hg) | ((with_reducible refine gate_dst (N := 2) rfl ?_); refine box_event ?hg (N := 2) ?hd (cs := #[.int .i64 0, .string ⟨#[]⟩, .string ⟨#[]⟩, .string ⟨#[]⟩, .string ⟨#[]⟩, .int .i64 0, .int .i64 0, .int .i64 0, .int .i64 0, .int .i64 0, .int .i64 0, .int .i64 0, .int .i64 0, .slice none 0 0]) (t := 32) ?hr ?_; (case hd => rfl); (case hg => rfl); (case hr => first | (go_simp; done) | (go_simp; rfl)); intro g2 hg w2 hbox hb; have K2 := Aside0.mk hbox; have K1b := Aside0.mk (blk_below K1.out hb); have L2 := Aside0.mk (L1.out.trans (hb.mono L1.out.size)); have G2 : Aside0 (w.heap.size ≤ g2) := ⟨by rw [hg]; exact L1.out.size⟩; have NE : g1 ≠ g2 := (by rw [hg]; exact Nat.ne_of_lt (blk_lt K1.out)); have NE' : g2 ≠ g1 := Ne.symm NE; have hx := fun i => blk_cell K1b.out i; have hz := fun i => blk_frozen K1b.out i; clear hb hbox hg) | ((with_reducible refine gate_dst (N := 3) rfl ?_); refine box_event ?hg (N := 3) ?hd (cs := #[.int .i64 0, .string ⟨#[]⟩, .string ⟨#[]⟩, .string ⟨#[]⟩, .string ⟨#[]⟩, .int .i64 0, .int .i64 0, .int .i64 0, .int .i64 0, .int .i64 0, .int .i64 0, .int .i64 0, .int .i64 0, .slice none 0 0]) (t := 32) ?hr ?_; (case hd => rfl); (case hg => rfl); (case hr => first | (go_simp; done) | (go_simp; rfl)); intro g3 hg w3 hbox hb; (try clear hx hz); have K3 := Aside0.mk hbox; have K1c := Aside0.mk (blk_below K1b.out hb); have K2b := Aside0.mk (blk_below K2.out hb); have L3 := Aside0.mk (L2.out.trans (hb.mono L2.out.size)); have G3 : Aside0 (w.heap.size ≤ g3) := ⟨by rw [hg]; exact L2.out.size⟩; have NF : g1 ≠ g3 := (by rw [hg]; exact Nat.ne_of_lt (blk_lt K1b.out)); have NF' : g3 ≠ g1 := Ne.symm NF; have NG : g2 ≠ g3 := (by rw [hg]; exact Nat.ne_of_lt (blk_lt K2.out)); have NG' : g3 ≠ g2 := Ne.symm NG; have hx := fun i => blk_cell K1c.out i; have hy := fun i => blk_cell K2b.out i; have hyz := fun i => blk_frozen K2b.out i; have hw := fun i => blk_cell K3.out i; have hwz := fun i => blk_frozen K3.out i; clear hb hbox hg))
  refine world_cut (fun W => W.heap[g1]? = some (.cells #[.int .i64 a0_0, .string a0_1, .string a0_2, .string a0_3, .string a0_4, .int .i64 a0_5, .int .i64 a0_6, .int .i64 a0_7, .int .i64 a0_8, .int .i64 a0_9, .int .i64 a0_10, .int .i64 a0_11, .int .i64 a0_12, .slice A0_13 l0_13.length c0_13] 32 (0, 0)) ∧ W.heap[g2]? = some (.cells #[.int .i64 0, .string ⟨#[]⟩, .string ⟨#[]⟩, .string ⟨#[]⟩, .string ⟨#[]⟩, .int .i64 0, .int .i64 0, .int .i64 0, .int .i64 0, .int .i64 0, .int .i64 0, .int .i64 0, .int .i64 0, .slice none 0 0] 32 (0, 0)) ∧ W.heap[g3]? = some (.cells #[.int .i64 a0_0, .string a0_1, .string ⟨#[]⟩, .string ⟨#[]⟩, .string ⟨#[]⟩, .int .i64 0, .int .i64 0, .int .i64 0, .int .i64 0, .int .i64 0, .int .i64 0, .int .i64 0, .int .i64 0, .slice none 0 0] 32 (0, 0)) ∧ Below w.heap.size w W) ⟨by repeat (first | (with_reducible exact K1c.out) | (with_reducible refine blk_far ?_ NF _)), by repeat (first | (with_reducible exact K2b.out) | (with_reducible refine blk_far ?_ NG _)), blk_fill14 K3.out _ _ _ _ _ _ _ _ _ _ _ _ _ _, low_cells14 L3.out G3.out⟩ ?_
  rintro W ⟨e1, e2, e3, lw⟩
  have E1 := Aside0.mk e1
  have E2 := Aside0.mk e2
  have E3 := Aside0.mk e3
  have LW := Aside0.mk lw
  clear e1 e2 e3 lw hx hy hyz hw hwz K1 K1b K1c K2 K2b K3 L1 L2 L3
  have hx := fun i => blk_cell E1.out i
  have hy := fun i => blk_cell E2.out i
  have hyz := fun i => blk_frozen E2.out i
  have hw := fun i => blk_cell E3.out i
  have hwz := fun i => blk_frozen E3.out i
  go_wp2
  refine bodyPost_ret (results_cell_row rfl _ _ g2 32 #[.int .i64 a0_0, .string a0_1, .string a0_2, .string ⟨#[]⟩, .string ⟨#[]⟩, .int .i64 0, .int .i64 a0_6, .int .i64 a0_7, .int .i64 0, .int .i64 0, .int .i64 a0_10, .int .i64 0, .int .i64 0, .slice none 0 0] (0, 0) _ rfl (blk_fill14 (by repeat (first | (with_reducible exact E2.out) | (with_reducible refine blk_far ?_ NG _))) _ _ _ _ _ _ _ _ _ _ _ _ _ _) Tryz.underlying32 rfl (by kernel_rfl)) rfl ?_
  exact ⟨rfl, by repeat (first | (with_reducible refine below_set ?_ G2.out) | (with_reducible refine below_set ?_ G3.out) | (with_reducible exact LW.out))⟩
set_option maxHeartbeats 8000000 in
set_option maxRecDepth 100000 in
theorem kept_1_2 (a0_0 : Int) (a0_1 a0_2 a0_3 a0_4 : ByteArray) (a0_5 a0_6 a0_7 a0_8 a0_9 a0_10 a0_11 a0_12 : Int) (A0_13 : Option Addr) (c0_13 : Nat) (l0_13 : List Int) (w : World) (k1 : (a0_0 != 1) = false) (k2 : (a0_0 == 1) = true) (g2_ : (a0_8 == 2) = true) (g3_ : (a0_8 == 3) = false) (g4_ : (a0_8 == 4) = false) :
    Calls Tryz.prog 25 #[.agg #[.int .i64 a0_0, .string a0_1, .string a0_2, .string a0_3, .string a0_4, .int .i64 a0_5, .int .i64 a0_6, .int .i64 a0_7, .int .i64 a0_8, .int .i64 a0_9, .int .i64 a0_10, .int .i64 a0_11, .int .i64 a0_12, .slice A0_13 l0_13.length c0_13]] w fun e w' => e = .returned (.agg #[.int .i64 a0_0, .string a0_1, .string ⟨#[]⟩, .string a0_3, .string a0_4, .int .i64 a0_5, .int .i64 a0_6, .int .i64 a0_7, .int .i64 a0_8, .int .i64 a0_9, .int .i64 a0_10, .int .i64 0, .int .i64 0, .slice A0_13 l0_13.length c0_13]) ∧ Below w.heap.size w w' := by
  have HB0 := Aside0.mk (Below.refl w.heap.size w)
  go_enter Tryz.func25, Tryz.ntmps25
  go_upto_region 2 with (first | ((with_reducible refine gate_dst (N := 1) rfl ?_); refine box_event ?hg (N := 1) ?hd (cs := #[.int .i64 a0_0, .string a0_1, .string a0_2, .string a0_3, .string a0_4, .int .i64 a0_5, .int .i64 a0_6, .int .i64 a0_7, .int .i64 a0_8, .int .i64 a0_9, .int .i64 a0_10, .int .i64 a0_11, .int .i64 a0_12, .slice A0_13 l0_13.length c0_13]) (t := 32) ?hr ?_; (case hd => rfl); (case hg => rfl); (case hr => first | (go_simp; done) | (go_simp; rfl)); intro g1 hg w1 hbox hb; have K1 := Aside0.mk hbox; have L1 := Aside0.mk (HB0.out.trans (hb.mono HB0.out.size)); clear HB0; clear hb hbox hg) | ((with_reducible refine gate_dst (N := 2) rfl ?_); refine box_event ?hg (N := 2) ?hd (cs := #[.int .i64 0, .string ⟨#[]⟩, .string ⟨#[]⟩, .string ⟨#[]⟩, .string ⟨#[]⟩, .int .i64 0, .int .i64 0, .int .i64 0, .int .i64 0, .int .i64 0, .int .i64 0, .int .i64 0, .int .i64 0, .slice none 0 0]) (t := 32) ?hr ?_; (case hd => rfl); (case hg => rfl); (case hr => first | (go_simp; done) | (go_simp; rfl)); intro g2 hg w2 hbox hb; have K2 := Aside0.mk hbox; have K1b := Aside0.mk (blk_below K1.out hb); have L2 := Aside0.mk (L1.out.trans (hb.mono L1.out.size)); have G2 : Aside0 (w.heap.size ≤ g2) := ⟨by rw [hg]; exact L1.out.size⟩; have NE : g1 ≠ g2 := (by rw [hg]; exact Nat.ne_of_lt (blk_lt K1.out)); have NE' : g2 ≠ g1 := Ne.symm NE; have hx := fun i => blk_cell K1b.out i; have hz := fun i => blk_frozen K1b.out i; clear hb hbox hg) | ((with_reducible refine gate_dst (N := 3) rfl ?_); refine box_event ?hg (N := 3) ?hd (cs := #[.int .i64 0, .string ⟨#[]⟩, .string ⟨#[]⟩, .string ⟨#[]⟩, .string ⟨#[]⟩, .int .i64 0, .int .i64 0, .int .i64 0, .int .i64 0, .int .i64 0, .int .i64 0, .int .i64 0, .int .i64 0, .slice none 0 0]) (t := 32) ?hr ?_; (case hd => rfl); (case hg => rfl); (case hr => first | (go_simp; done) | (go_simp; rfl)); intro g3 hg w3 hbox hb; (try clear hx hz); have K3 := Aside0.mk hbox; have K1c := Aside0.mk (blk_below K1b.out hb); have K2b := Aside0.mk (blk_below K2.out hb); have L3 := Aside0.mk (L2.out.trans (hb.mono L2.out.size)); have G3 : Aside0 (w.heap.size ≤ g3) := ⟨by rw [hg]; exact L2.out.size⟩; have NF : g1 ≠ g3 := (by rw [hg]; exact Nat.ne_of_lt (blk_lt K1b.out)); have NF' : g3 ≠ g1 := Ne.symm NF; have NG : g2 ≠ g3 := (by rw [hg]; exact Nat.ne_of_lt (blk_lt K2.out)); have NG' : g3 ≠ g2 := Ne.symm NG; have hx := fun i => blk_cell K1c.out i; have hy := fun i => blk_cell K2b.out i; have hyz := fun i => blk_frozen K2b.out i; have hw := fun i => blk_cell K3.out i; have hwz := fun i => blk_frozen K3.out i; clear hb hbox hg))
  refine world_cut (fun W => W.heap[g1]? = some (.cells #[.int .i64 a0_0, .string a0_1, .string a0_2, .string a0_3, .string a0_4, .int .i64 a0_5, .int .i64 a0_6, .int .i64 a0_7, .int .i64 a0_8, .int .i64 a0_9, .int .i64 a0_10, .int .i64 a0_11, .int .i64 a0_12, .slice A0_13 l0_13.length c0_13] 32 (0, 0)) ∧ W.heap[g2]? = some (.cells #[.int .i64 0, .string ⟨#[]⟩, .string ⟨#[]⟩, .string ⟨#[]⟩, .string ⟨#[]⟩, .int .i64 0, .int .i64 0, .int .i64 0, .int .i64 0, .int .i64 0, .int .i64 0, .int .i64 0, .int .i64 0, .slice none 0 0] 32 (0, 0)) ∧ W.heap[g3]? = some (.cells #[.int .i64 a0_0, .string a0_1, .string ⟨#[]⟩, .string ⟨#[]⟩, .string ⟨#[]⟩, .int .i64 0, .int .i64 0, .int .i64 0, .int .i64 0, .int .i64 0, .int .i64 0, .int .i64 0, .int .i64 0, .slice none 0 0] 32 (0, 0)) ∧ Below w.heap.size w W) ⟨by repeat (first | (with_reducible exact K1c.out) | (with_reducible refine blk_far ?_ NF _)), by repeat (first | (with_reducible exact K2b.out) | (with_reducible refine blk_far ?_ NG _)), blk_fill14 K3.out _ _ _ _ _ _ _ _ _ _ _ _ _ _, low_cells14 L3.out G3.out⟩ ?_
  rintro W ⟨e1, e2, e3, lw⟩
  have E1 := Aside0.mk e1
  have E2 := Aside0.mk e2
  have E3 := Aside0.mk e3
  have LW := Aside0.mk lw
  clear e1 e2 e3 lw hx hy hyz hw hwz K1 K1b K1c K2 K2b K3 L1 L2 L3
  have hx := fun i => blk_cell E1.out i
  have hy := fun i => blk_cell E2.out i
  have hyz := fun i => blk_frozen E2.out i
  have hw := fun i => blk_cell E3.out i
  have hwz := fun i => blk_frozen E3.out i
  go_wp2
  refine bodyPost_ret (results_cell_row rfl _ _ g2 32 #[.int .i64 a0_0, .string a0_1, .string ⟨#[]⟩, .string a0_3, .string a0_4, .int .i64 a0_5, .int .i64 a0_6, .int .i64 a0_7, .int .i64 a0_8, .int .i64 a0_9, .int .i64 a0_10, .int .i64 0, .int .i64 0, .slice A0_13 l0_13.length c0_13] (0, 0) _ rfl (blk_fill14 (by repeat (first | (with_reducible exact E2.out) | (with_reducible refine blk_far ?_ NG _))) _ _ _ _ _ _ _ _ _ _ _ _ _ _) Tryz.underlying32 rfl (by kernel_rfl)) rfl ?_
  exact ⟨rfl, by repeat (first | (with_reducible refine below_set ?_ G2.out) | (with_reducible refine below_set ?_ G3.out) | (with_reducible exact LW.out))⟩
set_option maxHeartbeats 8000000 in
set_option maxRecDepth 100000 in
theorem kept_1_3 (a0_0 : Int) (a0_1 a0_2 a0_3 a0_4 : ByteArray) (a0_5 a0_6 a0_7 a0_8 a0_9 a0_10 a0_11 a0_12 : Int) (A0_13 : Option Addr) (c0_13 : Nat) (l0_13 : List Int) (w : World) (k1 : (a0_0 != 1) = false) (k2 : (a0_0 == 1) = true) (g2_ : (a0_8 == 2) = false) (g3_ : (a0_8 == 3) = true) (g4_ : (a0_8 == 4) = false) :
    Calls Tryz.prog 25 #[.agg #[.int .i64 a0_0, .string a0_1, .string a0_2, .string a0_3, .string a0_4, .int .i64 a0_5, .int .i64 a0_6, .int .i64 a0_7, .int .i64 a0_8, .int .i64 a0_9, .int .i64 a0_10, .int .i64 a0_11, .int .i64 a0_12, .slice A0_13 l0_13.length c0_13]] w fun e w' => e = .returned (.agg #[.int .i64 a0_0, .string a0_1, .string ⟨#[]⟩, .string a0_3, .string a0_4, .int .i64 a0_5, .int .i64 a0_6, .int .i64 a0_7, .int .i64 a0_8, .int .i64 a0_9, .int .i64 a0_10, .int .i64 a0_11, .int .i64 0, .slice none 0 0]) ∧ Below w.heap.size w w' := by
  have HB0 := Aside0.mk (Below.refl w.heap.size w)
  go_enter Tryz.func25, Tryz.ntmps25
  go_upto_region 2 with (first | ((with_reducible refine gate_dst (N := 1) rfl ?_); refine box_event ?hg (N := 1) ?hd (cs := #[.int .i64 a0_0, .string a0_1, .string a0_2, .string a0_3, .string a0_4, .int .i64 a0_5, .int .i64 a0_6, .int .i64 a0_7, .int .i64 a0_8, .int .i64 a0_9, .int .i64 a0_10, .int .i64 a0_11, .int .i64 a0_12, .slice A0_13 l0_13.length c0_13]) (t := 32) ?hr ?_; (case hd => rfl); (case hg => rfl); (case hr => first | (go_simp; done) | (go_simp; rfl)); intro g1 hg w1 hbox hb; have K1 := Aside0.mk hbox; have L1 := Aside0.mk (HB0.out.trans (hb.mono HB0.out.size)); clear HB0; clear hb hbox hg) | ((with_reducible refine gate_dst (N := 2) rfl ?_); refine box_event ?hg (N := 2) ?hd (cs := #[.int .i64 0, .string ⟨#[]⟩, .string ⟨#[]⟩, .string ⟨#[]⟩, .string ⟨#[]⟩, .int .i64 0, .int .i64 0, .int .i64 0, .int .i64 0, .int .i64 0, .int .i64 0, .int .i64 0, .int .i64 0, .slice none 0 0]) (t := 32) ?hr ?_; (case hd => rfl); (case hg => rfl); (case hr => first | (go_simp; done) | (go_simp; rfl)); intro g2 hg w2 hbox hb; have K2 := Aside0.mk hbox; have K1b := Aside0.mk (blk_below K1.out hb); have L2 := Aside0.mk (L1.out.trans (hb.mono L1.out.size)); have G2 : Aside0 (w.heap.size ≤ g2) := ⟨by rw [hg]; exact L1.out.size⟩; have NE : g1 ≠ g2 := (by rw [hg]; exact Nat.ne_of_lt (blk_lt K1.out)); have NE' : g2 ≠ g1 := Ne.symm NE; have hx := fun i => blk_cell K1b.out i; have hz := fun i => blk_frozen K1b.out i; clear hb hbox hg) | ((with_reducible refine gate_dst (N := 3) rfl ?_); refine box_event ?hg (N := 3) ?hd (cs := #[.int .i64 0, .string ⟨#[]⟩, .string ⟨#[]⟩, .string ⟨#[]⟩, .string ⟨#[]⟩, .int .i64 0, .int .i64 0, .int .i64 0, .int .i64 0, .int .i64 0, .int .i64 0, .int .i64 0, .int .i64 0, .slice none 0 0]) (t := 32) ?hr ?_; (case hd => rfl); (case hg => rfl); (case hr => first | (go_simp; done) | (go_simp; rfl)); intro g3 hg w3 hbox hb; (try clear hx hz); have K3 := Aside0.mk hbox; have K1c := Aside0.mk (blk_below K1b.out hb); have K2b := Aside0.mk (blk_below K2.out hb); have L3 := Aside0.mk (L2.out.trans (hb.mono L2.out.size)); have G3 : Aside0 (w.heap.size ≤ g3) := ⟨by rw [hg]; exact L2.out.size⟩; have NF : g1 ≠ g3 := (by rw [hg]; exact Nat.ne_of_lt (blk_lt K1b.out)); have NF' : g3 ≠ g1 := Ne.symm NF; have NG : g2 ≠ g3 := (by rw [hg]; exact Nat.ne_of_lt (blk_lt K2.out)); have NG' : g3 ≠ g2 := Ne.symm NG; have hx := fun i => blk_cell K1c.out i; have hy := fun i => blk_cell K2b.out i; have hyz := fun i => blk_frozen K2b.out i; have hw := fun i => blk_cell K3.out i; have hwz := fun i => blk_frozen K3.out i; clear hb hbox hg))
  refine world_cut (fun W => W.heap[g1]? = some (.cells #[.int .i64 a0_0, .string a0_1, .string a0_2, .string a0_3, .string a0_4, .int .i64 a0_5, .int .i64 a0_6, .int .i64 a0_7, .int .i64 a0_8, .int .i64 a0_9, .int .i64 a0_10, .int .i64 a0_11, .int .i64 a0_12, .slice A0_13 l0_13.length c0_13] 32 (0, 0)) ∧ W.heap[g2]? = some (.cells #[.int .i64 0, .string ⟨#[]⟩, .string ⟨#[]⟩, .string ⟨#[]⟩, .string ⟨#[]⟩, .int .i64 0, .int .i64 0, .int .i64 0, .int .i64 0, .int .i64 0, .int .i64 0, .int .i64 0, .int .i64 0, .slice none 0 0] 32 (0, 0)) ∧ W.heap[g3]? = some (.cells #[.int .i64 a0_0, .string a0_1, .string ⟨#[]⟩, .string ⟨#[]⟩, .string ⟨#[]⟩, .int .i64 0, .int .i64 0, .int .i64 0, .int .i64 0, .int .i64 0, .int .i64 0, .int .i64 0, .int .i64 0, .slice none 0 0] 32 (0, 0)) ∧ Below w.heap.size w W) ⟨by repeat (first | (with_reducible exact K1c.out) | (with_reducible refine blk_far ?_ NF _)), by repeat (first | (with_reducible exact K2b.out) | (with_reducible refine blk_far ?_ NG _)), blk_fill14 K3.out _ _ _ _ _ _ _ _ _ _ _ _ _ _, low_cells14 L3.out G3.out⟩ ?_
  rintro W ⟨e1, e2, e3, lw⟩
  have E1 := Aside0.mk e1
  have E2 := Aside0.mk e2
  have E3 := Aside0.mk e3
  have LW := Aside0.mk lw
  clear e1 e2 e3 lw hx hy hyz hw hwz K1 K1b K1c K2 K2b K3 L1 L2 L3
  have hx := fun i => blk_cell E1.out i
  have hy := fun i => blk_cell E2.out i
  have hyz := fun i => blk_frozen E2.out i
  have hw := fun i => blk_cell E3.out i
  have hwz := fun i => blk_frozen E3.out i
  go_wp2
  refine bodyPost_ret (results_cell_row rfl _ _ g2 32 #[.int .i64 a0_0, .string a0_1, .string ⟨#[]⟩, .string a0_3, .string a0_4, .int .i64 a0_5, .int .i64 a0_6, .int .i64 a0_7, .int .i64 a0_8, .int .i64 a0_9, .int .i64 a0_10, .int .i64 a0_11, .int .i64 0, .slice none 0 0] (0, 0) _ rfl (blk_fill14 (by repeat (first | (with_reducible exact E2.out) | (with_reducible refine blk_far ?_ NG _))) _ _ _ _ _ _ _ _ _ _ _ _ _ _) Tryz.underlying32 rfl (by kernel_rfl)) rfl ?_
  exact ⟨rfl, by repeat (first | (with_reducible refine below_set ?_ G2.out) | (with_reducible refine below_set ?_ G3.out) | (with_reducible exact LW.out))⟩
set_option maxHeartbeats 8000000 in
set_option maxRecDepth 100000 in
theorem kept_1_4 (a0_0 : Int) (a0_1 a0_2 a0_3 a0_4 : ByteArray) (a0_5 a0_6 a0_7 a0_8 a0_9 a0_10 a0_11 a0_12 : Int) (A0_13 : Option Addr) (c0_13 : Nat) (l0_13 : List Int) (w : World) (k1 : (a0_0 != 1) = false) (k2 : (a0_0 == 1) = true) (g2_ : (a0_8 == 2) = false) (g3_ : (a0_8 == 3) = false) (g4_ : (a0_8 == 4) = true) :
    Calls Tryz.prog 25 #[.agg #[.int .i64 a0_0, .string a0_1, .string a0_2, .string a0_3, .string a0_4, .int .i64 a0_5, .int .i64 a0_6, .int .i64 a0_7, .int .i64 a0_8, .int .i64 a0_9, .int .i64 a0_10, .int .i64 a0_11, .int .i64 a0_12, .slice A0_13 l0_13.length c0_13]] w fun e w' => e = .returned (.agg #[.int .i64 a0_0, .string a0_1, .string ⟨#[]⟩, .string a0_3, .string a0_4, .int .i64 a0_5, .int .i64 a0_6, .int .i64 a0_7, .int .i64 a0_8, .int .i64 a0_9, .int .i64 a0_10, .int .i64 0, .int .i64 a0_12, .slice none 0 0]) ∧ Below w.heap.size w w' := by
  have HB0 := Aside0.mk (Below.refl w.heap.size w)
  go_enter Tryz.func25, Tryz.ntmps25
  go_upto_region 2 with (first | ((with_reducible refine gate_dst (N := 1) rfl ?_); refine box_event ?hg (N := 1) ?hd (cs := #[.int .i64 a0_0, .string a0_1, .string a0_2, .string a0_3, .string a0_4, .int .i64 a0_5, .int .i64 a0_6, .int .i64 a0_7, .int .i64 a0_8, .int .i64 a0_9, .int .i64 a0_10, .int .i64 a0_11, .int .i64 a0_12, .slice A0_13 l0_13.length c0_13]) (t := 32) ?hr ?_; (case hd => rfl); (case hg => rfl); (case hr => first | (go_simp; done) | (go_simp; rfl)); intro g1 hg w1 hbox hb; have K1 := Aside0.mk hbox; have L1 := Aside0.mk (HB0.out.trans (hb.mono HB0.out.size)); clear HB0; clear hb hbox hg) | ((with_reducible refine gate_dst (N := 2) rfl ?_); refine box_event ?hg (N := 2) ?hd (cs := #[.int .i64 0, .string ⟨#[]⟩, .string ⟨#[]⟩, .string ⟨#[]⟩, .string ⟨#[]⟩, .int .i64 0, .int .i64 0, .int .i64 0, .int .i64 0, .int .i64 0, .int .i64 0, .int .i64 0, .int .i64 0, .slice none 0 0]) (t := 32) ?hr ?_; (case hd => rfl); (case hg => rfl); (case hr => first | (go_simp; done) | (go_simp; rfl)); intro g2 hg w2 hbox hb; have K2 := Aside0.mk hbox; have K1b := Aside0.mk (blk_below K1.out hb); have L2 := Aside0.mk (L1.out.trans (hb.mono L1.out.size)); have G2 : Aside0 (w.heap.size ≤ g2) := ⟨by rw [hg]; exact L1.out.size⟩; have NE : g1 ≠ g2 := (by rw [hg]; exact Nat.ne_of_lt (blk_lt K1.out)); have NE' : g2 ≠ g1 := Ne.symm NE; have hx := fun i => blk_cell K1b.out i; have hz := fun i => blk_frozen K1b.out i; clear hb hbox hg) | ((with_reducible refine gate_dst (N := 3) rfl ?_); refine box_event ?hg (N := 3) ?hd (cs := #[.int .i64 0, .string ⟨#[]⟩, .string ⟨#[]⟩, .string ⟨#[]⟩, .string ⟨#[]⟩, .int .i64 0, .int .i64 0, .int .i64 0, .int .i64 0, .int .i64 0, .int .i64 0, .int .i64 0, .int .i64 0, .slice none 0 0]) (t := 32) ?hr ?_; (case hd => rfl); (case hg => rfl); (case hr => first | (go_simp; done) | (go_simp; rfl)); intro g3 hg w3 hbox hb; (try clear hx hz); have K3 := Aside0.mk hbox; have K1c := Aside0.mk (blk_below K1b.out hb); have K2b := Aside0.mk (blk_below K2.out hb); have L3 := Aside0.mk (L2.out.trans (hb.mono L2.out.size)); have G3 : Aside0 (w.heap.size ≤ g3) := ⟨by rw [hg]; exact L2.out.size⟩; have NF : g1 ≠ g3 := (by rw [hg]; exact Nat.ne_of_lt (blk_lt K1b.out)); have NF' : g3 ≠ g1 := Ne.symm NF; have NG : g2 ≠ g3 := (by rw [hg]; exact Nat.ne_of_lt (blk_lt K2.out)); have NG' : g3 ≠ g2 := Ne.symm NG; have hx := fun i => blk_cell K1c.out i; have hy := fun i => blk_cell K2b.out i; have hyz := fun i => blk_frozen K2b.out i; have hw := fun i => blk_cell K3.out i; have hwz := fun i => blk_frozen K3.out i; clear hb hbox hg))
  refine world_cut (fun W => W.heap[g1]? = some (.cells #[.int .i64 a0_0, .string a0_1, .string a0_2, .string a0_3, .string a0_4, .int .i64 a0_5, .int .i64 a0_6, .int .i64 a0_7, .int .i64 a0_8, .int .i64 a0_9, .int .i64 a0_10, .int .i64 a0_11, .int .i64 a0_12, .slice A0_13 l0_13.length c0_13] 32 (0, 0)) ∧ W.heap[g2]? = some (.cells #[.int .i64 0, .string ⟨#[]⟩, .string ⟨#[]⟩, .string ⟨#[]⟩, .string ⟨#[]⟩, .int .i64 0, .int .i64 0, .int .i64 0, .int .i64 0, .int .i64 0, .int .i64 0, .int .i64 0, .int .i64 0, .slice none 0 0] 32 (0, 0)) ∧ W.heap[g3]? = some (.cells #[.int .i64 a0_0, .string a0_1, .string ⟨#[]⟩, .string ⟨#[]⟩, .string ⟨#[]⟩, .int .i64 0, .int .i64 0, .int .i64 0, .int .i64 0, .int .i64 0, .int .i64 0, .int .i64 0, .int .i64 0, .slice none 0 0] 32 (0, 0)) ∧ Below w.heap.size w W) ⟨by repeat (first | (with_reducible exact K1c.out) | (with_reducible refine blk_far ?_ NF _)), by repeat (first | (with_reducible exact K2b.out) | (with_reducible refine blk_far ?_ NG _)), blk_fill14 K3.out _ _ _ _ _ _ _ _ _ _ _ _ _ _, low_cells14 L3.out G3.out⟩ ?_
  rintro W ⟨e1, e2, e3, lw⟩
  have E1 := Aside0.mk e1
  have E2 := Aside0.mk e2
  have E3 := Aside0.mk e3
  have LW := Aside0.mk lw
  clear e1 e2 e3 lw hx hy hyz hw hwz K1 K1b K1c K2 K2b K3 L1 L2 L3
  have hx := fun i => blk_cell E1.out i
  have hy := fun i => blk_cell E2.out i
  have hyz := fun i => blk_frozen E2.out i
  have hw := fun i => blk_cell E3.out i
  have hwz := fun i => blk_frozen E3.out i
  go_wp2
  refine bodyPost_ret (results_cell_row rfl _ _ g2 32 #[.int .i64 a0_0, .string a0_1, .string ⟨#[]⟩, .string a0_3, .string a0_4, .int .i64 a0_5, .int .i64 a0_6, .int .i64 a0_7, .int .i64 a0_8, .int .i64 a0_9, .int .i64 a0_10, .int .i64 0, .int .i64 a0_12, .slice none 0 0] (0, 0) _ rfl (blk_fill14 (by repeat (first | (with_reducible exact E2.out) | (with_reducible refine blk_far ?_ NG _))) _ _ _ _ _ _ _ _ _ _ _ _ _ _) Tryz.underlying32 rfl (by kernel_rfl)) rfl ?_
  exact ⟨rfl, by repeat (first | (with_reducible refine below_set ?_ G2.out) | (with_reducible refine below_set ?_ G3.out) | (with_reducible exact LW.out))⟩
set_option maxHeartbeats 8000000 in
set_option maxRecDepth 100000 in
theorem kept_1_x (a0_0 : Int) (a0_1 a0_2 a0_3 a0_4 : ByteArray) (a0_5 a0_6 a0_7 a0_8 a0_9 a0_10 a0_11 a0_12 : Int) (A0_13 : Option Addr) (c0_13 : Nat) (l0_13 : List Int) (w : World) (k1 : (a0_0 != 1) = false) (k2 : (a0_0 == 1) = true) (g2_ : (a0_8 == 2) = false) (g3_ : (a0_8 == 3) = false) (g4_ : (a0_8 == 4) = false) :
    Calls Tryz.prog 25 #[.agg #[.int .i64 a0_0, .string a0_1, .string a0_2, .string a0_3, .string a0_4, .int .i64 a0_5, .int .i64 a0_6, .int .i64 a0_7, .int .i64 a0_8, .int .i64 a0_9, .int .i64 a0_10, .int .i64 a0_11, .int .i64 a0_12, .slice A0_13 l0_13.length c0_13]] w fun e w' => e = .returned (.agg #[.int .i64 a0_0, .string a0_1, .string ⟨#[]⟩, .string a0_3, .string a0_4, .int .i64 a0_5, .int .i64 a0_6, .int .i64 a0_7, .int .i64 a0_8, .int .i64 a0_9, .int .i64 a0_10, .int .i64 0, .int .i64 0, .slice none 0 0]) ∧ Below w.heap.size w w' := by
  have HB0 := Aside0.mk (Below.refl w.heap.size w)
  go_enter Tryz.func25, Tryz.ntmps25
  go_upto_region 2 with (first | ((with_reducible refine gate_dst (N := 1) rfl ?_); refine box_event ?hg (N := 1) ?hd (cs := #[.int .i64 a0_0, .string a0_1, .string a0_2, .string a0_3, .string a0_4, .int .i64 a0_5, .int .i64 a0_6, .int .i64 a0_7, .int .i64 a0_8, .int .i64 a0_9, .int .i64 a0_10, .int .i64 a0_11, .int .i64 a0_12, .slice A0_13 l0_13.length c0_13]) (t := 32) ?hr ?_; (case hd => rfl); (case hg => rfl); (case hr => first | (go_simp; done) | (go_simp; rfl)); intro g1 hg w1 hbox hb; have K1 := Aside0.mk hbox; have L1 := Aside0.mk (HB0.out.trans (hb.mono HB0.out.size)); clear HB0; clear hb hbox hg) | ((with_reducible refine gate_dst (N := 2) rfl ?_); refine box_event ?hg (N := 2) ?hd (cs := #[.int .i64 0, .string ⟨#[]⟩, .string ⟨#[]⟩, .string ⟨#[]⟩, .string ⟨#[]⟩, .int .i64 0, .int .i64 0, .int .i64 0, .int .i64 0, .int .i64 0, .int .i64 0, .int .i64 0, .int .i64 0, .slice none 0 0]) (t := 32) ?hr ?_; (case hd => rfl); (case hg => rfl); (case hr => first | (go_simp; done) | (go_simp; rfl)); intro g2 hg w2 hbox hb; have K2 := Aside0.mk hbox; have K1b := Aside0.mk (blk_below K1.out hb); have L2 := Aside0.mk (L1.out.trans (hb.mono L1.out.size)); have G2 : Aside0 (w.heap.size ≤ g2) := ⟨by rw [hg]; exact L1.out.size⟩; have NE : g1 ≠ g2 := (by rw [hg]; exact Nat.ne_of_lt (blk_lt K1.out)); have NE' : g2 ≠ g1 := Ne.symm NE; have hx := fun i => blk_cell K1b.out i; have hz := fun i => blk_frozen K1b.out i; clear hb hbox hg) | ((with_reducible refine gate_dst (N := 3) rfl ?_); refine box_event ?hg (N := 3) ?hd (cs := #[.int .i64 0, .string ⟨#[]⟩, .string ⟨#[]⟩, .string ⟨#[]⟩, .string ⟨#[]⟩, .int .i64 0, .int .i64 0, .int .i64 0, .int .i64 0, .int .i64 0, .int .i64 0, .int .i64 0, .int .i64 0, .slice none 0 0]) (t := 32) ?hr ?_; (case hd => rfl); (case hg => rfl); (case hr => first | (go_simp; done) | (go_simp; rfl)); intro g3 hg w3 hbox hb; (try clear hx hz); have K3 := Aside0.mk hbox; have K1c := Aside0.mk (blk_below K1b.out hb); have K2b := Aside0.mk (blk_below K2.out hb); have L3 := Aside0.mk (L2.out.trans (hb.mono L2.out.size)); have G3 : Aside0 (w.heap.size ≤ g3) := ⟨by rw [hg]; exact L2.out.size⟩; have NF : g1 ≠ g3 := (by rw [hg]; exact Nat.ne_of_lt (blk_lt K1b.out)); have NF' : g3 ≠ g1 := Ne.symm NF; have NG : g2 ≠ g3 := (by rw [hg]; exact Nat.ne_of_lt (blk_lt K2.out)); have NG' : g3 ≠ g2 := Ne.symm NG; have hx := fun i => blk_cell K1c.out i; have hy := fun i => blk_cell K2b.out i; have hyz := fun i => blk_frozen K2b.out i; have hw := fun i => blk_cell K3.out i; have hwz := fun i => blk_frozen K3.out i; clear hb hbox hg))
  refine world_cut (fun W => W.heap[g1]? = some (.cells #[.int .i64 a0_0, .string a0_1, .string a0_2, .string a0_3, .string a0_4, .int .i64 a0_5, .int .i64 a0_6, .int .i64 a0_7, .int .i64 a0_8, .int .i64 a0_9, .int .i64 a0_10, .int .i64 a0_11, .int .i64 a0_12, .slice A0_13 l0_13.length c0_13] 32 (0, 0)) ∧ W.heap[g2]? = some (.cells #[.int .i64 0, .string ⟨#[]⟩, .string ⟨#[]⟩, .string ⟨#[]⟩, .string ⟨#[]⟩, .int .i64 0, .int .i64 0, .int .i64 0, .int .i64 0, .int .i64 0, .int .i64 0, .int .i64 0, .int .i64 0, .slice none 0 0] 32 (0, 0)) ∧ W.heap[g3]? = some (.cells #[.int .i64 a0_0, .string a0_1, .string ⟨#[]⟩, .string ⟨#[]⟩, .string ⟨#[]⟩, .int .i64 0, .int .i64 0, .int .i64 0, .int .i64 0, .int .i64 0, .int .i64 0, .int .i64 0, .int .i64 0, .slice none 0 0] 32 (0, 0)) ∧ Below w.heap.size w W) ⟨by repeat (first | (with_reducible exact K1c.out) | (with_reducible refine blk_far ?_ NF _)), by repeat (first | (with_reducible exact K2b.out) | (with_reducible refine blk_far ?_ NG _)), blk_fill14 K3.out _ _ _ _ _ _ _ _ _ _ _ _ _ _, low_cells14 L3.out G3.out⟩ ?_
  rintro W ⟨e1, e2, e3, lw⟩
  have E1 := Aside0.mk e1
  have E2 := Aside0.mk e2
  have E3 := Aside0.mk e3
  have LW := Aside0.mk lw
  clear e1 e2 e3 lw hx hy hyz hw hwz K1 K1b K1c K2 K2b K3 L1 L2 L3
  have hx := fun i => blk_cell E1.out i
  have hy := fun i => blk_cell E2.out i
  have hyz := fun i => blk_frozen E2.out i
  have hw := fun i => blk_cell E3.out i
  have hwz := fun i => blk_frozen E3.out i
  go_wp2
  refine bodyPost_ret (results_cell_row rfl _ _ g2 32 #[.int .i64 a0_0, .string a0_1, .string ⟨#[]⟩, .string a0_3, .string a0_4, .int .i64 a0_5, .int .i64 a0_6, .int .i64 a0_7, .int .i64 a0_8, .int .i64 a0_9, .int .i64 a0_10, .int .i64 0, .int .i64 0, .slice none 0 0] (0, 0) _ rfl (blk_fill14 (by repeat (first | (with_reducible exact E2.out) | (with_reducible refine blk_far ?_ NG _))) _ _ _ _ _ _ _ _ _ _ _ _ _ _) Tryz.underlying32 rfl (by kernel_rfl)) rfl ?_
  exact ⟨rfl, by repeat (first | (with_reducible refine below_set ?_ G2.out) | (with_reducible refine below_set ?_ G3.out) | (with_reducible exact LW.out))⟩
def keptA (a : AskV) : AskV :=
  if a.f0 = 1 then ⟨a.f0, a.f1, ⟨#[]⟩, a.f3, a.f4, a.f5, a.f6, a.f7, a.f8, a.f9, a.f10, if a.f8 = 3 then a.f11 else 0, if a.f8 = 4 then a.f12 else 0, if a.f8 = 2 then a.f13 else []⟩
  else if a.f0 = 3 then ⟨a.f0, a.f1, a.f2, ⟨#[]⟩, ⟨#[]⟩, 0, a.f6, a.f7, 0, 0, a.f10, 0, 0, []⟩
  else ⟨a.f0, a.f1, a.f2, ⟨#[]⟩, ⟨#[]⟩, 0, 0, 0, 0, 0, 0, 0, 0, []⟩
def aC (a : AskV) (A : Option Addr) (n c : Nat) : Value := .agg #[.int .i64 a.f0, .string a.f1, .string a.f2, .string a.f3, .string a.f4, .int .i64 a.f5, .int .i64 a.f6, .int .i64 a.f7, .int .i64 a.f8, .int .i64 a.f9, .int .i64 a.f10, .int .i64 a.f11, .int .i64 a.f12, .slice A n c]
def KeptIs (a : AskV) (A : Option Addr) (c : Nat) (K : Option Addr) (m : Nat) : Prop := (K = A ∧ m = c ∧ (keptA a).f13 = a.f13) ∨ (K = none ∧ m = 0 ∧ (keptA a).f13 = [])
theorem kept_all (a : AskV) (A : Option Addr) (c : Nat) : ∃ K m, KeptIs a A c K m ∧ ∀ w, Calls Tryz.prog 25 #[aC a A a.f13.length c] w fun e w' => e = .returned (aC (keptA a) K (keptA a).f13.length m) ∧ Below w.heap.size w w' := by
  obtain ⟨f0, f1, f2, f3, f4, f5, f6, f7, f8, f9, f10, f11, f12, l⟩ := a
  by_cases k1 : f0 = 1
  · by_cases g2 : f8 = 2
    · refine ⟨A, c, .inl ⟨rfl, rfl, by simp [keptA, k1, g2]⟩, fun w => ?_⟩
      have h := kept_1_2 f0 f1 f2 f3 f4 f5 f6 f7 f8 f9 f10 f11 f12 A c l w (by rw [k1]; rfl) (by rw [k1]; rfl) (by rw [g2]; rfl) (by rw [g2]; rfl) (by rw [g2]; rfl)
      have e : keptA ⟨f0, f1, f2, f3, f4, f5, f6, f7, f8, f9, f10, f11, f12, l⟩ = ⟨f0, f1, ⟨#[]⟩, f3, f4, f5, f6, f7, f8, f9, f10, 0, 0, l⟩ := by simp [keptA, k1, g2]
      rw [e]
      exact h
    · have hl : (keptA ⟨f0, f1, f2, f3, f4, f5, f6, f7, f8, f9, f10, f11, f12, l⟩).f13 = [] := by simp [keptA, k1, g2]
      refine ⟨none, 0, .inr ⟨rfl, rfl, hl⟩, fun w => ?_⟩
      have b2 : (f8 == 2) = false := beq_eq_false_iff_ne.2 g2
      by_cases g3 : f8 = 3
      · have h := kept_1_3 f0 f1 f2 f3 f4 f5 f6 f7 f8 f9 f10 f11 f12 A c l w (by rw [k1]; rfl) (by rw [k1]; rfl) b2 (by rw [g3]; rfl) (by rw [g3]; rfl)
        have e : keptA ⟨f0, f1, f2, f3, f4, f5, f6, f7, f8, f9, f10, f11, f12, l⟩ = ⟨f0, f1, ⟨#[]⟩, f3, f4, f5, f6, f7, f8, f9, f10, f11, 0, []⟩ := by simp [keptA, k1, g3]
        rw [e]
        exact h
      · by_cases g4 : f8 = 4
        · have h := kept_1_4 f0 f1 f2 f3 f4 f5 f6 f7 f8 f9 f10 f11 f12 A c l w (by rw [k1]; rfl) (by rw [k1]; rfl) b2 (beq_eq_false_iff_ne.2 g3) (by rw [g4]; rfl)
          have e : keptA ⟨f0, f1, f2, f3, f4, f5, f6, f7, f8, f9, f10, f11, f12, l⟩ = ⟨f0, f1, ⟨#[]⟩, f3, f4, f5, f6, f7, f8, f9, f10, 0, f12, []⟩ := by simp [keptA, k1, g4]
          rw [e]
          exact h
        · have h := kept_1_x f0 f1 f2 f3 f4 f5 f6 f7 f8 f9 f10 f11 f12 A c l w (by rw [k1]; rfl) (by rw [k1]; rfl) b2 (beq_eq_false_iff_ne.2 g3) (beq_eq_false_iff_ne.2 g4)
          have e : keptA ⟨f0, f1, f2, f3, f4, f5, f6, f7, f8, f9, f10, f11, f12, l⟩ = ⟨f0, f1, ⟨#[]⟩, f3, f4, f5, f6, f7, f8, f9, f10, 0, 0, []⟩ := by simp [keptA, k1, g2, g3, g4]
          rw [e]
          exact h
  · have n1 : (f0 != 1) = true := by rw [bne_iff_ne]; exact k1
    by_cases k3 : f0 = 3
    · refine ⟨none, 0, .inr ⟨rfl, rfl, by simp [keptA, k3]⟩, fun w => ?_⟩
      have h := kept_3 f0 f1 f2 f3 f4 f5 f6 f7 f8 f9 f10 f11 f12 A c l w n1 (beq_eq_false_iff_ne.2 k1) (by rw [k3]; rfl)
      have e : keptA ⟨f0, f1, f2, f3, f4, f5, f6, f7, f8, f9, f10, f11, f12, l⟩ = ⟨f0, f1, f2, ⟨#[]⟩, ⟨#[]⟩, 0, f6, f7, 0, 0, f10, 0, 0, []⟩ := by simp [keptA, k3]
      rw [e]
      exact h
    · refine ⟨none, 0, .inr ⟨rfl, rfl, by simp [keptA, k1, k3]⟩, fun w => ?_⟩
      have h := kept_x f0 f1 f2 f3 f4 f5 f6 f7 f8 f9 f10 f11 f12 A c l w n1 (beq_eq_false_iff_ne.2 k1) (beq_eq_false_iff_ne.2 k3)
      have e : keptA ⟨f0, f1, f2, f3, f4, f5, f6, f7, f8, f9, f10, f11, f12, l⟩ = ⟨f0, f1, f2, ⟨#[]⟩, ⟨#[]⟩, 0, 0, 0, 0, 0, 0, 0, 0, []⟩ := by simp [keptA, k1, k3]
      rw [e]
      exact h
end Go.Proofs.YtgfigkfcmkdjdaaGreatDoor.B
end
section
namespace Go.Proofs.YtgfigkfcmkdjdaaGreatDoor.B
open Go.RowKit Go.Proofs.YtgfigkfcmkdjdaaGreatDoorW.PrintWords Go.Proofs.YtgfigkfcmkdjdaaGreatDoorW.PrintLast Go.Proofs.YtgfigkfcmkdjdaaGreatDoorW.PrintMore
attribute [local go_sem] max2_int min2_int max_two min_two max_three min_three max_four min_four   -- for this text's walks alone
set_option linter.unusedVariables false
set_option linter.unusedSimpArgs false
def spigotref03_Same.l0 : Nat → List Int → List Int → Int → Option (Bool)
  | 0, _, _, _ => none
  | k + 1, x0, x1, x5 => if x5 < (x0.length : Int) then (if 0 ≤ x5 then (if x5 < (x1.length : Int) then (if (rd x0 x5) = (rd x1 x5) then (spigotref03_Same.l0 k x0 x1 (wrap64 (x5 + 1))) else (some false)) else (none)) else (none)) else (some true)
def spigotref03_Same.f (k : Nat) (l0 : List Int) (l1 : List Int) : Option (Bool) := if (l0.length : Int) = (l1.length : Int) then (spigotref03_Same.l0 k l0 l1 0) else (some false)
theorem spigotref03_Same.mono_l : ∀ k, (∀ y0 y1 y2, LeO (spigotref03_Same.l0 k y0 y1 y2) (spigotref03_Same.l0 (k + 1) y0 y1 y2))
  | 0 => fun _ _ _ r h => by simp [spigotref03_Same.l0] at h
  | k + 1 => by
    have ih0 := spigotref03_Same.mono_l k
    · intro y0 y1 y2
      unfold spigotref03_Same.l0
      repeat' first
      | (with_reducible exact ih0 _ _ _)
      | (with_reducible exact LeO.refl _)
      | (with_reducible exact LeO.none _)
      | (with_reducible refine LeO.ite ?_ ?_)
      | (with_reducible refine LeO.bind ?_ (fun _ => ?_))
      | exact ih0 _ _ _
      | exact LeO.none _
      | refine LeO.ite ?_ ?_
      | refine LeO.bind ?_ (fun _ => ?_)
theorem spigotref03_Same.mono : ∀ a0 a1 k, LeO (spigotref03_Same.f k a0 a1) (spigotref03_Same.f (k + 1) a0 a1) := by
  intro a0 a1 k
  have ih0 := spigotref03_Same.mono_l k
  unfold spigotref03_Same.f
  repeat' first
      | (with_reducible exact ih0 _ _ _)
      | (with_reducible exact LeO.refl _)
      | (with_reducible exact LeO.none _)
      | (with_reducible refine LeO.ite ?_ ?_)
      | (with_reducible refine LeO.bind ?_ (fun _ => ?_))
      | exact ih0 _ _ _
      | exact LeO.none _
      | refine LeO.ite ?_ ?_
      | refine LeO.bind ?_ (fun _ => ?_)
set_option maxHeartbeats 8000000 in
set_option maxRecDepth 100000 in
theorem spigotref03_Same.calls (k : Nat) (A0 : Option Addr) (c0 : Nat) (l0 : List Int) (A1 : Option Addr) (c1 : Nat) (l1 : List Int) (r : Bool) (w : World) (hr0 : Kd.C (Kd.int .i64) w A0 l0.length l0) (hc0 : l0.length ≤ c0) (hr1 : Kd.C (Kd.int .i64) w A1 l1.length l1) (hc1 : l1.length ≤ c1) (h : spigotref03_Same.f k l0 l1 = some r) :
    Calls Tryz.prog 40 #[.slice A0 l0.length c0, .slice A1 l1.length c1] w fun e w' => e = .returned (.bool r) ∧ Drawn0 w w' := by
  have HR0 := Aside0.mk hr0
  have HC0 := Aside0.mk hc0
  clear hr0 hc0
  have HR1 := Aside0.mk hr1
  have HC1 := Aside0.mk hc1
  clear hr1 hc1
  have H : (if (l0.length : Int) = (l1.length : Int) then (spigotref03_Same.l0 k l0 l1 0) else (some false)) = some r := h
  clear h
  by_cases c3 : (l0.length : Int) = (l1.length : Int)
  · rw [if_pos c3] at H
    have c3b0 : ((l0.length : Int) == (l1.length : Int)) = true := beq_iff_eq.mpr c3
    have c3b1 : ((l0.length : Int) != (l1.length : Int)) = false := bne_eq_false_iff_eq.mpr c3
    have c3b2 : (l0.length == l1.length) = true := by first | simpa using c3 | (simp at c3 ⊢; omega)
    clear c3
    have H' := Aside0.mk H
    clear H
    go_enter Tryz.func40, Tryz.ntmps40
    go_wp2
    repeat (go_quiet (fail); try go_wp2)
    go_loopg [5] k (fun kq v5 w' => ∃ (x5_1 : Int), v5 = .int .i64 x5_1 ∧ Aside0 (spigotref03_Same.l0 kq l0 l1 x5_1 = some r) ∧ Aside0 (kq ≤ k) ∧ Drawn0 w w')
    case atStart => exact ⟨(0), (by first | rfl | (simp; done) | (simp [*]; done)), H', ⟨Nat.le_refl _⟩, by repeat (first | exact Drawn0.refl _ | apply Drawn0.step)⟩
    case round =>
      clear H'
      try clear c1
      try clear p2
      try clear c3
      try clear c3b0
      try clear c3b1
      try clear c3b2
      obtain ⟨x5_1, rfl, HA, HK1, ⟨m1, rfl⟩⟩ := hrel
      cases gk with
      | zero => exact absurd HA.out (by simp [spigotref03_Same.l0])
      | succ k1 =>
        have H := HA.out
        clear HA
        simp only [spigotref03_Same.l0] at H
        by_cases c4 : x5_1 < (l0.length : Int)
        · rw [if_pos c4] at H
          have c4b0 : decide (x5_1 < (l0.length : Int)) = true := decide_eq_true c4
          clear c4
          by_cases c5 : 0 ≤ x5_1
          · rw [if_pos c5] at H
            have c5b0 : decide (0 ≤ x5_1) = true := decide_eq_true c5
            clear c5
            by_cases c6 : x5_1 < (l1.length : Int)
            · rw [if_pos c6] at H
              have c6b0 : decide (x5_1 < (l1.length : Int)) = true := decide_eq_true c6
              clear c6
              by_cases c7 : (rd l0 x5_1) = (rd l1 x5_1)
              · rw [if_pos c7] at H
                have c7b0 : ((rd l0 x5_1) == (rd l1 x5_1)) = true := beq_iff_eq.mpr c7
                have c7b1 : ((rd l0 x5_1) != (rd l1 x5_1)) = false := bne_eq_false_iff_eq.mpr c7
                clear c7
                have H' := Aside0.mk H
                clear H
                have p184 : 0 ≤ (x5_1 : Int) := of_decide_eq_true (by first | (with_reducible assumption) | assumption)
                have q184 : x5_1 < (l0.length : Int) := of_decide_eq_true (by first | (with_reducible assumption) | assumption)
                obtain ⟨ad184, e184, hx184_0⟩ := Kd.at_int HR0.out x5_1 p184 q184
                cases e184
                replace p184 := eq_true p184
                replace q184 := eq_true q184
                have p185 : 0 ≤ (x5_1 : Int) := of_decide_eq_true (by first | (with_reducible assumption) | assumption)
                have q185 : x5_1 < (l1.length : Int) := of_decide_eq_true (by first | (with_reducible assumption) | assumption)
                obtain ⟨ad185, e185, hx185_0⟩ := Kd.at_int HR1.out x5_1 p185 q185
                cases e185
                replace p185 := eq_true p185
                replace q185 := eq_true q185
                go_wp2
                repeat (go_quiet (fail); try go_wp2)
                go_roundg k1
                case measure => have := HK1.out; omega
                case rel => exact ⟨(wrap64 (x5_1 + 1)), (by first | rfl | (simp; done) | (simp [*]; done)), H', ⟨by have := HK1.out; omega⟩, by repeat (first | exact Drawn0.refl _ | apply Drawn0.step)⟩
              · rw [if_neg c7] at H
                have c7b0 : ((rd l0 x5_1) == (rd l1 x5_1)) = false := beq_eq_false_iff_ne.mpr c7
                have c7b1 : ((rd l0 x5_1) != (rd l1 x5_1)) = true := bne_iff_ne.mpr c7
                obtain rfl := Option.some.inj H
                have p184 : 0 ≤ (x5_1 : Int) := of_decide_eq_true (by first | (with_reducible assumption) | assumption)
                have q184 : x5_1 < (l0.length : Int) := of_decide_eq_true (by first | (with_reducible assumption) | assumption)
                obtain ⟨ad184, e184, hx184_0⟩ := Kd.at_int HR0.out x5_1 p184 q184
                cases e184
                replace p184 := eq_true p184
                replace q184 := eq_true q184
                have p185 : 0 ≤ (x5_1 : Int) := of_decide_eq_true (by first | (with_reducible assumption) | assumption)
                have q185 : x5_1 < (l1.length : Int) := of_decide_eq_true (by first | (with_reducible assumption) | assumption)
                obtain ⟨ad185, e185, hx185_0⟩ := Kd.at_int HR1.out x5_1 p185 q185
                cases e185
                replace p185 := eq_true p185
                replace q185 := eq_true q185
                go_wp2
                repeat (go_quiet (fail); try go_wp2)
                go_ret
                exact ⟨by first | rfl | (simp; done) | (simp [*]; done), by repeat (first | exact Drawn0.refl _ | apply Drawn0.step)⟩
            · rw [if_neg c6] at H
              exact absurd H (by simp)
          · rw [if_neg c5] at H
            exact absurd H (by simp)
        · rw [if_neg c4] at H
          have c4b0 : decide (x5_1 < (l0.length : Int)) = false := decide_eq_false c4
          clear c4
          obtain rfl := Option.some.inj H
          go_wp2
          repeat (go_quiet (fail); try go_wp2)
          go_ret
          exact ⟨by first | rfl | (simp; done) | (simp [*]; done), by repeat (first | exact Drawn0.refl _ | apply Drawn0.step)⟩
  · rw [if_neg c3] at H
    have c3b0 : ((l0.length : Int) == (l1.length : Int)) = false := beq_eq_false_iff_ne.mpr c3
    have c3b1 : ((l0.length : Int) != (l1.length : Int)) = true := bne_iff_ne.mpr c3
    have c3b2 : (l0.length == l1.length) = false := by first | simpa using c3 | (simp at c3 ⊢; omega)
    obtain rfl := Option.some.inj H
    go_enter Tryz.func40, Tryz.ntmps40
    go_wp2
    repeat (go_quiet (fail); try go_wp2)
    go_ret
    exact ⟨by first | rfl | (simp; done) | (simp [*]; done), by repeat (first | exact Drawn0.refl _ | apply Drawn0.step)⟩
end Go.Proofs.YtgfigkfcmkdjdaaGreatDoor.B
end
section
namespace Go.Proofs.YtgfigkfcmkdjdaaGreatDoor.B
open Go.RowKit Go.Proofs.YtgfigkfcmkdjdaaGreatDoorW.PrintWords Go.Proofs.YtgfigkfcmkdjdaaGreatDoorW.PrintLast Go.Proofs.YtgfigkfcmkdjdaaGreatDoorW.PrintMore
attribute [local go_sem] max2_int min2_int max_two min_two max_three min_three max_four min_four   -- for this text's walks alone
set_option linter.unusedVariables false
set_option linter.unusedSimpArgs false
set_option maxHeartbeats 8000000 in
set_option maxRecDepth 100000 in
theorem same_walk (a0_0 : Int) (a0_1 a0_2 a0_3 a0_4 : ByteArray) (a0_5 a0_6 a0_7 a0_8 a0_9 a0_10 a0_11 a0_12 : Int) (A0_13 : Option Addr) (c0_13 : Nat) (l0_13 : List Int) (a1_0 : Int) (a1_1 a1_2 a1_3 a1_4 : ByteArray) (a1_5 a1_6 a1_7 a1_8 a1_9 a1_10 a1_11 a1_12 : Int) (A1_13 : Option Addr) (c1_13 : Nat) (l1_13 : List Int) (w : World) (b0 b1 b2 b3 b4 b5 b6 b7 b8 b9 b10 b11 b12 s3 : Bool) (f0 : (a0_0 == a1_0) = b0) (f1 : (a0_1.toList == a1_1.toList) = b1) (f2 : (a0_2.toList == a1_2.toList) = b2) (f3 : (a0_3.toList == a1_3.toList) = b3) (f4 : (a0_4.toList == a1_4.toList) = b4) (f5 : (a0_5 == a1_5) = b5) (f6 : (a0_6 == a1_6) = b6) (f7 : (a0_7 == a1_7) = b7) (f8 : (a0_8 == a1_8) = b8) (f9 : (a0_9 == a1_9) = b9) (f10 : (a0_10 == a1_10) = b10) (f11 : (a0_11 == a1_11) = b11) (f12 : (a0_12 == a1_12) = b12)
    (HS3 : Aside0 (∀ W, Below w.heap.size w W → Calls Tryz.prog 40 #[.slice A0_13 l0_13.length c0_13, .slice A1_13 l1_13.length c1_13] W fun e w' => e = .returned (.bool s3) ∧ Below W.heap.size W w')) :
    Calls Tryz.prog 14 #[.agg #[.int .i64 a0_0, .string a0_1, .string a0_2, .string a0_3, .string a0_4, .int .i64 a0_5, .int .i64 a0_6, .int .i64 a0_7, .int .i64 a0_8, .int .i64 a0_9, .int .i64 a0_10, .int .i64 a0_11, .int .i64 a0_12, .slice A0_13 l0_13.length c0_13], .agg #[.int .i64 a1_0, .string a1_1, .string a1_2, .string a1_3, .string a1_4, .int .i64 a1_5, .int .i64 a1_6, .int .i64 a1_7, .int .i64 a1_8, .int .i64 a1_9, .int .i64 a1_10, .int .i64 a1_11, .int .i64 a1_12, .slice A1_13 l1_13.length c1_13]] w fun e w' => e = .returned (.bool (b0 && (b1 && (b2 && (b3 && (b4 && (b5 && (b6 && (b7 && (b8 && (b9 && (b10 && (b11 && (b12 && (s3))))))))))))))) ∧ Below w.heap.size w w' := by
  have HB0 := Aside0.mk (Below.refl w.heap.size w)
  cases b0; rotate_left; cases b1; rotate_left; cases b2; rotate_left; cases b3; rotate_left; cases b4; rotate_left; cases b5; rotate_left; cases b6; rotate_left; cases b7; rotate_left; cases b8; rotate_left; cases b9; rotate_left; cases b10; rotate_left; cases b11; rotate_left; cases b12
  all_goals
    go_enter Tryz.func14, Tryz.ntmps14
    go_wp2_with (first | ((with_reducible refine gate_dst (N := 2) rfl ?_); refine box_event ?hg (N := 2) ?hd (cs := #[.int .i64 a0_0, .string a0_1, .string a0_2, .string a0_3, .string a0_4, .int .i64 a0_5, .int .i64 a0_6, .int .i64 a0_7, .int .i64 a0_8, .int .i64 a0_9, .int .i64 a0_10, .int .i64 a0_11, .int .i64 a0_12, .slice A0_13 l0_13.length c0_13]) (t := 32) ?hr ?_; (case hd => rfl); (case hg => rfl); (case hr => first | (go_simp; done) | (go_simp; rfl)); intro g1 hg w3 hbox hb; have K1 := Aside0.mk hbox; have L1 := Aside0.mk (HB0.out.trans (hb.mono HB0.out.size)); clear HB0; clear hb hbox hg) | ((with_reducible refine gate_dst (N := 3) rfl ?_); refine box_event ?hg (N := 3) ?hd (cs := #[.int .i64 a1_0, .string a1_1, .string a1_2, .string a1_3, .string a1_4, .int .i64 a1_5, .int .i64 a1_6, .int .i64 a1_7, .int .i64 a1_8, .int .i64 a1_9, .int .i64 a1_10, .int .i64 a1_11, .int .i64 a1_12, .slice A1_13 l1_13.length c1_13]) (t := 32) ?hr ?_; (case hd => rfl); (case hg => rfl); (case hr => first | (go_simp; done) | (go_simp; rfl)); intro g2 hg w4 hbox hb; have K2 := Aside0.mk hbox; have K1b := Aside0.mk (blk_below K1.out hb); have L2 := Aside0.mk (L1.out.trans (hb.mono L1.out.size)); have hx := fun i => blk_cell K1b.out i; have hy := fun i => blk_cell K2.out i; clear hb hbox hg) | (go_at_call 40; ((with_reducible refine (HS3.out _ L2.out).mono ?_)); rintro e w5 ⟨rfl, hb⟩; have L3 := Aside0.mk (L2.out.trans (hb.mono L2.out.size)); clear hb))
    go_ret
    first | exact ⟨rfl, L3.out⟩ | exact ⟨rfl, L2.out⟩
theorem same03_loop_ (l : List Int) (hl : l.length ≤ 1000000) : ∀ (n i k : Nat), i + n = l.length → n < k → spigotref03_Same.l0 k l l (i : Int) = some true := by
  intro n
  induction n with
  | zero =>
    intro i k hi hk
    obtain ⟨k, rfl⟩ : ∃ m, k = m + 1 := ⟨k - 1, by omega⟩
    rw [spigotref03_Same.l0, if_neg (by omega)]
  | succ n ih =>
    intro i k hi hk
    obtain ⟨k, rfl⟩ : ∃ m, k = m + 1 := ⟨k - 1, by omega⟩
    rw [spigotref03_Same.l0, if_pos (by omega), if_pos (by omega), if_pos (by omega), if_pos rfl, show wrap64 ((i : Int) + 1) = ((i + 1 : Nat) : Int) by rw [w64 (by omega) (by omega)]; omega]
    exact ih (i + 1) k (by omega) (by omega)
theorem same03_k (l m : List Int) (hl : l.length ≤ 1000000) (h : m = l ∨ m = []) : spigotref03_Same.f (l.length + 2) l m = some (decide (l = m)) := by
  rcases h with rfl | rfl
  · unfold spigotref03_Same.f
    rw [if_pos rfl, decide_eq_true rfl]
    exact same03_loop_ m hl m.length 0 (m.length + 2) (by omega) (by omega)
  · by_cases e : l = []
    · subst e; rfl
    · have : l.length ≠ 0 := fun g => e (List.length_eq_zero_iff.1 g)
      unfold spigotref03_Same.f
      rw [if_neg (by simp only [List.length_nil]; omega), decide_eq_false e]
theorem bytes_b (s t : ByteArray) : (s.toList == t.toList) = decide (s = t) := by
  rw [Bool.eq_iff_iff, beq_iff_eq, decide_eq_true_eq, ByteArray.toList_eq, ByteArray.toList_eq]
  exact ⟨fun h => ba_ext h, fun h => by rw [h]⟩
theorem int_bb (x y : Int) : (x == y) = decide (x = y) := by rw [Bool.eq_iff_iff, beq_iff_eq, decide_eq_true_eq]
def sameB (a b : AskV) : Bool := decide (a.f0 = b.f0) && (decide (a.f1 = b.f1) && (decide (a.f2 = b.f2) && (decide (a.f3 = b.f3) && (decide (a.f4 = b.f4) && (decide (a.f5 = b.f5) && (decide (a.f6 = b.f6) && (decide (a.f7 = b.f7) && (decide (a.f8 = b.f8) && (decide (a.f9 = b.f9) && (decide (a.f10 = b.f10) && (decide (a.f11 = b.f11) && (decide (a.f12 = b.f12) && (decide (a.f13 = b.f13))))))))))))))
theorem sameB_iff (a b : AskV) : sameB a b = true ↔ a = b := by
  obtain ⟨a0, a1, a2, a3, a4, a5, a6, a7, a8, a9, a10, a11, a12, a13⟩ := a
  obtain ⟨b0, b1, b2, b3, b4, b5, b6, b7, b8, b9, b10, b11, b12, b13⟩ := b
  simp only [sameB, Bool.and_eq_true, decide_eq_true_eq, AskV.mk.injEq]
theorem same_all (a b : AskV) (A : Option Addr) (c : Nat) (B : Option Addr) (d : Nat) (w : World) (hl : a.f13.length ≤ 1000000) (h : b.f13 = a.f13 ∨ b.f13 = []) (hA : Kd.C (Kd.int .i64) w A a.f13.length a.f13) (hc : a.f13.length ≤ c) (hB : Kd.C (Kd.int .i64) w B b.f13.length b.f13) (hd : b.f13.length ≤ d) :
    Calls Tryz.prog 14 #[aC a A a.f13.length c, aC b B b.f13.length d] w fun e w' => e = .returned (.bool (sameB a b)) ∧ Below w.heap.size w w' := by
  exact same_walk a.f0 a.f1 a.f2 a.f3 a.f4 a.f5 a.f6 a.f7 a.f8 a.f9 a.f10 a.f11 a.f12 A c a.f13 b.f0 b.f1 b.f2 b.f3 b.f4 b.f5 b.f6 b.f7 b.f8 b.f9 b.f10 b.f11 b.f12 B d b.f13 w _ _ _ _ _ _ _ _ _ _ _ _ _ (decide (a.f13 = b.f13))
    (int_bb _ _) (bytes_b _ _) (bytes_b _ _) (bytes_b _ _) (bytes_b _ _) (int_bb _ _) (int_bb _ _) (int_bb _ _) (int_bb _ _) (int_bb _ _) (int_bb _ _) (int_bb _ _) (int_bb _ _)
    ⟨fun W hW => (spigotref03_Same.calls (a.f13.length + 2) A c a.f13 B d b.f13 _ W (Kd.C_below hA hW) hc (Kd.C_below hB hW) hd (same03_k _ _ hl h)).mono fun e w' hh => ⟨hh.1, hh.2.below⟩⟩
end Go.Proofs.YtgfigkfcmkdjdaaGreatDoor.B
end
section
namespace Go.Proofs.YtgfigkfcmkdjdaaGreatDoor.B
open Go.RowKit Go.Proofs.YtgfigkfcmkdjdaaGreatDoorW.PrintWords Go.Proofs.YtgfigkfcmkdjdaaGreatDoorW.PrintLast Go.Proofs.YtgfigkfcmkdjdaaGreatDoorW.PrintMore
attribute [local go_sem] max2_int min2_int max_two min_two max_three min_three max_four min_four   -- for this text's walks alone
set_option linter.unusedVariables false
set_option linter.unusedSimpArgs false
def spigotref12_in.f (a0 : Int) (a1 : Int) (a2 : Int) : Option (Bool) := if a0 ≥ a1 then (some (decide (a0 ≤ a2))) else (some false)
set_option maxHeartbeats 8000000 in
set_option maxRecDepth 100000 in
theorem spigotref12_in.calls (a0 : Int) (a1 : Int) (a2 : Int) (r : Bool) (w : World) (h : spigotref12_in.f a0 a1 a2 = some r) :
    Calls Tryz.prog 24 #[.int .i64 a0, .int .i64 a1, .int .i64 a2] w fun e w' => e = .returned (.bool r) ∧ Drawn0 w w' := by
  have H : (if a0 ≥ a1 then (some (decide (a0 ≤ a2))) else (some false)) = some r := h
  clear h
  by_cases c4 : a0 ≥ a1
  · rw [if_pos c4] at H
    have c4b0 : decide (a1 ≤ a0) = true := decide_eq_true c4
    clear c4
    obtain rfl := Option.some.inj H
    go_enter Tryz.func24, Tryz.ntmps24
    go_wp2
    go_ret
    exact ⟨by first | rfl | (simp; done) | (simp [*]; done), by repeat (first | exact Drawn0.refl _ | apply Drawn0.step)⟩
  · rw [if_neg c4] at H
    have c4b0 : decide (a1 ≤ a0) = false := decide_eq_false c4
    clear c4
    obtain rfl := Option.some.inj H
    go_enter Tryz.func24, Tryz.ntmps24
    go_wp2
    go_ret
    exact ⟨by first | rfl | (simp; done) | (simp [*]; done), by repeat (first | exact Drawn0.refl _ | apply Drawn0.step)⟩
end Go.Proofs.YtgfigkfcmkdjdaaGreatDoor.B
end
