/- The functions that the law reaches, as plain Lean functions, and their contracts: texts merged. -/
import Derived.Test.YtgfigkfcmkdjdaaDoorzTellEncodes2
import Derived.Test.YtgfigkfcmkdjdaaDoorzTellEncodes0
import Derived.Test.YtgfigkfcmkdjdaaDoorzTellEncodes1
import Derived.Test.YtgfigkfcmkdjdaaDoorzTellEncodes3
import Derived.Test.YtgfigkfcmkdjdaaDoorzTellEncodes4
import Derived.Test.YtgfigkfcmkdjdaaDoorzTellEncodes5
import Derived.Test.YtgfigkfcmkdjdaaDoorzTellEncodes6
import Derived.Test.YtgfigkfcmkdjdaaDoorzTellEncodes7
import Derived.Test.YtgfigkfcmkdjdaaDoorzTellEncodes8
import Derived.Test.YtgfigkfcmkdjdaaDoorzTellEncodes9
import Derived.Test.YtgfigkfcmkdjdaaDoorzTellEncodes10
section
namespace Go.Proofs.YtgfigkfcmkdjdaaDoor.B
open Go.RowKit Go.Proofs.YtgfigkfcmkdjdaaDoorW.PrintWords Go.Proofs.YtgfigkfcmkdjdaaDoorW.PrintLast Go.Proofs.YtgfigkfcmkdjdaaDoorW.PrintMore
attribute [local go_sem] max2_int min2_int max_two min_two max_three min_three max_four min_four   -- for this text's walks alone
set_option linter.unusedVariables false
set_option linter.unusedSimpArgs false
def spigotlaw13_few.f (a0_0 : Int) (a0_1 : ByteArray) (a0_2 : ByteArray) (a0_3 : Int) (a0_4 : Int) (a0_5 : Int) (a0_6 : Int) (a0_7 : Int) (a0_8 : Int) (a0_9 : Int) : Option (Bool) := if (a0_1.size : Int) ≤ 200 then (some (decide ((a0_2.size : Int) ≤ 200))) else (some false)
set_option maxHeartbeats 8000000 in
set_option maxRecDepth 100000 in
theorem spigotlaw13_few.calls (a0_0 : Int) (a0_1 : ByteArray) (a0_2 : ByteArray) (a0_3 : Int) (a0_4 : Int) (a0_5 : Int) (a0_6 : Int) (a0_7 : Int) (a0_8 : Int) (a0_9 : Int) (r : Bool) (w : World) (h : spigotlaw13_few.f a0_0 a0_1 a0_2 a0_3 a0_4 a0_5 a0_6 a0_7 a0_8 a0_9 = some r) :
    Calls Tryd.prog 14 #[.agg #[.int .i64 a0_0, .string a0_1, .string a0_2, .int .i64 a0_3, .int .i64 a0_4, .int .i64 a0_5, .int .i64 a0_6, .int .i64 a0_7, .int .i64 a0_8, .int .i64 a0_9]] w fun e w' => e = .returned (.bool r) ∧ Below w.heap.size w w' := by
  have hu23 := Tryd.underlying23
  have HB := Aside0.mk (Below.refl w.heap.size w)
  have H : (if (a0_1.size : Int) ≤ 200 then (some (decide ((a0_2.size : Int) ≤ 200))) else (some false)) = some r := h
  clear h
  by_cases c2 : (a0_1.size : Int) ≤ 200
  · rw [if_pos c2] at H
    have c2b0 : decide ((a0_1.size : Int) ≤ 200) = true := decide_eq_true c2
    have c2b1 : decide (a0_1.size ≤ 200) = true := decide_eq_true (by omega)
    clear c2
    obtain rfl := Option.some.inj H
    go_enter Tryd.func14, Tryd.ntmps14
    go_wp2_with (first | ((with_reducible refine gate_dst (N := 1) rfl ?_); (try (refine gate_guard (by rfl) ?_; dsimp only)); refine box_event ?hg (N := 1) ?hd (cs := #[.int .i64 a0_0, .string a0_1, .string a0_2, .int .i64 a0_3, .int .i64 a0_4, .int .i64 a0_5, .int .i64 a0_6, .int .i64 a0_7, .int .i64 a0_8, .int .i64 a0_9]) (t := 23) ?hr ?_; (case hd => rfl); (case hg => rfl); (case hr => first | (go_simp; done) | (go_simp; rfl)); intro gb233 hg w3 hbox hb; have n0_ := Aside0.mk (below_step (by repeat (first | (with_reducible first | exact HB.out | apply below_alloc | apply pw_below_drewN | apply below_drew1) | exact HB.out)) hb); have n1_ := Aside0.mk (hbox); have n2_ := Aside0.mk ((by rw [hg]; exact (below_size (by repeat (first | (with_reducible first | exact HB.out | apply below_alloc | apply pw_below_drewN | apply below_drew1) | exact HB.out))) : w.heap.size ≤ gb233)); have n3_ := Aside0.mk ((by rw [hg]; exact (below_size (by repeat (first | (with_reducible first | exact HB.out | apply below_alloc | apply pw_below_drewN | apply below_drew1) | exact HB.out))) : w.heap.size ≤ gb233)); clear HB; have HB := n0_; have BK233 := n1_; have GW233 := n2_; have GE233 := n3_; clear n0_ n1_ n2_ n3_; clear hb hbox hg; have hcz4_0 : w3.cell? ⟨gb233, 0, none⟩ = some (.int .i64 a0_0) := (blk_cell BK233.out 0).trans rfl; have hcz4_1 : w3.cell? ⟨gb233, 1, none⟩ = some (.string a0_1) := (blk_cell BK233.out 1).trans rfl; have hcz4_2 : w3.cell? ⟨gb233, 2, none⟩ = some (.string a0_2) := (blk_cell BK233.out 2).trans rfl; have hcz4_3 : w3.cell? ⟨gb233, 3, none⟩ = some (.int .i64 a0_3) := (blk_cell BK233.out 3).trans rfl; have hcz4_4 : w3.cell? ⟨gb233, 4, none⟩ = some (.int .i64 a0_4) := (blk_cell BK233.out 4).trans rfl; have hcz4_5 : w3.cell? ⟨gb233, 5, none⟩ = some (.int .i64 a0_5) := (blk_cell BK233.out 5).trans rfl; have hcz4_6 : w3.cell? ⟨gb233, 6, none⟩ = some (.int .i64 a0_6) := (blk_cell BK233.out 6).trans rfl; have hcz4_7 : w3.cell? ⟨gb233, 7, none⟩ = some (.int .i64 a0_7) := (blk_cell BK233.out 7).trans rfl; have hcz4_8 : w3.cell? ⟨gb233, 8, none⟩ = some (.int .i64 a0_8) := (blk_cell BK233.out 8).trans rfl; have hcz4_9 : w3.cell? ⟨gb233, 9, none⟩ = some (.int .i64 a0_9) := (blk_cell BK233.out 9).trans rfl; have hfz4_0 := blk_frozen BK233.out 0; have hfz4_1 := blk_frozen BK233.out 1; have hfz4_2 := blk_frozen BK233.out 2; have hfz4_3 := blk_frozen BK233.out 3; have hfz4_4 := blk_frozen BK233.out 4; have hfz4_5 := blk_frozen BK233.out 5; have hfz4_6 := blk_frozen BK233.out 6; have hfz4_7 := blk_frozen BK233.out 7; have hfz4_8 := blk_frozen BK233.out 8; have hfz4_9 := blk_frozen BK233.out 9))
    go_ret
    exact ⟨by first | rfl | (simp [errW_none, errW_some] <;> rfl) | (simp [*, errW_none, errW_some] <;> rfl), by repeat (first | (with_reducible first | exact HB.out | apply below_alloc | apply pw_below_drewN | apply below_drew1 | refine below_set ?_ GE233.out) | exact HB.out)⟩
  · rw [if_neg c2] at H
    have c2b0 : decide ((a0_1.size : Int) ≤ 200) = false := decide_eq_false c2
    have c2b1 : decide (a0_1.size ≤ 200) = false := decide_eq_false (by omega)
    clear c2
    obtain rfl := Option.some.inj H
    go_enter Tryd.func14, Tryd.ntmps14
    go_wp2_with (first | ((with_reducible refine gate_dst (N := 1) rfl ?_); (try (refine gate_guard (by rfl) ?_; dsimp only)); refine box_event ?hg (N := 1) ?hd (cs := #[.int .i64 a0_0, .string a0_1, .string a0_2, .int .i64 a0_3, .int .i64 a0_4, .int .i64 a0_5, .int .i64 a0_6, .int .i64 a0_7, .int .i64 a0_8, .int .i64 a0_9]) (t := 23) ?hr ?_; (case hd => rfl); (case hg => rfl); (case hr => first | (go_simp; done) | (go_simp; rfl)); intro gb233 hg w5 hbox hb; have n0_ := Aside0.mk (below_step (by repeat (first | (with_reducible first | exact HB.out | apply below_alloc | apply pw_below_drewN | apply below_drew1) | exact HB.out)) hb); have n1_ := Aside0.mk (hbox); have n2_ := Aside0.mk ((by rw [hg]; exact (below_size (by repeat (first | (with_reducible first | exact HB.out | apply below_alloc | apply pw_below_drewN | apply below_drew1) | exact HB.out))) : w.heap.size ≤ gb233)); have n3_ := Aside0.mk ((by rw [hg]; exact (below_size (by repeat (first | (with_reducible first | exact HB.out | apply below_alloc | apply pw_below_drewN | apply below_drew1) | exact HB.out))) : w.heap.size ≤ gb233)); clear HB; have HB := n0_; have BK233 := n1_; have GW233 := n2_; have GE233 := n3_; clear n0_ n1_ n2_ n3_; clear hb hbox hg; have hcz6_0 : w5.cell? ⟨gb233, 0, none⟩ = some (.int .i64 a0_0) := (blk_cell BK233.out 0).trans rfl; have hcz6_1 : w5.cell? ⟨gb233, 1, none⟩ = some (.string a0_1) := (blk_cell BK233.out 1).trans rfl; have hcz6_2 : w5.cell? ⟨gb233, 2, none⟩ = some (.string a0_2) := (blk_cell BK233.out 2).trans rfl; have hcz6_3 : w5.cell? ⟨gb233, 3, none⟩ = some (.int .i64 a0_3) := (blk_cell BK233.out 3).trans rfl; have hcz6_4 : w5.cell? ⟨gb233, 4, none⟩ = some (.int .i64 a0_4) := (blk_cell BK233.out 4).trans rfl; have hcz6_5 : w5.cell? ⟨gb233, 5, none⟩ = some (.int .i64 a0_5) := (blk_cell BK233.out 5).trans rfl; have hcz6_6 : w5.cell? ⟨gb233, 6, none⟩ = some (.int .i64 a0_6) := (blk_cell BK233.out 6).trans rfl; have hcz6_7 : w5.cell? ⟨gb233, 7, none⟩ = some (.int .i64 a0_7) := (blk_cell BK233.out 7).trans rfl; have hcz6_8 : w5.cell? ⟨gb233, 8, none⟩ = some (.int .i64 a0_8) := (blk_cell BK233.out 8).trans rfl; have hcz6_9 : w5.cell? ⟨gb233, 9, none⟩ = some (.int .i64 a0_9) := (blk_cell BK233.out 9).trans rfl; have hfz6_0 := blk_frozen BK233.out 0; have hfz6_1 := blk_frozen BK233.out 1; have hfz6_2 := blk_frozen BK233.out 2; have hfz6_3 := blk_frozen BK233.out 3; have hfz6_4 := blk_frozen BK233.out 4; have hfz6_5 := blk_frozen BK233.out 5; have hfz6_6 := blk_frozen BK233.out 6; have hfz6_7 := blk_frozen BK233.out 7; have hfz6_8 := blk_frozen BK233.out 8; have hfz6_9 := blk_frozen BK233.out 9))
    go_ret
    exact ⟨by first | rfl | (simp [errW_none, errW_some] <;> rfl) | (simp [*, errW_none, errW_some] <;> rfl), by repeat (first | (with_reducible first | exact HB.out | apply below_alloc | apply pw_below_drewN | apply below_drew1 | refine below_set ?_ GE233.out) | exact HB.out)⟩
def spigotref13_in.f (a0 : Int) (a1 : Int) (a2 : Int) : Option (Bool) := if a0 ≥ a1 then (some (decide (a0 ≤ a2))) else (some false)
set_option maxHeartbeats 8000000 in
set_option maxRecDepth 100000 in
theorem spigotref13_in.calls (a0 : Int) (a1 : Int) (a2 : Int) (r : Bool) (w : World) (h : spigotref13_in.f a0 a1 a2 = some r) :
    Calls Tryd.prog 55 #[.int .i64 a0, .int .i64 a1, .int .i64 a2] w fun e w' => e = .returned (.bool r) ∧ Drawn0 w w' := by
  have H : (if a0 ≥ a1 then (some (decide (a0 ≤ a2))) else (some false)) = some r := h
  clear h
  by_cases c4 : a0 ≥ a1
  · rw [if_pos c4] at H
    have c4b0 : decide (a1 ≤ a0) = true := decide_eq_true c4
    clear c4
    obtain rfl := Option.some.inj H
    go_enter Tryd.func55, Tryd.ntmps55
    go_wp2
    go_ret
    exact ⟨by first | rfl | (simp; done) | (simp [*]; done), by repeat (first | exact Drawn0.refl _ | apply Drawn0.step)⟩
  · rw [if_neg c4] at H
    have c4b0 : decide (a1 ≤ a0) = false := decide_eq_false c4
    clear c4
    obtain rfl := Option.some.inj H
    go_enter Tryd.func55, Tryd.ntmps55
    go_wp2
    go_ret
    exact ⟨by first | rfl | (simp; done) | (simp [*]; done), by repeat (first | exact Drawn0.refl _ | apply Drawn0.step)⟩
end Go.Proofs.YtgfigkfcmkdjdaaDoor.B
end
section
namespace Go.Proofs.YtgfigkfcmkdjdaaDoor.B
open Go.RowKit Go.Proofs.YtgfigkfcmkdjdaaDoorW.PrintWords Go.Proofs.YtgfigkfcmkdjdaaDoorW.PrintLast Go.Proofs.YtgfigkfcmkdjdaaDoorW.PrintMore
attribute [local go_sem] max2_int min2_int max_two min_two max_three min_three max_four min_four   -- for this text's walks alone
set_option linter.unusedVariables false
set_option linter.unusedSimpArgs false
theorem eqA31 (d : Nat) (w : World) (x0 y0 : Int) (x1 y1 : ByteArray) (x2 y2 : ByteArray) (x3 y3 : Int) (x4 y4 : Int) (x5 y5 : Int) (x6 y6 : Int) (x7 y7 : Int) (x8 y8 : Int) (x9 y9 : Int) :
    (Op.equalIn (d + 2) 31 (.agg #[.int .i64 x0, .string x1, .string x2, .int .i64 x3, .int .i64 x4, .int .i64 x5, .int .i64 x6, .int .i64 x7, .int .i64 x8, .int .i64 x9]) (.agg #[.int .i64 y0, .string y1, .string y2, .int .i64 y3, .int .i64 y4, .int .i64 y5, .int .i64 y6, .int .i64 y7, .int .i64 y8, .int .i64 y9])).run Tryd.prog w = .ok (x0 == y0 && (x1.toList == y1.toList && (x2.toList == y2.toList && (x3 == y3 && (x4 == y4 && (x5 == y5 && (x6 == y6 && (x7 == y7 && (x8 == y8 && (x9 == y9)))))))))) w := by
  refine eqA_of Tryd.underlying31 (by kernel_rfl) ?_
  refine eqf_cons (by rfl) (by go_simp; rfl) (by go_simp; rfl) (by go_simp) ?_
  refine eqf_cons (by rfl) (by go_simp; rfl) (by go_simp; rfl) (by go_simp) ?_
  refine eqf_cons (by rfl) (by go_simp; rfl) (by go_simp; rfl) (by go_simp) ?_
  refine eqf_cons (by rfl) (by go_simp; rfl) (by go_simp; rfl) (by go_simp) ?_
  refine eqf_cons (by rfl) (by go_simp; rfl) (by go_simp; rfl) (by go_simp) ?_
  refine eqf_cons (by rfl) (by go_simp; rfl) (by go_simp; rfl) (by go_simp) ?_
  refine eqf_cons (by rfl) (by go_simp; rfl) (by go_simp; rfl) (by go_simp) ?_
  refine eqf_cons (by rfl) (by go_simp; rfl) (by go_simp; rfl) (by go_simp) ?_
  refine eqf_cons (by rfl) (by go_simp; rfl) (by go_simp; rfl) (by go_simp) ?_
  exact eqf_last (by rfl) (by go_simp; rfl) (by go_simp; rfl) (by go_simp)
end Go.Proofs.YtgfigkfcmkdjdaaDoor.B
end
section
namespace Go.Proofs.YtgfigkfcmkdjdaaDoor.B
open Go.RowKit Go.Proofs.YtgfigkfcmkdjdaaDoorW.PrintWords Go.Proofs.YtgfigkfcmkdjdaaDoorW.PrintLast Go.Proofs.YtgfigkfcmkdjdaaDoorW.PrintMore
attribute [local go_sem] max2_int min2_int max_two min_two max_three min_three max_four min_four   -- for this text's walks alone
set_option linter.unusedVariables false
set_option linter.unusedSimpArgs false
def keptT (a : TellV) : TellV :=
  if a.f0 = 1 then ⟨a.f0, a.f1, a.f2, a.f3, a.f4, a.f5, a.f6, a.f7, 0, a.f9⟩ else if a.f0 = 2 then ⟨a.f0, a.f1, ⟨#[]⟩, a.f3, 0, 0, 0, 0, 0, a.f9⟩
  else if 2 < a.f0 then ⟨a.f0, ⟨#[]⟩, ⟨#[]⟩, 0, 0, 0, 0, 0, a.f8, a.f9⟩ else ⟨a.f0, ⟨#[]⟩, ⟨#[]⟩, 0, 0, 0, 0, 0, 0, a.f9⟩
def KeptIs (r : TellV) (w : World) (e : Ending) (w' : World) : Prop := e = .returned (.agg #[.int .i64 r.f0, .string r.f1, .string r.f2, .int .i64 r.f3, .int .i64 r.f4, .int .i64 r.f5, .int .i64 r.f6, .int .i64 r.f7, .int .i64 r.f8, .int .i64 r.f9]) ∧ Below w.heap.size w w'
theorem KeptIs.mk_ {a r : TellV} {w w' : World} (h : r = a) (hw : Below w.heap.size w w') : KeptIs r w (.returned (.agg #[.int .i64 a.f0, .string a.f1, .string a.f2, .int .i64 a.f3, .int .i64 a.f4, .int .i64 a.f5, .int .i64 a.f6, .int .i64 a.f7, .int .i64 a.f8, .int .i64 a.f9])) w' := by subst h; exact ⟨rfl, hw⟩
theorem blk_at1 (w : World) (o1 o2 o3 : Obj) : (((w.alloc o1).alloc o2).alloc o3).heap[w.heap.size + 1]? = some o2 := by
  have h := blk_new (w.alloc o1) o2
  rw [World.size_alloc] at h
  exact blk_alloc h o3
theorem below_3 (w : World) (o1 o2 o3 : Obj) : Below w.heap.size w (((w.alloc o1).alloc o2).alloc o3) :=
  (((Below.refl _ _).alloc (Nat.le_refl _) _).alloc (by rw [World.size_alloc]; omega) _).alloc (by rw [World.size_alloc, World.size_alloc]; omega) _
set_option maxRecDepth 100000 in
set_option maxHeartbeats 8000000 in
theorem kept_1 (a : TellV) (w : World) (h : a.f0 = 1) :
    Calls Tryd.prog 56 #[.agg #[.int .i64 a.f0, .string a.f1, .string a.f2, .int .i64 a.f3, .int .i64 a.f4, .int .i64 a.f5, .int .i64 a.f6, .int .i64 a.f7, .int .i64 a.f8, .int .i64 a.f9]] w (KeptIs (keptT a) w) := by
  have t1 : (a.f0 == 1) = true := by rw [beq_iff_eq]; omega
  have t2 : (a.f0 == 2) = false := by rw [beq_eq_false_iff_ne]; omega
  have t3 : decide (2 < a.f0) = false := by rw [decide_eq_false_iff_not]; omega
  have HK : Aside0 (keptT a = ⟨a.f0, a.f1, a.f2, a.f3, a.f4, a.f5, a.f6, a.f7, 0, a.f9⟩) := ⟨by unfold keptT; rw [if_pos h]⟩
  clear h
  go_enter Tryd.func56, Tryd.ntmps56
  go_wp2
  refine bodyPost_ret (results_cell_row rfl _ _ (w.heap.size + 1) 31 #[.int .i64 a.f0, .string a.f1, .string a.f2, .int .i64 a.f3, .int .i64 a.f4, .int .i64 a.f5, .int .i64 a.f6, .int .i64 a.f7, .int .i64 0, .int .i64 a.f9] (0, 0) _ rfl (blk_at1 _ _ _ _) Tryd.underlying31 rfl (by kernel_rfl)) rfl ?_
  exact KeptIs.mk_ (a := ⟨a.f0, a.f1, a.f2, a.f3, a.f4, a.f5, a.f6, a.f7, 0, a.f9⟩) HK.out (below_3 _ _ _ _)
set_option maxRecDepth 100000 in
set_option maxHeartbeats 8000000 in
theorem kept_2 (a : TellV) (w : World) (h : a.f0 = 2) :
    Calls Tryd.prog 56 #[.agg #[.int .i64 a.f0, .string a.f1, .string a.f2, .int .i64 a.f3, .int .i64 a.f4, .int .i64 a.f5, .int .i64 a.f6, .int .i64 a.f7, .int .i64 a.f8, .int .i64 a.f9]] w (KeptIs (keptT a) w) := by
  have t1 : (a.f0 == 1) = false := by rw [beq_eq_false_iff_ne]; omega
  have t2 : (a.f0 == 2) = true := by rw [beq_iff_eq]; omega
  have t3 : decide (2 < a.f0) = false := by rw [decide_eq_false_iff_not]; omega
  have HK : Aside0 (keptT a = ⟨a.f0, a.f1, ⟨#[]⟩, a.f3, 0, 0, 0, 0, 0, a.f9⟩) := ⟨by unfold keptT; rw [if_neg (by omega), if_pos h]⟩
  clear h
  go_enter Tryd.func56, Tryd.ntmps56
  go_wp2
  refine bodyPost_ret (results_cell_row rfl _ _ (w.heap.size + 1) 31 #[.int .i64 a.f0, .string a.f1, .string ⟨#[]⟩, .int .i64 a.f3, .int .i64 0, .int .i64 0, .int .i64 0, .int .i64 0, .int .i64 0, .int .i64 a.f9] (0, 0) _ rfl (blk_at1 _ _ _ _) Tryd.underlying31 rfl (by kernel_rfl)) rfl ?_
  exact KeptIs.mk_ (a := ⟨a.f0, a.f1, ⟨#[]⟩, a.f3, 0, 0, 0, 0, 0, a.f9⟩) HK.out (below_3 _ _ _ _)
set_option maxRecDepth 100000 in
set_option maxHeartbeats 8000000 in
theorem kept_3 (a : TellV) (w : World) (h : 2 < a.f0) :
    Calls Tryd.prog 56 #[.agg #[.int .i64 a.f0, .string a.f1, .string a.f2, .int .i64 a.f3, .int .i64 a.f4, .int .i64 a.f5, .int .i64 a.f6, .int .i64 a.f7, .int .i64 a.f8, .int .i64 a.f9]] w (KeptIs (keptT a) w) := by
  have t1 : (a.f0 == 1) = false := by rw [beq_eq_false_iff_ne]; omega
  have t2 : (a.f0 == 2) = false := by rw [beq_eq_false_iff_ne]; omega
  have t3 : decide (2 < a.f0) = true := by rw [decide_eq_true_eq]; omega
  have HK : Aside0 (keptT a = ⟨a.f0, ⟨#[]⟩, ⟨#[]⟩, 0, 0, 0, 0, 0, a.f8, a.f9⟩) := ⟨by unfold keptT; rw [if_neg (by omega), if_neg (by omega), if_pos h]⟩
  clear h
  go_enter Tryd.func56, Tryd.ntmps56
  go_wp2
  refine bodyPost_ret (results_cell_row rfl _ _ (w.heap.size + 1) 31 #[.int .i64 a.f0, .string ⟨#[]⟩, .string ⟨#[]⟩, .int .i64 0, .int .i64 0, .int .i64 0, .int .i64 0, .int .i64 0, .int .i64 a.f8, .int .i64 a.f9] (0, 0) _ rfl (blk_at1 _ _ _ _) Tryd.underlying31 rfl (by kernel_rfl)) rfl ?_
  exact KeptIs.mk_ (a := ⟨a.f0, ⟨#[]⟩, ⟨#[]⟩, 0, 0, 0, 0, 0, a.f8, a.f9⟩) HK.out (below_3 _ _ _ _)
set_option maxRecDepth 100000 in
set_option maxHeartbeats 8000000 in
theorem kept_0 (a : TellV) (w : World) (h : a.f0 < 1) :
    Calls Tryd.prog 56 #[.agg #[.int .i64 a.f0, .string a.f1, .string a.f2, .int .i64 a.f3, .int .i64 a.f4, .int .i64 a.f5, .int .i64 a.f6, .int .i64 a.f7, .int .i64 a.f8, .int .i64 a.f9]] w (KeptIs (keptT a) w) := by
  have t1 : (a.f0 == 1) = false := by rw [beq_eq_false_iff_ne]; omega
  have t2 : (a.f0 == 2) = false := by rw [beq_eq_false_iff_ne]; omega
  have t3 : decide (2 < a.f0) = false := by rw [decide_eq_false_iff_not]; omega
  have HK : Aside0 (keptT a = ⟨a.f0, ⟨#[]⟩, ⟨#[]⟩, 0, 0, 0, 0, 0, 0, a.f9⟩) := ⟨by unfold keptT; rw [if_neg (by omega), if_neg (by omega), if_neg (by omega)]⟩
  clear h
  go_enter Tryd.func56, Tryd.ntmps56
  go_wp2
  refine bodyPost_ret (results_cell_row rfl _ _ (w.heap.size + 1) 31 #[.int .i64 a.f0, .string ⟨#[]⟩, .string ⟨#[]⟩, .int .i64 0, .int .i64 0, .int .i64 0, .int .i64 0, .int .i64 0, .int .i64 0, .int .i64 a.f9] (0, 0) _ rfl (blk_at1 _ _ _ _) Tryd.underlying31 rfl (by kernel_rfl)) rfl ?_
  exact KeptIs.mk_ (a := ⟨a.f0, ⟨#[]⟩, ⟨#[]⟩, 0, 0, 0, 0, 0, 0, a.f9⟩) HK.out (below_3 _ _ _ _)
theorem kept_walk (a : TellV) (w : World) : Calls Tryd.prog 56 #[.agg #[.int .i64 a.f0, .string a.f1, .string a.f2, .int .i64 a.f3, .int .i64 a.f4, .int .i64 a.f5, .int .i64 a.f6, .int .i64 a.f7, .int .i64 a.f8, .int .i64 a.f9]] w (KeptIs (keptT a) w) := by
  by_cases c1 : a.f0 = 1
  · exact kept_1 a w c1
  by_cases c2 : a.f0 = 2
  · exact kept_2 a w c2
  by_cases c3 : 2 < a.f0
  · exact kept_3 a w c3
  · exact kept_0 a w (by omega)
def spigotref13_kept.f (a0 : Int) (a1 a2 : ByteArray) (a3 a4 a5 a6 a7 a8 a9 : Int) : Option (Int × ByteArray × ByteArray × Int × Int × Int × Int × Int × Int × Int) :=
  some ((keptT ⟨a0, a1, a2, a3, a4, a5, a6, a7, a8, a9⟩).f0, (keptT ⟨a0, a1, a2, a3, a4, a5, a6, a7, a8, a9⟩).f1, (keptT ⟨a0, a1, a2, a3, a4, a5, a6, a7, a8, a9⟩).f2, (keptT ⟨a0, a1, a2, a3, a4, a5, a6, a7, a8, a9⟩).f3, (keptT ⟨a0, a1, a2, a3, a4, a5, a6, a7, a8, a9⟩).f4, (keptT ⟨a0, a1, a2, a3, a4, a5, a6, a7, a8, a9⟩).f5, (keptT ⟨a0, a1, a2, a3, a4, a5, a6, a7, a8, a9⟩).f6, (keptT ⟨a0, a1, a2, a3, a4, a5, a6, a7, a8, a9⟩).f7, (keptT ⟨a0, a1, a2, a3, a4, a5, a6, a7, a8, a9⟩).f8, (keptT ⟨a0, a1, a2, a3, a4, a5, a6, a7, a8, a9⟩).f9)
theorem spigotref13_kept.calls (a0_0 : Int) (a0_1 : ByteArray) (a0_2 : ByteArray) (a0_3 a0_4 a0_5 a0_6 a0_7 a0_8 a0_9 : Int) (r1 : Int) (r2 : ByteArray) (r3 : ByteArray) (r4 r5 r6 r7 r8 r9 r10 : Int) (w : World) (h : spigotref13_kept.f a0_0 a0_1 a0_2 a0_3 a0_4 a0_5 a0_6 a0_7 a0_8 a0_9 = some (r1, r2, r3, r4, r5, r6, r7, r8, r9, r10)) :
    Calls Tryd.prog 56 #[.agg #[.int .i64 a0_0, .string a0_1, .string a0_2, .int .i64 a0_3, .int .i64 a0_4, .int .i64 a0_5, .int .i64 a0_6, .int .i64 a0_7, .int .i64 a0_8, .int .i64 a0_9]] w fun e w' => e = .returned (.agg #[.int .i64 r1, .string r2, .string r3, .int .i64 r4, .int .i64 r5, .int .i64 r6, .int .i64 r7, .int .i64 r8, .int .i64 r9, .int .i64 r10]) ∧ Below w.heap.size w w' := by
  have hw := kept_walk ⟨a0_0, a0_1, a0_2, a0_3, a0_4, a0_5, a0_6, a0_7, a0_8, a0_9⟩ w
  unfold spigotref13_kept.f at h
  generalize keptT ⟨a0_0, a0_1, a0_2, a0_3, a0_4, a0_5, a0_6, a0_7, a0_8, a0_9⟩ = r at *
  simp only [Option.some.injEq, Prod.mk.injEq] at h
  obtain ⟨rfl, rfl, rfl, rfl, rfl, rfl, rfl, rfl, rfl, rfl⟩ := h
  exact hw
end Go.Proofs.YtgfigkfcmkdjdaaDoor.B
end
