/- The functions that the law reaches, as plain Lean functions, and their contracts: texts merged. -/
import Derived.Test.YtgfigkfcmkdjdaaDoorzPostDecodes3
import Derived.Test.YtgfigkfcmkdjdaaDoorzPostDecodes0
import Derived.Test.YtgfigkfcmkdjdaaDoorzPostDecodes1
import Derived.Test.YtgfigkfcmkdjdaaDoorzPostDecodes2
import Derived.Test.YtgfigkfcmkdjdaaDoorzPostDecodes4
import Derived.Test.YtgfigkfcmkdjdaaDoorzPostDecodes5
import Derived.Test.YtgfigkfcmkdjdaaDoorzPostDecodes6
import Derived.Test.YtgfigkfcmkdjdaaDoorzPostDecodes7
import Derived.Test.YtgfigkfcmkdjdaaDoorzPostDecodes8
import Derived.Test.YtgfigkfcmkdjdaaDoorzPostDecodes9
import Derived.Test.YtgfigkfcmkdjdaaDoorzPostDecodes10
import Derived.Test.YtgfigkfcmkdjdaaDoorzPostDecodes11
import Derived.Test.YtgfigkfcmkdjdaaDoorzPostDecodes12
import Derived.Test.YtgfigkfcmkdjdaaDoorzPostDecodes13
import Derived.Test.YtgfigkfcmkdjdaaDoorzPostDecodes14
import Derived.Test.YtgfigkfcmkdjdaaDoorzPostDecodes15
import Derived.Test.YtgfigkfcmkdjdaaDoorzPostDecodes16
import Derived.Test.YtgfigkfcmkdjdaaDoorzPostDecodes17
import Derived.Test.YtgfigkfcmkdjdaaDoorzPostDecodes18
import Derived.Test.YtgfigkfcmkdjdaaDoorzPostDecodes19
import Derived.Test.YtgfigkfcmkdjdaaDoorzPostDecodes20
import Derived.Test.YtgfigkfcmkdjdaaDoorzPostDecodes21
import Derived.Test.YtgfigkfcmkdjdaaDoorzPostDecodes22
import Derived.Test.YtgfigkfcmkdjdaaDoorzPostDecodes23
import Derived.Test.YtgfigkfcmkdjdaaDoorzPostDecodes24
import Derived.Test.YtgfigkfcmkdjdaaDoorzPostDecodes25
import Derived.Test.YtgfigkfcmkdjdaaDoorzPostDecodes26
import Derived.Test.YtgfigkfcmkdjdaaDoorzPostDecodes27
import Derived.Test.YtgfigkfcmkdjdaaDoorzPostDecodes28
section
namespace Go.Proofs.YtgfigkfcmkdjdaaDoor.B
open Go.RowKit Go.Proofs.YtgfigkfcmkdjdaaDoorW.PrintWords Go.Proofs.YtgfigkfcmkdjdaaDoorW.PrintLast Go.Proofs.YtgfigkfcmkdjdaaDoorW.PrintMore
attribute [local go_sem] max2_int min2_int max_two min_two max_three min_three max_four min_four   -- for this text's walks alone
set_option linter.unusedVariables false
set_option linter.unusedSimpArgs false
def spigotlaw14_Reply.f (a0_0 : Int) (a0_1 : Int) (a0_2 : ByteArray) (a0_3 : ByteArray) (a0_4 : Int) (a0_5 : Int) (a0_6 : ByteArray) : Option (Int × Int × ByteArray × ByteArray × Int × Int × ByteArray) := some (a0_0, a0_1, a0_2, a0_3, a0_4, a0_5, a0_6)
set_option maxHeartbeats 8000000 in
set_option maxRecDepth 100000 in
theorem spigotlaw14_Reply.calls (a0_0 : Int) (a0_1 : Int) (a0_2 : ByteArray) (a0_3 : ByteArray) (a0_4 : Int) (a0_5 : Int) (a0_6 : ByteArray) (r1 : Int) (r2 : Int) (r3 : ByteArray) (r4 : ByteArray) (r5 : Int) (r6 : Int) (r7 : ByteArray) (w : World) (h : spigotlaw14_Reply.f a0_0 a0_1 a0_2 a0_3 a0_4 a0_5 a0_6 = some (r1, r2, r3, r4, r5, r6, r7)) :
    Calls Tryd.prog 33 #[.agg #[.int .i64 a0_0, .int .i64 a0_1, .string a0_2, .string a0_3, .int .i64 a0_4, .int .i64 a0_5, .string a0_6]] w fun e w' => e = .returned (.agg #[.int .i64 r1, .int .i64 r2, .string r3, .string r4, .int .i64 r5, .int .i64 r6, .string r7]) ∧ Below w.heap.size w w' := by
  have hu54 := Tryd.underlying54
  have hu57 := Tryd.underlying57
  have HB := Aside0.mk (Below.refl w.heap.size w)
  have H : (some (a0_0, a0_1, a0_2, a0_3, a0_4, a0_5, a0_6)) = some (r1, r2, r3, r4, r5, r6, r7) := h
  clear h
  simp only [Option.some.injEq, Prod.mk.injEq] at H
  obtain ⟨rfl, rfl, rfl, rfl, rfl, rfl, rfl⟩ := H
  go_enter Tryd.func33, Tryd.ntmps33
  go_wp2_with (first | ((with_reducible refine gate_dst (N := 1) rfl ?_); refine box_event ?hg (N := 1) ?hd (cs := #[.int .i64 a0_0, .int .i64 a0_1, .string a0_2, .string a0_3, .int .i64 a0_4, .int .i64 a0_5, .string a0_6]) (t := 54) ?hr ?_; (case hd => rfl); (case hg => rfl); (case hr => first | (go_simp; done) | (go_simp; rfl)); intro gb299 hg w2 hbox hb; have n0_ := Aside0.mk (below_step (by repeat (first | (with_reducible first | exact HB.out | apply below_alloc | apply pw_below_drewN | apply below_drew1) | exact HB.out)) hb); have n1_ := Aside0.mk (hbox); have n2_ := Aside0.mk ((by rw [hg]; exact (below_size (by repeat (first | (with_reducible first | exact HB.out | apply below_alloc | apply pw_below_drewN | apply below_drew1) | exact HB.out))) : w.heap.size ≤ gb299)); have n3_ := Aside0.mk ((by rw [hg]; exact (below_size (by repeat (first | (with_reducible first | exact HB.out | apply below_alloc | apply pw_below_drewN | apply below_drew1) | exact HB.out))) : w.heap.size ≤ gb299)); clear HB; have HB := n0_; have BK299 := n1_; have GW299 := n2_; have GE299 := n3_; clear n0_ n1_ n2_ n3_; clear hb hbox hg) | ((with_reducible refine gate_dst (N := 2) rfl ?_); refine box_event ?hg (N := 2) ?hd (cs := #[.int .i64 0, .int .i64 0, .string (⟨#[]⟩ : ByteArray), .string (⟨#[]⟩ : ByteArray), .int .i64 0, .int .i64 0, .string (⟨#[]⟩ : ByteArray)]) (t := 57) ?hr ?_; (case hd => rfl); (case hg => rfl); (case hr => first | (go_simp; done) | (go_simp; rfl)); intro gb300 hg w3 hbox hb; have n0_ := Aside0.mk (blk_below (g := gb299) (o := .cells #[.int .i64 a0_0, .int .i64 a0_1, .string a0_2, .string a0_3, .int .i64 a0_4, .int .i64 a0_5, .string a0_6] 54 (0, 0)) (by (with_reducible repeat (first | refine blk_drewN ?_ _ | refine blk_drew ?_ | refine blk_alloc ?_ _)); exact BK299.out) hb); have n1_ := Aside0.mk (below_step (by repeat (first | (with_reducible first | exact HB.out | apply below_alloc | apply pw_below_drewN | apply below_drew1 | refine below_set ?_ GE299.out) | exact HB.out)) hb); have n2_ := Aside0.mk (hbox); have n3_ := Aside0.mk ((by rw [hg]; exact (below_size (by repeat (first | (with_reducible first | exact HB.out | apply below_alloc | apply pw_below_drewN | apply below_drew1 | refine below_set ?_ GE299.out) | exact HB.out))) : w.heap.size ≤ gb300)); have n4_ := Aside0.mk ((by rw [hg]; exact (below_size (by repeat (first | (with_reducible first | exact HB.out | apply below_alloc | apply pw_below_drewN | apply below_drew1 | refine below_set ?_ GE299.out) | exact HB.out))) : w.heap.size ≤ gb300)); have n5_ := Aside0.mk ((by rw [hg]; exact Nat.ne_of_lt (blk_lt (g := gb299) (o := .cells #[.int .i64 a0_0, .int .i64 a0_1, .string a0_2, .string a0_3, .int .i64 a0_4, .int .i64 a0_5, .string a0_6] 54 (0, 0)) (by (with_reducible repeat (first | refine blk_drewN ?_ _ | refine blk_drew ?_ | refine blk_alloc ?_ _)); exact BK299.out)) : gb299 ≠ gb300)); have n6_ := Aside0.mk ((by rw [hg]; exact Nat.ne_of_gt (blk_lt (g := gb299) (o := .cells #[.int .i64 a0_0, .int .i64 a0_1, .string a0_2, .string a0_3, .int .i64 a0_4, .int .i64 a0_5, .string a0_6] 54 (0, 0)) (by (with_reducible repeat (first | refine blk_drewN ?_ _ | refine blk_drew ?_ | refine blk_alloc ?_ _)); exact BK299.out)) : gb300 ≠ gb299)); clear BK299; clear HB; have BK299 := n0_; have HB := n1_; have BK300 := n2_; have GW300 := n3_; have GE300 := n4_; have NB299_300 := n5_; have NB300_299 := n6_; clear n0_ n1_ n2_ n3_ n4_ n5_ n6_; clear hb hbox hg; have hnb4 := NB299_300.out; have hnc4 := NB300_299.out; have hcz5_0 : w3.cell? ⟨gb299, 0, none⟩ = some (.int .i64 a0_0) := (blk_cell BK299.out 0).trans rfl; have hcz5_1 : w3.cell? ⟨gb299, 1, none⟩ = some (.int .i64 a0_1) := (blk_cell BK299.out 1).trans rfl; have hcz5_2 : w3.cell? ⟨gb299, 2, none⟩ = some (.string a0_2) := (blk_cell BK299.out 2).trans rfl; have hcz5_3 : w3.cell? ⟨gb299, 3, none⟩ = some (.string a0_3) := (blk_cell BK299.out 3).trans rfl; have hcz5_4 : w3.cell? ⟨gb299, 4, none⟩ = some (.int .i64 a0_4) := (blk_cell BK299.out 4).trans rfl; have hcz5_5 : w3.cell? ⟨gb299, 5, none⟩ = some (.int .i64 a0_5) := (blk_cell BK299.out 5).trans rfl; have hcz5_6 : w3.cell? ⟨gb299, 6, none⟩ = some (.string a0_6) := (blk_cell BK299.out 6).trans rfl; have hfz5_0 := blk_frozen BK299.out 0; have hfz5_1 := blk_frozen BK299.out 1; have hfz5_2 := blk_frozen BK299.out 2; have hfz5_3 := blk_frozen BK299.out 3; have hfz5_4 := blk_frozen BK299.out 4; have hfz5_5 := blk_frozen BK299.out 5; have hfz5_6 := blk_frozen BK299.out 6; have hcz6_0 : w3.cell? ⟨gb300, 0, none⟩ = some (.int .i64 0) := (blk_cell BK300.out 0).trans rfl; have hcz6_1 : w3.cell? ⟨gb300, 1, none⟩ = some (.int .i64 0) := (blk_cell BK300.out 1).trans rfl; have hcz6_2 : w3.cell? ⟨gb300, 2, none⟩ = some (.string (⟨#[]⟩ : ByteArray)) := (blk_cell BK300.out 2).trans rfl; have hcz6_3 : w3.cell? ⟨gb300, 3, none⟩ = some (.string (⟨#[]⟩ : ByteArray)) := (blk_cell BK300.out 3).trans rfl; have hcz6_4 : w3.cell? ⟨gb300, 4, none⟩ = some (.int .i64 0) := (blk_cell BK300.out 4).trans rfl; have hcz6_5 : w3.cell? ⟨gb300, 5, none⟩ = some (.int .i64 0) := (blk_cell BK300.out 5).trans rfl; have hcz6_6 : w3.cell? ⟨gb300, 6, none⟩ = some (.string (⟨#[]⟩ : ByteArray)) := (blk_cell BK300.out 6).trans rfl; have hfz6_0 := blk_frozen BK300.out 0; have hfz6_1 := blk_frozen BK300.out 1; have hfz6_2 := blk_frozen BK300.out 2; have hfz6_3 := blk_frozen BK300.out 3; have hfz6_4 := blk_frozen BK300.out 4; have hfz6_5 := blk_frozen BK300.out 5; have hfz6_6 := blk_frozen BK300.out 6))
  refine bodyPost_ret (results_cell_row rfl _ _ gb300 57 #[.int .i64 a0_0, .int .i64 a0_1, .string a0_2, .string a0_3, .int .i64 a0_4, .int .i64 a0_5, .string a0_6] (0, 0) _ rfl (by (with_reducible repeat (first | refine blk_drewN ?_ _ | refine blk_drew ?_ | refine blk_alloc ?_ _)); refine blk_put (cs := #[.int .i64 a0_0, .int .i64 a0_1, .string a0_2, .string a0_3, .int .i64 a0_4, .int .i64 a0_5, .string (⟨#[]⟩ : ByteArray)]) ?_ 6 _ rfl; (with_reducible repeat (first | refine blk_drewN ?_ _ | refine blk_drew ?_ | refine blk_alloc ?_ _)); refine blk_put (cs := #[.int .i64 a0_0, .int .i64 a0_1, .string a0_2, .string a0_3, .int .i64 a0_4, .int .i64 0, .string (⟨#[]⟩ : ByteArray)]) ?_ 5 _ rfl; (with_reducible repeat (first | refine blk_drewN ?_ _ | refine blk_drew ?_ | refine blk_alloc ?_ _)); refine blk_put (cs := #[.int .i64 a0_0, .int .i64 a0_1, .string a0_2, .string a0_3, .int .i64 0, .int .i64 0, .string (⟨#[]⟩ : ByteArray)]) ?_ 4 _ rfl; (with_reducible repeat (first | refine blk_drewN ?_ _ | refine blk_drew ?_ | refine blk_alloc ?_ _)); refine blk_put (cs := #[.int .i64 a0_0, .int .i64 a0_1, .string a0_2, .string (⟨#[]⟩ : ByteArray), .int .i64 0, .int .i64 0, .string (⟨#[]⟩ : ByteArray)]) ?_ 3 _ rfl; (with_reducible repeat (first | refine blk_drewN ?_ _ | refine blk_drew ?_ | refine blk_alloc ?_ _)); refine blk_put (cs := #[.int .i64 a0_0, .int .i64 a0_1, .string (⟨#[]⟩ : ByteArray), .string (⟨#[]⟩ : ByteArray), .int .i64 0, .int .i64 0, .string (⟨#[]⟩ : ByteArray)]) ?_ 2 _ rfl; (with_reducible repeat (first | refine blk_drewN ?_ _ | refine blk_drew ?_ | refine blk_alloc ?_ _)); refine blk_put (cs := #[.int .i64 a0_0, .int .i64 0, .string (⟨#[]⟩ : ByteArray), .string (⟨#[]⟩ : ByteArray), .int .i64 0, .int .i64 0, .string (⟨#[]⟩ : ByteArray)]) ?_ 1 _ rfl; (with_reducible repeat (first | refine blk_drewN ?_ _ | refine blk_drew ?_ | refine blk_alloc ?_ _)); refine blk_put (cs := #[.int .i64 0, .int .i64 0, .string (⟨#[]⟩ : ByteArray), .string (⟨#[]⟩ : ByteArray), .int .i64 0, .int .i64 0, .string (⟨#[]⟩ : ByteArray)]) ?_ 0 _ rfl; (with_reducible repeat (first | refine blk_drewN ?_ _ | refine blk_drew ?_ | refine blk_alloc ?_ _)); exact BK300.out) Tryd.underlying57 rfl (by kernel_rfl)) rfl ?_
  exact ⟨by first | rfl | (simp [errW_none, errW_some] <;> rfl) | (simp [*, errW_none, errW_some] <;> rfl), by repeat (first | (with_reducible first | exact HB.out | apply below_alloc | apply pw_below_drewN | apply below_drew1 | refine below_set ?_ GE299.out | refine below_set ?_ GE300.out) | exact HB.out)⟩
end Go.Proofs.YtgfigkfcmkdjdaaDoor.B
end
section
namespace Go.Proofs.YtgfigkfcmkdjdaaDoor.B
open Go.RowKit Go.Proofs.YtgfigkfcmkdjdaaDoorW.PrintWords Go.Proofs.YtgfigkfcmkdjdaaDoorW.PrintLast Go.Proofs.YtgfigkfcmkdjdaaDoorW.PrintMore
attribute [local go_sem] max2_int min2_int max_two min_two max_three min_three max_four min_four   -- for this text's walks alone
set_option linter.unusedVariables false
set_option linter.unusedSimpArgs false
theorem eqA45 (d : Nat) (w : World) (x0 y0 : Int) (x1 y1 : Int) (x2 y2 : ByteArray) (x3 y3 : ByteArray) (x4 y4 : Int) (x5 y5 : Int) (x6 y6 : Int) :
    (Op.equalIn (d + 2) 45 (.agg #[.int .i64 x0, .int .i64 x1, .string x2, .string x3, .int .i64 x4, .int .i64 x5, .int .i64 x6]) (.agg #[.int .i64 y0, .int .i64 y1, .string y2, .string y3, .int .i64 y4, .int .i64 y5, .int .i64 y6])).run Tryd.prog w = .ok (x0 == y0 && (x1 == y1 && (x2.toList == y2.toList && (x3.toList == y3.toList && (x4 == y4 && (x5 == y5 && (x6 == y6))))))) w := by
  refine eqA_of Tryd.underlying45 (by kernel_rfl) ?_
  refine eqf_cons (by rfl) (by go_simp; rfl) (by go_simp; rfl) (by go_simp) ?_
  refine eqf_cons (by rfl) (by go_simp; rfl) (by go_simp; rfl) (by go_simp) ?_
  refine eqf_cons (by rfl) (by go_simp; rfl) (by go_simp; rfl) (by go_simp) ?_
  refine eqf_cons (by rfl) (by go_simp; rfl) (by go_simp; rfl) (by go_simp) ?_
  refine eqf_cons (by rfl) (by go_simp; rfl) (by go_simp; rfl) (by go_simp) ?_
  refine eqf_cons (by rfl) (by go_simp; rfl) (by go_simp; rfl) (by go_simp) ?_
  exact eqf_last (by rfl) (by go_simp; rfl) (by go_simp; rfl) (by go_simp)
theorem eqA57 (d : Nat) (w : World) (x0 y0 : Int) (x1 y1 : Int) (x2 y2 : ByteArray) (x3 y3 : ByteArray) (x4 y4 : Int) (x5 y5 : Int) (x6 y6 : ByteArray) :
    (Op.equalIn (d + 2) 57 (.agg #[.int .i64 x0, .int .i64 x1, .string x2, .string x3, .int .i64 x4, .int .i64 x5, .string x6]) (.agg #[.int .i64 y0, .int .i64 y1, .string y2, .string y3, .int .i64 y4, .int .i64 y5, .string y6])).run Tryd.prog w = .ok (x0 == y0 && (x1 == y1 && (x2.toList == y2.toList && (x3.toList == y3.toList && (x4 == y4 && (x5 == y5 && (x6.toList == y6.toList))))))) w := by
  refine eqA_of Tryd.underlying57 (by kernel_rfl) ?_
  refine eqf_cons (by rfl) (by go_simp; rfl) (by go_simp; rfl) (by go_simp) ?_
  refine eqf_cons (by rfl) (by go_simp; rfl) (by go_simp; rfl) (by go_simp) ?_
  refine eqf_cons (by rfl) (by go_simp; rfl) (by go_simp; rfl) (by go_simp) ?_
  refine eqf_cons (by rfl) (by go_simp; rfl) (by go_simp; rfl) (by go_simp) ?_
  refine eqf_cons (by rfl) (by go_simp; rfl) (by go_simp; rfl) (by go_simp) ?_
  refine eqf_cons (by rfl) (by go_simp; rfl) (by go_simp; rfl) (by go_simp) ?_
  exact eqf_last (by rfl) (by go_simp; rfl) (by go_simp; rfl) (by go_simp)
attribute [local go_sem high] eqA45 eqA57
def TrueW (w : World) (e : Ending) (w' : World) : Prop := e = .returned (.bool true) ∧ Below w.heap.size w w'
set_option maxRecDepth 100000 in
set_option maxHeartbeats 8000000 in
theorem postDecodes_walk (s : ByteArray) (w : World) (hT_ : Aside0 (Tabs_ w)) (hs : s.size ≤ 140737488351232) : Calls Tryd.prog 7 #[.string s] w (TrueW w) := by
  have HA : Aside0 (Calls Tryd.prog 22 #[] w fun e w' => e = .returned (.bool true) ∧ Below w.heap.size w w') := ⟨spigotlaw14_awake.calls true w hT_ rfl⟩
  have HO1 : Aside0 (∀ W, Calls Tryd.prog 29 #[.string s] W (OrdIs (orderD s) W)) := ⟨fun W => DecodeOrder_walk s W hs⟩
  have HO2 : Aside0 (∀ W, Calls Tryd.prog 30 #[.string s] W (OrdIs (orderD s) W)) := ⟨fun W => ref14o_walk s W hs⟩
  have HR1 : Aside0 (∀ W, Calls Tryd.prog 31 #[.string s] W (RepIs (replyD s) W)) := ⟨fun W => DecodeReply_walk s W hs⟩
  have HR2 : Aside0 (∀ W, Calls Tryd.prog 32 #[.string s] W (RepIs (replyD s) W)) := ⟨fun W => ref14r_walk s W hs⟩
  have B0 := Aside0.mk (Below.refl w.heap.size w)
  generalize orderD s = od at *
  generalize replyD s = rd at *
  obtain ⟨o, t, e⟩ := od
  obtain ⟨r, u, x⟩ := rd
  have HOr : Aside0 (∀ W, Calls Tryd.prog 26 #[.agg #[.int .i64 o.f0, .int .i64 o.f1, .string o.f2, .string o.f3, .int .i64 o.f4, .int .i64 o.f5, .int .i64 o.f6]] W fun e w' => e = .returned (.agg #[.int .i64 o.f0, .int .i64 o.f1, .string o.f2, .string o.f3, .int .i64 o.f4, .int .i64 o.f5, .int .i64 o.f6]) ∧ Below W.heap.size W w') := ⟨fun W => spigotlaw14_Order.calls _ _ _ _ _ _ _ _ _ _ _ _ _ _ W rfl⟩
  have HRe : Aside0 (∀ W, Calls Tryd.prog 33 #[.agg #[.int .i64 r.f0, .int .i64 r.f1, .string r.f2, .string r.f3, .int .i64 r.f4, .int .i64 r.f5, .string r.f6]] W fun e w' => e = .returned (.agg #[.int .i64 r.f0, .int .i64 r.f1, .string r.f2, .string r.f3, .int .i64 r.f4, .int .i64 r.f5, .string r.f6]) ∧ Below W.heap.size W w') := ⟨fun W => spigotlaw14_Reply.calls _ _ _ _ _ _ _ _ _ _ _ _ _ _ W rfl⟩
  by_cases c : 5000 < s.size
  · have t1 : decide ((5000 : Int) < (s.size : Int)) = true := by rw [decide_eq_true_eq]; omega
    have t2 : decide (5000 < s.size) = true := decide_eq_true c
    clear c
    go_enter Tryd.func7, Tryd.ntmps7
    go_wp2_with (go_at_call 22; ((with_reducible refine HA.out.mono ?_)); rintro en w1 ⟨rfl, hb⟩)
    go_ret
    exact ⟨rfl, hb⟩
  · have t1 : decide ((5000 : Int) < (s.size : Int)) = false := by rw [decide_eq_false_iff_not]; omega
    have t2 : decide (5000 < s.size) = false := decide_eq_false c
    clear c
    go_enter Tryd.func7, Tryd.ntmps7
    go_wp2_with (first
      | (go_at_call 22; ((with_reducible refine HA.out.mono ?_)); rintro en w1 ⟨rfl, hb⟩; have B1 := Aside0.mk (B0.out.trans (hb.mono B0.out.size)); clear hb)
      | (go_at_call 29; ((with_reducible refine (HO1.out _).mono ?_)); rintro en w2 ⟨rfl, hb⟩; have hal : Below w2.heap.size w2 (w2.alloc (.cells #[.int .i64 o.f0, .int .i64 o.f1, .string o.f2, .string o.f3, .int .i64 o.f4, .int .i64 o.f5, .int .i64 o.f6] 41)) := (Below.refl _ _).alloc (Nat.le_refl _) _; have B2 := Aside0.mk ((B1.out.trans (hb.mono B1.out.size)).trans (hal.mono (B1.out.trans (hb.mono B1.out.size)).size)); have BX1 := Aside0.mk (blk_new w2 (.cells #[.int .i64 o.f0, .int .i64 o.f1, .string o.f2, .string o.f3, .int .i64 o.f4, .int .i64 o.f5, .int .i64 o.f6] 41)); clear hb hal)
      | (go_at_call 30; ((with_reducible refine (HO2.out _).mono ?_)); rintro en w3 ⟨rfl, hb⟩; have hal : Below w3.heap.size w3 (w3.alloc (.cells #[.int .i64 o.f0, .int .i64 o.f1, .string o.f2, .string o.f3, .int .i64 o.f4, .int .i64 o.f5, .int .i64 o.f6] 45)) := (Below.refl _ _).alloc (Nat.le_refl _) _; have B3 := Aside0.mk ((B2.out.trans (hb.mono B2.out.size)).trans (hal.mono (B2.out.trans (hb.mono B2.out.size)).size)); have BX1 := Aside0.mk (blk_below (blk_below BX1.out hb) hal); have BX2 := Aside0.mk (blk_new w3 (.cells #[.int .i64 o.f0, .int .i64 o.f1, .string o.f2, .string o.f3, .int .i64 o.f4, .int .i64 o.f5, .int .i64 o.f6] 45)); clear hb hal)
      | (go_at_call 31; ((with_reducible refine (HR1.out _).mono ?_)); rintro en w4 ⟨rfl, hb⟩; have hal : Below w4.heap.size w4 (w4.alloc (.cells #[.int .i64 r.f0, .int .i64 r.f1, .string r.f2, .string r.f3, .int .i64 r.f4, .int .i64 r.f5, .string r.f6] 54)) := (Below.refl _ _).alloc (Nat.le_refl _) _; have B4 := Aside0.mk ((B3.out.trans (hb.mono B3.out.size)).trans (hal.mono (B3.out.trans (hb.mono B3.out.size)).size)); have BX1 := Aside0.mk (blk_below (blk_below BX1.out hb) hal); have BX2 := Aside0.mk (blk_below (blk_below BX2.out hb) hal); have BX3 := Aside0.mk (blk_new w4 (.cells #[.int .i64 r.f0, .int .i64 r.f1, .string r.f2, .string r.f3, .int .i64 r.f4, .int .i64 r.f5, .string r.f6] 54)); clear hb hal)
      | (go_at_call 32; ((with_reducible refine (HR2.out _).mono ?_)); rintro en w5 ⟨rfl, hb⟩; have hal : Below w5.heap.size w5 (w5.alloc (.cells #[.int .i64 r.f0, .int .i64 r.f1, .string r.f2, .string r.f3, .int .i64 r.f4, .int .i64 r.f5, .string r.f6] 57)) := (Below.refl _ _).alloc (Nat.le_refl _) _; have B5 := Aside0.mk ((B4.out.trans (hb.mono B4.out.size)).trans (hal.mono (B4.out.trans (hb.mono B4.out.size)).size)); have BX1 := Aside0.mk (blk_below (blk_below BX1.out hb) hal); have BX2 := Aside0.mk (blk_below (blk_below BX2.out hb) hal); have BX3 := Aside0.mk (blk_below (blk_below BX3.out hb) hal); have BX4 := Aside0.mk (blk_new w5 (.cells #[.int .i64 r.f0, .int .i64 r.f1, .string r.f2, .string r.f3, .int .i64 r.f4, .int .i64 r.f5, .string r.f6] 57)); clear hb hal))
    generalize hW5 : w5.alloc (.cells #[.int .i64 r.f0, .int .i64 r.f1, .string r.f2, .string r.f3, .int .i64 r.f4, .int .i64 r.f5, .string r.f6] 57) = W5 at *
    have HL : Aside0 (w2.heap.size < W5.heap.size ∧ w3.heap.size < W5.heap.size ∧ w4.heap.size < W5.heap.size ∧ w5.heap.size < W5.heap.size) := ⟨⟨blk_lt BX1.out, blk_lt BX2.out, blk_lt BX3.out, blk_lt BX4.out⟩⟩
    clear hW5
    refine start_ (n := 31) (S := fun w' => (∀ i, w'.cell? ⟨w2.heap.size, i, none⟩ = (#[.int .i64 o.f0, .int .i64 o.f1, .string o.f2, .string o.f3, .int .i64 o.f4, .int .i64 o.f5, .int .i64 o.f6] : Array Value)[i]?) ∧ (∀ i, w'.cell? ⟨w3.heap.size, i, none⟩ = (#[.int .i64 o.f0, .int .i64 o.f1, .string o.f2, .string o.f3, .int .i64 o.f4, .int .i64 o.f5, .int .i64 o.f6] : Array Value)[i]?) ∧ (∀ i, w'.cell? ⟨w4.heap.size, i, none⟩ = (#[.int .i64 r.f0, .int .i64 r.f1, .string r.f2, .string r.f3, .int .i64 r.f4, .int .i64 r.f5, .string r.f6] : Array Value)[i]?) ∧ (∀ i, w'.cell? ⟨w5.heap.size, i, none⟩ = (#[.int .i64 r.f0, .int .i64 r.f1, .string r.f2, .string r.f3, .int .i64 r.f4, .int .i64 r.f5, .string r.f6] : Array Value)[i]?)) (ds := []) #[false, false, false, false, false, false, false, false, false, false, false, false, false, false, false, false, false, false, false, false, false, false, false, false, false, false, false, false, false, false, false] (by kernel_rfl) rfl rfl ⟨(fun i => blk_cell (w := W5.drew) BX1.out i), (fun i => blk_cell (w := W5.drew) BX2.out i), (fun i => blk_cell (w := W5.drew) BX3.out i), (fun i => blk_cell (w := W5.drew) BX4.out i)⟩ (fun hHeld => ?_)
    refine take_ (i := 0) (N := some 44) (v := ?_) (a' := ?_) #[true, false, false, false, false, false, false, false, false, false, false, false, false, false, false, false, false, false, false, false, false, false, false, false, false, false, false, false, false, false, false] rfl rfl (by kernel_rfl) (fun _ _ _ h => h) (Or.inl ⟨by rfl, ?_⟩) hHeld ?_ ?_
    rotate_left
    · rintro w' ⟨s0, s1, s2, s3⟩
      go_simp
      with_reducible rfl
    rotate_left
    · simp only [Act.put, List.setIfInBounds_toArray, List.set_cons_zero, List.set_cons_succ, i64_w, i32_w]
      rfl
    refine take_ (i := 2) (N := some 46) (v := ?_) (a' := ?_) #[true, false, true, false, false, false, false, false, false, false, false, false, false, false, false, false, false, false, false, false, false, false, false, false, false, false, false, false, false, false, false] rfl rfl (by kernel_rfl) (fun _ _ _ h => h) (Or.inl ⟨by rfl, ?_⟩) hHeld ?_ ?_
    rotate_left
    · rintro w' ⟨s0, s1, s2, s3⟩
      go_simp
      with_reducible rfl
    rotate_left
    · simp only [Act.put, List.setIfInBounds_toArray, List.set_cons_zero, List.set_cons_succ, i64_w, i32_w]
      rfl
    refine one_ (i := 1) (N := some 45) #[true, true, true, false, false, false, false, false, false, false, false, false, false, false, false, false, false, false, false, false, false, false, false, false, false, false, false, false, false, false, false] rfl rfl (by kernel_rfl) (by decide) (fun K hK => ?_)
    refine goes_ Tryd.func26 (by kernel_rfl) rfl #[.agg #[.int .i64 o.f0, .int .i64 o.f1, .string o.f2, .string o.f3, .int .i64 o.f4, .int .i64 o.f5, .int .i64 o.f6]] (by rfl) rfl rfl (by simp only [List.map_toArray, List.map_cons, List.map_nil]; rfl) ?_
    with_reducible refine (HOr.out _).mono ?_
    rintro e w6 ⟨rfl, hb6⟩
    refine ⟨_, rfl, ?_⟩
    have B6 := Aside0.mk (B5.out.trans ((show Below W5.heap.size W5 w6 from ⟨hb6.os, hb6.tape, hb6.output, hb6.size, hb6.block⟩).mono B5.out.size))
    have HS6 : Aside0 (W5.heap.size ≤ w6.heap.size) := ⟨hb6.size⟩
    refine hK.out _ _ ⟨(fun i => (hb6.cell (p := ⟨w2.heap.size, i, none⟩) HL.out.1).trans (hHeld.1 i)), (fun i => (hb6.cell (p := ⟨w3.heap.size, i, none⟩) HL.out.2.1).trans (hHeld.2.1 i)), (fun i => (hb6.cell (p := ⟨w4.heap.size, i, none⟩) HL.out.2.2.1).trans (hHeld.2.2.1 i)), (fun i => (hb6.cell (p := ⟨w5.heap.size, i, none⟩) HL.out.2.2.2).trans (hHeld.2.2.2 i))⟩ (fun hHeld => ?_)
    clear hK K
    refine norm_ (a' := ?_) ?_ ?_
    rotate_left
    · show Act.put _ (some 45) _ = _
      simp only [Act.put, List.setIfInBounds_toArray, List.set_cons_zero, List.set_cons_succ, i64_w, i32_w]
      rfl
    refine pure_ (i := 3) (N := some 47) (v := ?_) (a' := ?_) #[true, true, true, true, false, false, false, false, false, false, false, false, false, false, false, false, false, false, false, false, false, false, false, false, false, false, false, false, false, false, false] rfl rfl (by kernel_rfl) (fun _ _ _ h => h) (Or.inl ⟨by rfl, ?_⟩) ?_ ?_
    rotate_left
    · intro w'
      go_simp
      with_reducible rfl
    rotate_left
    · simp only [Act.put, List.setIfInBounds_toArray, List.set_cons_zero, List.set_cons_succ, i64_w, i32_w]
      rfl
    refine pure_ (i := 4) (N := some 48) (v := ?_) (a' := ?_) #[true, true, true, true, true, false, false, false, false, false, false, false, false, false, false, false, false, false, false, false, false, false, false, false, false, false, false, false, false, false, false] rfl rfl (by kernel_rfl) (fun _ _ _ h => h) (Or.inl ⟨by rfl, ?_⟩) ?_ ?_
    rotate_left
    · intro w'
      go_simp
      with_reducible rfl
    rotate_left
    · simp only [Act.put, List.setIfInBounds_toArray, List.set_cons_zero, List.set_cons_succ, i64_w, i32_w]
      rfl
    refine pure_ (i := 5) (N := some 49) (v := ?_) (a' := ?_) #[true, true, true, true, true, true, false, false, false, false, false, false, false, false, false, false, false, false, false, false, false, false, false, false, false, false, false, false, false, false, false] rfl rfl (by kernel_rfl) (fun _ _ _ h => h) (Or.inl ⟨by rfl, ?_⟩) ?_ ?_
    rotate_left
    · intro w'
      go_simp
      with_reducible rfl
    rotate_left
    · simp only [Act.put, List.setIfInBounds_toArray, List.set_cons_zero, List.set_cons_succ, i64_w, i32_w]
      rfl
    refine pure_ (i := 6) (N := some 50) (v := ?_) (a' := ?_) #[true, true, true, true, true, true, true, false, false, false, false, false, false, false, false, false, false, false, false, false, false, false, false, false, false, false, false, false, false, false, false] rfl rfl (by kernel_rfl) (fun _ _ _ h => h) (Or.inl ⟨by rfl, ?_⟩) ?_ ?_
    rotate_left
    · intro w'
      go_simp
      with_reducible rfl
    rotate_left
    · simp only [Act.put, List.setIfInBounds_toArray, List.set_cons_zero, List.set_cons_succ, i64_w, i32_w]
      rfl
    refine pure_ (i := 7) (N := some 51) (v := ?_) (a' := ?_) #[true, true, true, true, true, true, true, true, false, false, false, false, false, false, false, false, false, false, false, false, false, false, false, false, false, false, false, false, false, false, false] rfl rfl (by kernel_rfl) (fun _ _ _ h => h) (Or.inl ⟨by rfl, ?_⟩) ?_ ?_
    rotate_left
    · intro w'
      go_simp
      with_reducible rfl
    rotate_left
    · simp only [Act.put, List.setIfInBounds_toArray, List.set_cons_zero, List.set_cons_succ, i64_w, i32_w]
      rfl
    refine pure_ (i := 8) (N := some 52) (v := ?_) (a' := ?_) #[true, true, true, true, true, true, true, true, true, false, false, false, false, false, false, false, false, false, false, false, false, false, false, false, false, false, false, false, false, false, false] rfl rfl (by kernel_rfl) (fun _ _ _ h => h) (Or.inl ⟨by rfl, ?_⟩) ?_ ?_
    rotate_left
    · intro w'
      go_simp
      with_reducible rfl
    rotate_left
    · simp only [Act.put, List.setIfInBounds_toArray, List.set_cons_zero, List.set_cons_succ, i64_w, i32_w]
      rfl
    refine pure_ (i := 9) (N := some 53) (v := ?_) (a' := ?_) #[true, true, true, true, true, true, true, true, true, true, false, false, false, false, false, false, false, false, false, false, false, false, false, false, false, false, false, false, false, false, false] rfl rfl (by kernel_rfl) (fun _ _ _ h => h) (Or.inl ⟨by rfl, ?_⟩) ?_ ?_
    rotate_left
    · intro w'
      go_simp
      with_reducible rfl
    rotate_left
    · simp only [Act.put, List.setIfInBounds_toArray, List.set_cons_zero, List.set_cons_succ, i64_w, i32_w]
      rfl
    refine pure_ (i := 10) (N := some 54) (v := ?_) (a' := ?_) #[true, true, true, true, true, true, true, true, true, true, true, false, false, false, false, false, false, false, false, false, false, false, false, false, false, false, false, false, false, false, false] rfl rfl (by kernel_rfl) (fun _ _ _ h => h) (Or.inl ⟨by rfl, ?_⟩) ?_ ?_
    rotate_left
    · intro w'
      go_simp
      with_reducible rfl
    rotate_left
    · simp only [Act.put, List.setIfInBounds_toArray, List.set_cons_zero, List.set_cons_succ, i64_w, i32_w]
      rfl
    refine pure_ (i := 11) (N := some 55) (v := ?_) (a' := ?_) #[true, true, true, true, true, true, true, true, true, true, true, true, false, false, false, false, false, false, false, false, false, false, false, false, false, false, false, false, false, false, false] rfl rfl (by kernel_rfl) (fun _ _ _ h => h) (Or.inl ⟨by rfl, ?_⟩) ?_ ?_
    rotate_left
    · intro w'
      go_simp
      with_reducible rfl
    rotate_left
    · simp only [Act.put, List.setIfInBounds_toArray, List.set_cons_zero, List.set_cons_succ, i64_w, i32_w]
      rfl
    refine pure_ (i := 12) (N := some 56) (v := ?_) (a' := ?_) #[true, true, true, true, true, true, true, true, true, true, true, true, true, false, false, false, false, false, false, false, false, false, false, false, false, false, false, false, false, false, false] rfl rfl (by kernel_rfl) (fun _ _ _ h => h) (Or.inl ⟨by rfl, ?_⟩) ?_ ?_
    rotate_left
    · intro w'
      go_simp
      with_reducible rfl
    rotate_left
    · simp only [Act.put, List.setIfInBounds_toArray, List.set_cons_zero, List.set_cons_succ, i64_w, i32_w]
      rfl
    refine pure_ (i := 13) (N := some 57) (v := ?_) (a' := ?_) #[true, true, true, true, true, true, true, true, true, true, true, true, true, true, false, false, false, false, false, false, false, false, false, false, false, false, false, false, false, false, false] rfl rfl (by kernel_rfl) (fun _ _ _ h => h) (Or.inl ⟨by rfl, ?_⟩) ?_ ?_
    rotate_left
    · intro w'
      go_simp
      with_reducible rfl
    rotate_left
    · simp only [Act.put, List.setIfInBounds_toArray, List.set_cons_zero, List.set_cons_succ, i64_w, i32_w]
      rfl
    refine pure_ (i := 14) (N := some 58) (v := ?_) (a' := ?_) #[true, true, true, true, true, true, true, true, true, true, true, true, true, true, true, false, false, false, false, false, false, false, false, false, false, false, false, false, false, false, false] rfl rfl (by kernel_rfl) (fun _ _ _ h => h) (Or.inl ⟨by rfl, ?_⟩) ?_ ?_
    rotate_left
    · intro w'
      go_simp
      with_reducible rfl
    rotate_left
    · simp only [Act.put, List.setIfInBounds_toArray, List.set_cons_zero, List.set_cons_succ, i64_w, i32_w]
      rfl
    refine take_ (i := 15) (N := some 59) (v := ?_) (a' := ?_) #[true, true, true, true, true, true, true, true, true, true, true, true, true, true, true, true, false, false, false, false, false, false, false, false, false, false, false, false, false, false, false] rfl rfl (by kernel_rfl) (fun _ _ _ h => h) (Or.inl ⟨by rfl, ?_⟩) hHeld ?_ ?_
    rotate_left
    · rintro w' ⟨s0, s1, s2, s3⟩
      go_simp
      with_reducible rfl
    rotate_left
    · simp only [Act.put, List.setIfInBounds_toArray, List.set_cons_zero, List.set_cons_succ, i64_w, i32_w]
      rfl
    refine take_ (i := 17) (N := some 61) (v := ?_) (a' := ?_) #[true, true, true, true, true, true, true, true, true, true, true, true, true, true, true, true, false, true, false, false, false, false, false, false, false, false, false, false, false, false, false] rfl rfl (by kernel_rfl) (fun _ _ _ h => h) (Or.inl ⟨by rfl, ?_⟩) hHeld ?_ ?_
    rotate_left
    · rintro w' ⟨s0, s1, s2, s3⟩
      go_simp
      with_reducible rfl
    rotate_left
    · simp only [Act.put, List.setIfInBounds_toArray, List.set_cons_zero, List.set_cons_succ, i64_w, i32_w]
      rfl
    refine one_ (i := 16) (N := some 60) #[true, true, true, true, true, true, true, true, true, true, true, true, true, true, true, true, true, true, false, false, false, false, false, false, false, false, false, false, false, false, false] rfl rfl (by kernel_rfl) (by decide) (fun K hK => ?_)
    refine goes_ Tryd.func33 (by kernel_rfl) rfl #[.agg #[.int .i64 r.f0, .int .i64 r.f1, .string r.f2, .string r.f3, .int .i64 r.f4, .int .i64 r.f5, .string r.f6]] (by rfl) rfl rfl (by simp only [List.map_toArray, List.map_cons, List.map_nil]; rfl) ?_
    with_reducible refine (HRe.out _).mono ?_
    rintro e w7 ⟨rfl, hb7⟩
    refine ⟨_, rfl, ?_⟩
    have B7 := Aside0.mk (B6.out.trans (hb7.mono B6.out.size))
    refine hK.out _ _ ⟨(fun i => (hb7.cell (p := ⟨w2.heap.size, i, none⟩) (Nat.lt_of_lt_of_le HL.out.1 HS6.out)).trans (hHeld.1 i)), (fun i => (hb7.cell (p := ⟨w3.heap.size, i, none⟩) (Nat.lt_of_lt_of_le HL.out.2.1 HS6.out)).trans (hHeld.2.1 i)), (fun i => (hb7.cell (p := ⟨w4.heap.size, i, none⟩) (Nat.lt_of_lt_of_le HL.out.2.2.1 HS6.out)).trans (hHeld.2.2.1 i)), (fun i => (hb7.cell (p := ⟨w5.heap.size, i, none⟩) (Nat.lt_of_lt_of_le HL.out.2.2.2 HS6.out)).trans (hHeld.2.2.2 i))⟩ (fun hHeld => ?_)
    clear hK K
    refine norm_ (a' := ?_) ?_ ?_
    rotate_left
    · show Act.put _ (some 60) _ = _
      simp only [Act.put, List.setIfInBounds_toArray, List.set_cons_zero, List.set_cons_succ, i64_w, i32_w]
      rfl
    refine pure_ (i := 18) (N := some 62) (v := ?_) (a' := ?_) #[true, true, true, true, true, true, true, true, true, true, true, true, true, true, true, true, true, true, true, false, false, false, false, false, false, false, false, false, false, false, false] rfl rfl (by kernel_rfl) (fun _ _ _ h => h) (Or.inl ⟨by rfl, ?_⟩) ?_ ?_
    rotate_left
    · intro w'
      go_simp
      with_reducible rfl
    rotate_left
    · simp only [Act.put, List.setIfInBounds_toArray, List.set_cons_zero, List.set_cons_succ, i64_w, i32_w]
      rfl
    refine pure_ (i := 19) (N := some 63) (v := ?_) (a' := ?_) #[true, true, true, true, true, true, true, true, true, true, true, true, true, true, true, true, true, true, true, true, false, false, false, false, false, false, false, false, false, false, false] rfl rfl (by kernel_rfl) (fun _ _ _ h => h) (Or.inl ⟨by rfl, ?_⟩) ?_ ?_
    rotate_left
    · intro w'
      go_simp
      with_reducible rfl
    rotate_left
    · simp only [Act.put, List.setIfInBounds_toArray, List.set_cons_zero, List.set_cons_succ, i64_w, i32_w]
      rfl
    refine pure_ (i := 20) (N := some 64) (v := ?_) (a' := ?_) #[true, true, true, true, true, true, true, true, true, true, true, true, true, true, true, true, true, true, true, true, true, false, false, false, false, false, false, false, false, false, false] rfl rfl (by kernel_rfl) (fun _ _ _ h => h) (Or.inl ⟨by rfl, ?_⟩) ?_ ?_
    rotate_left
    · intro w'
      go_simp
      with_reducible rfl
    rotate_left
    · simp only [Act.put, List.setIfInBounds_toArray, List.set_cons_zero, List.set_cons_succ, i64_w, i32_w]
      rfl
    refine pure_ (i := 21) (N := some 65) (v := ?_) (a' := ?_) #[true, true, true, true, true, true, true, true, true, true, true, true, true, true, true, true, true, true, true, true, true, true, false, false, false, false, false, false, false, false, false] rfl rfl (by kernel_rfl) (fun _ _ _ h => h) (Or.inl ⟨by rfl, ?_⟩) ?_ ?_
    rotate_left
    · intro w'
      go_simp
      with_reducible rfl
    rotate_left
    · simp only [Act.put, List.setIfInBounds_toArray, List.set_cons_zero, List.set_cons_succ, i64_w, i32_w]
      rfl
    refine pure_ (i := 22) (N := some 66) (v := ?_) (a' := ?_) #[true, true, true, true, true, true, true, true, true, true, true, true, true, true, true, true, true, true, true, true, true, true, true, false, false, false, false, false, false, false, false] rfl rfl (by kernel_rfl) (fun _ _ _ h => h) (Or.inl ⟨by rfl, ?_⟩) ?_ ?_
    rotate_left
    · intro w'
      go_simp
      with_reducible rfl
    rotate_left
    · simp only [Act.put, List.setIfInBounds_toArray, List.set_cons_zero, List.set_cons_succ, i64_w, i32_w]
      rfl
    refine pure_ (i := 23) (N := some 67) (v := ?_) (a' := ?_) #[true, true, true, true, true, true, true, true, true, true, true, true, true, true, true, true, true, true, true, true, true, true, true, true, false, false, false, false, false, false, false] rfl rfl (by kernel_rfl) (fun _ _ _ h => h) (Or.inl ⟨by rfl, ?_⟩) ?_ ?_
    rotate_left
    · intro w'
      go_simp
      with_reducible rfl
    rotate_left
    · simp only [Act.put, List.setIfInBounds_toArray, List.set_cons_zero, List.set_cons_succ, i64_w, i32_w]
      rfl
    refine pure_ (i := 24) (N := some 68) (v := ?_) (a' := ?_) #[true, true, true, true, true, true, true, true, true, true, true, true, true, true, true, true, true, true, true, true, true, true, true, true, true, false, false, false, false, false, false] rfl rfl (by kernel_rfl) (fun _ _ _ h => h) (Or.inl ⟨by rfl, ?_⟩) ?_ ?_
    rotate_left
    · intro w'
      go_simp
      with_reducible rfl
    rotate_left
    · simp only [Act.put, List.setIfInBounds_toArray, List.set_cons_zero, List.set_cons_succ, i64_w, i32_w]
      rfl
    refine pure_ (i := 25) (N := some 69) (v := ?_) (a' := ?_) #[true, true, true, true, true, true, true, true, true, true, true, true, true, true, true, true, true, true, true, true, true, true, true, true, true, true, false, false, false, false, false] rfl rfl (by kernel_rfl) (fun _ _ _ h => h) (Or.inl ⟨by rfl, ?_⟩) ?_ ?_
    rotate_left
    · intro w'
      go_simp
      with_reducible rfl
    rotate_left
    · simp only [Act.put, List.setIfInBounds_toArray, List.set_cons_zero, List.set_cons_succ, i64_w, i32_w]
      rfl
    refine pure_ (i := 26) (N := some 70) (v := ?_) (a' := ?_) #[true, true, true, true, true, true, true, true, true, true, true, true, true, true, true, true, true, true, true, true, true, true, true, true, true, true, true, false, false, false, false] rfl rfl (by kernel_rfl) (fun _ _ _ h => h) (Or.inl ⟨by rfl, ?_⟩) ?_ ?_
    rotate_left
    · intro w'
      go_simp
      with_reducible rfl
    rotate_left
    · simp only [Act.put, List.setIfInBounds_toArray, List.set_cons_zero, List.set_cons_succ, i64_w, i32_w]
      rfl
    refine pure_ (i := 27) (N := some 71) (v := ?_) (a' := ?_) #[true, true, true, true, true, true, true, true, true, true, true, true, true, true, true, true, true, true, true, true, true, true, true, true, true, true, true, true, false, false, false] rfl rfl (by kernel_rfl) (fun _ _ _ h => h) (Or.inl ⟨by rfl, ?_⟩) ?_ ?_
    rotate_left
    · intro w'
      go_simp
      with_reducible rfl
    rotate_left
    · simp only [Act.put, List.setIfInBounds_toArray, List.set_cons_zero, List.set_cons_succ, i64_w, i32_w]
      rfl
    refine pure_ (i := 28) (N := some 72) (v := ?_) (a' := ?_) #[true, true, true, true, true, true, true, true, true, true, true, true, true, true, true, true, true, true, true, true, true, true, true, true, true, true, true, true, true, false, false] rfl rfl (by kernel_rfl) (fun _ _ _ h => h) (Or.inl ⟨by rfl, ?_⟩) ?_ ?_
    rotate_left
    · intro w'
      go_simp
      with_reducible rfl
    rotate_left
    · simp only [Act.put, List.setIfInBounds_toArray, List.set_cons_zero, List.set_cons_succ, i64_w, i32_w]
      rfl
    refine pure_ (i := 29) (N := some 73) (v := ?_) (a' := ?_) #[true, true, true, true, true, true, true, true, true, true, true, true, true, true, true, true, true, true, true, true, true, true, true, true, true, true, true, true, true, true, false] rfl rfl (by kernel_rfl) (fun _ _ _ h => h) (Or.inl ⟨by rfl, ?_⟩) ?_ ?_
    rotate_left
    · intro w'
      go_simp
      with_reducible rfl
    rotate_left
    · simp only [Act.put, List.setIfInBounds_toArray, List.set_cons_zero, List.set_cons_succ, i64_w, i32_w]
      rfl
    refine pure_ (i := 30) (N := some 2) (v := ?_) (a' := ?_) #[true, true, true, true, true, true, true, true, true, true, true, true, true, true, true, true, true, true, true, true, true, true, true, true, true, true, true, true, true, true, true] rfl rfl (by kernel_rfl) (fun _ _ _ h => h) (Or.inl ⟨by rfl, ?_⟩) ?_ ?_
    rotate_left
    · intro w'
      go_simp
      with_reducible rfl
    rotate_left
    · simp only [Act.put, List.setIfInBounds_toArray, List.set_cons_zero, List.set_cons_succ, i64_w, i32_w]
      rfl
    refine done_ (by kernel_rfl) ?_

    go_wp2
    go_ret
    exact ⟨rfl, B7.out⟩
def spigotlaw14_PostDecodes.f (a0 : ByteArray) : Option Bool := if a0.size ≤ 140737488351232 then some true else none
theorem spigotlaw14_PostDecodes.calls (a0 : ByteArray) (r : Bool) (w : World) (hT_ : Aside0 (Tabs_ w)) (h : spigotlaw14_PostDecodes.f a0 = some r) :
    Calls Tryd.prog 7 #[.string a0] w fun e w' => e = .returned (.bool r) ∧ Below w.heap.size w w' := by
  unfold spigotlaw14_PostDecodes.f at h
  by_cases c : a0.size ≤ 140737488351232
  · rw [if_pos c] at h
    obtain rfl := Option.some.inj h
    exact postDecodes_walk a0 w hT_ c
  · rw [if_neg c] at h; cases h
end Go.Proofs.YtgfigkfcmkdjdaaDoor.B
end
