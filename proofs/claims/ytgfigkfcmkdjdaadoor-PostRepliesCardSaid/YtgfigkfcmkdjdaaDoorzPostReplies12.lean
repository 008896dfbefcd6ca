/- The functions that the law reaches, as plain Lean functions, and their contracts: texts merged. -/
import Derived.Laws.StructEq
import Derived.Test.YtgfigkfcmkdjdaaDoorzPostReplies3
import Derived.Test.YtgfigkfcmkdjdaaDoorzPostReplies0
import Derived.Test.YtgfigkfcmkdjdaaDoorzPostReplies1
import Derived.Test.YtgfigkfcmkdjdaaDoorzPostReplies2
import Derived.Test.YtgfigkfcmkdjdaaDoorzPostReplies4
import Derived.Test.YtgfigkfcmkdjdaaDoorzPostReplies5
import Derived.Test.YtgfigkfcmkdjdaaDoorzPostReplies6
import Derived.Test.YtgfigkfcmkdjdaaDoorzPostReplies7
import Derived.Test.YtgfigkfcmkdjdaaDoorzPostReplies8
import Derived.Test.YtgfigkfcmkdjdaaDoorzPostReplies9
import Derived.Test.YtgfigkfcmkdjdaaDoorzPostReplies10
import Derived.Test.YtgfigkfcmkdjdaaDoorzPostReplies11
section
namespace Go.Proofs.YtgfigkfcmkdjdaaDoor.B
open Go.RowKit Go.Proofs.YtgfigkfcmkdjdaaDoorW.PrintWords Go.Proofs.YtgfigkfcmkdjdaaDoorW.PrintLast Go.Proofs.YtgfigkfcmkdjdaaDoorW.PrintMore
attribute [local go_sem] max2_int min2_int max_two min_two max_three min_three max_four min_four   -- for this text's walks alone
set_option linter.unusedVariables false
set_option linter.unusedSimpArgs false
structure RepV where
  f0 : Int
  f1 : Int
  f2 : ByteArray
  f3 : ByteArray
  f4 : Int
  f5 : Int
  f6 : ByteArray
def rightP (a : RepV) : Bool := decide (1 ≤ a.f0 ∧ a.f0 ≤ 7) && (decide (1 ≤ a.f1 ∧ a.f1 ≤ 1099511627776) && (nameL a.f2.data.toList 0 &&
  ((if a.f0 = 7 then decide (a.f3 = ⟨#[]⟩) else nameL a.f3.data.toList 0) &&
   ((if a.f0 = 5 then decide (1 ≤ a.f4 ∧ a.f4 ≤ 1099511627776) && decide (1 ≤ a.f5 ∧ a.f5 ≤ 1099511627776) else decide (a.f4 = 0) && decide (a.f5 = 0)) &&
    (if a.f0 = 6 then nameL a.f6.data.toList 0 else decide (a.f6 = ⟨#[]⟩))))))
theorem rightP_iff (a : RepV) : rightP a = true ↔ (1 ≤ a.f0 ∧ a.f0 ≤ 7) ∧ (1 ≤ a.f1 ∧ a.f1 ≤ 1099511627776) ∧ nameL a.f2.data.toList 0 = true ∧
    ((if a.f0 = 7 then a.f3 = ⟨#[]⟩ else nameL a.f3.data.toList 0 = true) ∧ (a.f0 = 5 → (1 ≤ a.f4 ∧ a.f4 ≤ 1099511627776) ∧ (1 ≤ a.f5 ∧ a.f5 ≤ 1099511627776)) ∧ (a.f0 ≠ 5 → a.f4 = 0 ∧ a.f5 = 0) ∧ (if a.f0 = 6 then nameL a.f6.data.toList 0 = true else a.f6 = ⟨#[]⟩)) := by
  obtain ⟨f0, f1, f2, f3, f4, f5, f6⟩ := a
  unfold rightP
  simp only [Bool.and_eq_true, decide_eq_true_eq]
  by_cases c5 : f0 = 5
  · subst c5; simp [and_assoc]
  by_cases c6 : f0 = 6
  · subst c6; simp [and_assoc]
  by_cases c7 : f0 = 7
  · subst c7; simp [and_assoc]
  · simp [c5, c6, c7, and_assoc]
set_option maxRecDepth 100000 in
set_option maxHeartbeats 4000000 in
theorem rr_a (f0 f1 f4 f5 : Int) (f2 f3 f6 : ByteArray) (W : World) (z2 : f2.size ≤ 140737488351232) (z3 : f3.size ≤ 140737488351232) (z6 : f6.size ≤ 140737488351232) (h0 : ¬ (1 ≤ f0 ∧ f0 ≤ 7)) :
    Calls Tryd.prog 36 #[.agg #[.int .i64 f0, .int .i64 f1, .string f2, .string f3, .int .i64 f4, .int .i64 f5, .string f6]] W (RtIs false W) := by
  have B0 : Aside0 (Below W.heap.size W (W.alloc (.cells #[.int .i64 f0, .int .i64 f1, .string f2, .string f3, .int .i64 f4, .int .i64 f5, .string f6] 54))) := ⟨(Below.refl _ _).alloc (Nat.le_refl _) _⟩
  have K0 := Aside0.mk (blk_new W (.cells #[.int .i64 f0, .int .i64 f1, .string f2, .string f3, .int .i64 f4, .int .i64 f5, .string f6] 54))
  have HC0 : Aside0 (∀ X, Calls Tryd.prog 74 #[.int .i64 f0, .int .i64 1, .int .i64 7] X fun e w' => e = .returned (.bool false) ∧ Drawn0 X w') := ⟨fun X => post_within.calls _ _ _ _ X (by rw [within_f, decide_eq_false (by omega)])⟩
  clear h0 z2 z3 z6
  go_enter Tryd.func36, Tryd.ntmps36
  go_wp2_with (first
    | (go_at_call 74; ((with_reducible refine (HC0.out _).mono ?_)); rintro en x1 ⟨rfl, hd⟩; (try clear hc); have hk := hd.below; have B1 := Aside0.mk (B0.out.trans (hk.mono B0.out.size)); have K1 := Aside0.mk (blk_below K0.out hk); have hc := fun i => blk_cell K1.out i; clear hd hk))
  (try (go_quiet (fail); go_wp2_with (first | (go_at_call 74; ((with_reducible refine (HC0.out _).mono ?_)); rintro en x1 ⟨rfl, hd⟩; (try clear hc); have hk := hd.below; have B1 := Aside0.mk (B0.out.trans (hk.mono B0.out.size)); have K1 := Aside0.mk (blk_below K0.out hk); have hc := fun i => blk_cell K1.out i; clear hd hk))))
  go_ret
  exact ⟨rfl, by first | exact B1.out | exact pw_below_drewN B1.out _ | exact B1.out.drew⟩
set_option maxRecDepth 100000 in
set_option maxHeartbeats 4000000 in
theorem rr_b (f0 f1 f4 f5 : Int) (f2 f3 f6 : ByteArray) (W : World) (z2 : f2.size ≤ 140737488351232) (z3 : f3.size ≤ 140737488351232) (z6 : f6.size ≤ 140737488351232) (h0 : 1 ≤ f0 ∧ f0 ≤ 7) (h1 : ¬ (1 ≤ f1 ∧ f1 ≤ 1099511627776)) :
    Calls Tryd.prog 36 #[.agg #[.int .i64 f0, .int .i64 f1, .string f2, .string f3, .int .i64 f4, .int .i64 f5, .string f6]] W (RtIs false W) := by
  have B0 : Aside0 (Below W.heap.size W (W.alloc (.cells #[.int .i64 f0, .int .i64 f1, .string f2, .string f3, .int .i64 f4, .int .i64 f5, .string f6] 54))) := ⟨(Below.refl _ _).alloc (Nat.le_refl _) _⟩
  have K0 := Aside0.mk (blk_new W (.cells #[.int .i64 f0, .int .i64 f1, .string f2, .string f3, .int .i64 f4, .int .i64 f5, .string f6] 54))
  have HC0 : Aside0 (∀ X, Calls Tryd.prog 74 #[.int .i64 f0, .int .i64 1, .int .i64 7] X fun e w' => e = .returned (.bool true) ∧ Drawn0 X w') := ⟨fun X => post_within.calls _ _ _ _ X (by rw [within_f, decide_eq_true (by omega)])⟩
  have HC1 : Aside0 (∀ X, Calls Tryd.prog 74 #[.int .i64 f1, .int .i64 1, .int .i64 1099511627776] X fun e w' => e = .returned (.bool false) ∧ Drawn0 X w') := ⟨fun X => post_within.calls _ _ _ _ X (by rw [within_f, decide_eq_false (by omega)])⟩
  clear h0 h1 z2 z3 z6
  go_enter Tryd.func36, Tryd.ntmps36
  go_wp2_with (first
    | (go_at_call 74; ((with_reducible refine (HC0.out _).mono ?_)); rintro en x1 ⟨rfl, hd⟩; (try clear hc); have hk := hd.below; have B1 := Aside0.mk (B0.out.trans (hk.mono B0.out.size)); have K1 := Aside0.mk (blk_below K0.out hk); have hc := fun i => blk_cell K1.out i; clear hd hk)
    | (go_at_call 74; ((with_reducible refine (HC1.out _).mono ?_)); rintro en x2 ⟨rfl, hd⟩; (try clear hc); have hk : Below x1.heap.size x1 x2 := ⟨hd.below.os, hd.below.tape, hd.below.output, hd.below.size, hd.below.block⟩; have B2 := Aside0.mk (B1.out.trans (hk.mono B1.out.size)); have K2 := Aside0.mk (blk_below K1.out hk); have hc := fun i => blk_cell K2.out i; clear hd hk))
  (try (go_quiet (fail); go_wp2_with (first | (go_at_call 74; ((with_reducible refine (HC0.out _).mono ?_)); rintro en x1 ⟨rfl, hd⟩; (try clear hc); have hk := hd.below; have B1 := Aside0.mk (B0.out.trans (hk.mono B0.out.size)); have K1 := Aside0.mk (blk_below K0.out hk); have hc := fun i => blk_cell K1.out i; clear hd hk) | (go_at_call 74; ((with_reducible refine (HC1.out _).mono ?_)); rintro en x2 ⟨rfl, hd⟩; (try clear hc); have hk : Below x1.heap.size x1 x2 := ⟨hd.below.os, hd.below.tape, hd.below.output, hd.below.size, hd.below.block⟩; have B2 := Aside0.mk (B1.out.trans (hk.mono B1.out.size)); have K2 := Aside0.mk (blk_below K1.out hk); have hc := fun i => blk_cell K2.out i; clear hd hk))))
  go_ret
  exact ⟨rfl, by first | exact B2.out | exact pw_below_drewN B2.out _ | exact B2.out.drew⟩
set_option maxRecDepth 100000 in
set_option maxHeartbeats 4000000 in
theorem rr_c (f0 f1 f4 f5 : Int) (f2 f3 f6 : ByteArray) (W : World) (z2 : f2.size ≤ 140737488351232) (z3 : f3.size ≤ 140737488351232) (z6 : f6.size ≤ 140737488351232) (h0 : 1 ≤ f0 ∧ f0 ≤ 7) (h1 : 1 ≤ f1 ∧ f1 ≤ 1099511627776) (n2 : nameL f2.data.toList 0 = false) :
    Calls Tryd.prog 36 #[.agg #[.int .i64 f0, .int .i64 f1, .string f2, .string f3, .int .i64 f4, .int .i64 f5, .string f6]] W (RtIs false W) := by
  have B0 : Aside0 (Below W.heap.size W (W.alloc (.cells #[.int .i64 f0, .int .i64 f1, .string f2, .string f3, .int .i64 f4, .int .i64 f5, .string f6] 54))) := ⟨(Below.refl _ _).alloc (Nat.le_refl _) _⟩
  have K0 := Aside0.mk (blk_new W (.cells #[.int .i64 f0, .int .i64 f1, .string f2, .string f3, .int .i64 f4, .int .i64 f5, .string f6] 54))
  have HC0 : Aside0 (∀ X, Calls Tryd.prog 74 #[.int .i64 f0, .int .i64 1, .int .i64 7] X fun e w' => e = .returned (.bool true) ∧ Drawn0 X w') := ⟨fun X => post_within.calls _ _ _ _ X (by rw [within_f, decide_eq_true (by omega)])⟩
  have HC1 : Aside0 (∀ X, Calls Tryd.prog 74 #[.int .i64 f1, .int .i64 1, .int .i64 1099511627776] X fun e w' => e = .returned (.bool true) ∧ Drawn0 X w') := ⟨fun X => post_within.calls _ _ _ _ X (by rw [within_f, decide_eq_true (by omega)])⟩
  have HC2 : Aside0 (∀ X, Calls Tryd.prog 54 #[.string f2] X fun e w' => e = .returned (.bool false) ∧ Below X.heap.size X w') := ⟨fun X => by have h := roster_Valid_walk f2 X (by omega); rw [n2] at h; exact h⟩
  clear h0 h1 n2 z2 z3 z6
  go_enter Tryd.func36, Tryd.ntmps36
  go_wp2_with (first
    | (go_at_call 74; ((with_reducible refine (HC0.out _).mono ?_)); rintro en x1 ⟨rfl, hd⟩; (try clear hc); have hk := hd.below; have B1 := Aside0.mk (B0.out.trans (hk.mono B0.out.size)); have K1 := Aside0.mk (blk_below K0.out hk); have hc := fun i => blk_cell K1.out i; clear hd hk)
    | (go_at_call 74; ((with_reducible refine (HC1.out _).mono ?_)); rintro en x2 ⟨rfl, hd⟩; (try clear hc); have hk : Below x1.heap.size x1 x2 := ⟨hd.below.os, hd.below.tape, hd.below.output, hd.below.size, hd.below.block⟩; have B2 := Aside0.mk (B1.out.trans (hk.mono B1.out.size)); have K2 := Aside0.mk (blk_below K1.out hk); have hc := fun i => blk_cell K2.out i; clear hd hk)
    | (go_at_call 54; ((with_reducible refine (HC2.out _).mono ?_)); rintro en x3 ⟨rfl, hd⟩; (try clear hc); have hk : Below x2.heap.size x2 x3 := ⟨hd.os, hd.tape, hd.output, hd.size, hd.block⟩; have B3 := Aside0.mk (B2.out.trans (hk.mono B2.out.size)); have K3 := Aside0.mk (blk_below K2.out hk); have hc := fun i => blk_cell K3.out i; clear hd hk))
  (try (go_quiet (fail); go_wp2_with (first | (go_at_call 74; ((with_reducible refine (HC0.out _).mono ?_)); rintro en x1 ⟨rfl, hd⟩; (try clear hc); have hk := hd.below; have B1 := Aside0.mk (B0.out.trans (hk.mono B0.out.size)); have K1 := Aside0.mk (blk_below K0.out hk); have hc := fun i => blk_cell K1.out i; clear hd hk) | (go_at_call 74; ((with_reducible refine (HC1.out _).mono ?_)); rintro en x2 ⟨rfl, hd⟩; (try clear hc); have hk : Below x1.heap.size x1 x2 := ⟨hd.below.os, hd.below.tape, hd.below.output, hd.below.size, hd.below.block⟩; have B2 := Aside0.mk (B1.out.trans (hk.mono B1.out.size)); have K2 := Aside0.mk (blk_below K1.out hk); have hc := fun i => blk_cell K2.out i; clear hd hk) | (go_at_call 54; ((with_reducible refine (HC2.out _).mono ?_)); rintro en x3 ⟨rfl, hd⟩; (try clear hc); have hk : Below x2.heap.size x2 x3 := ⟨hd.os, hd.tape, hd.output, hd.size, hd.block⟩; have B3 := Aside0.mk (B2.out.trans (hk.mono B2.out.size)); have K3 := Aside0.mk (blk_below K2.out hk); have hc := fun i => blk_cell K3.out i; clear hd hk))))
  go_ret
  exact ⟨rfl, by first | exact B3.out | exact pw_below_drewN B3.out _ | exact B3.out.drew⟩
set_option maxRecDepth 100000 in
set_option maxHeartbeats 4000000 in
theorem rr_7_x (f1 f4 f5 : Int) (f2 f3 f6 : ByteArray) (W : World) (z2 : f2.size ≤ 140737488351232) (z3 : f3.size ≤ 140737488351232) (z6 : f6.size ≤ 140737488351232) (h1 : 1 ≤ f1 ∧ f1 ≤ 1099511627776) (n2 : nameL f2.data.toList 0 = true) (m3a : f3.toList.isEmpty = false) (m3b : ¬ f3.toList = []) (m3c : (f3.toList == []) = false) :
    Calls Tryd.prog 36 #[.agg #[.int .i64 7, .int .i64 f1, .string f2, .string f3, .int .i64 f4, .int .i64 f5, .string f6]] W (RtIs false W) := by
  have B0 : Aside0 (Below W.heap.size W (W.alloc (.cells #[.int .i64 7, .int .i64 f1, .string f2, .string f3, .int .i64 f4, .int .i64 f5, .string f6] 54))) := ⟨(Below.refl _ _).alloc (Nat.le_refl _) _⟩
  have K0 := Aside0.mk (blk_new W (.cells #[.int .i64 7, .int .i64 f1, .string f2, .string f3, .int .i64 f4, .int .i64 f5, .string f6] 54))
  have HC0 : Aside0 (∀ X, Calls Tryd.prog 74 #[.int .i64 7, .int .i64 1, .int .i64 7] X fun e w' => e = .returned (.bool true) ∧ Drawn0 X w') := ⟨fun X => post_within.calls _ _ _ _ X (by rw [within_f, decide_eq_true (by omega)])⟩
  have HC1 : Aside0 (∀ X, Calls Tryd.prog 74 #[.int .i64 f1, .int .i64 1, .int .i64 1099511627776] X fun e w' => e = .returned (.bool true) ∧ Drawn0 X w') := ⟨fun X => post_within.calls _ _ _ _ X (by rw [within_f, decide_eq_true (by omega)])⟩
  have HC2 : Aside0 (∀ X, Calls Tryd.prog 54 #[.string f2] X fun e w' => e = .returned (.bool true) ∧ Below X.heap.size X w') := ⟨fun X => by have h := roster_Valid_walk f2 X (by omega); rw [n2] at h; exact h⟩
  clear h1 n2 z2 z3 z6
  go_enter Tryd.func36, Tryd.ntmps36
  go_wp2_with (first
    | (go_at_call 74; ((with_reducible refine (HC0.out _).mono ?_)); rintro en x1 ⟨rfl, hd⟩; (try clear hc); have hk := hd.below; have B1 := Aside0.mk (B0.out.trans (hk.mono B0.out.size)); have K1 := Aside0.mk (blk_below K0.out hk); have hc := fun i => blk_cell K1.out i; clear hd hk)
    | (go_at_call 74; ((with_reducible refine (HC1.out _).mono ?_)); rintro en x2 ⟨rfl, hd⟩; (try clear hc); have hk : Below x1.heap.size x1 x2 := ⟨hd.below.os, hd.below.tape, hd.below.output, hd.below.size, hd.below.block⟩; have B2 := Aside0.mk (B1.out.trans (hk.mono B1.out.size)); have K2 := Aside0.mk (blk_below K1.out hk); have hc := fun i => blk_cell K2.out i; clear hd hk)
    | (go_at_call 54; ((with_reducible refine (HC2.out _).mono ?_)); rintro en x3 ⟨rfl, hd⟩; (try clear hc); have hk : Below x2.heap.size x2 x3 := ⟨hd.os, hd.tape, hd.output, hd.size, hd.block⟩; have B3 := Aside0.mk (B2.out.trans (hk.mono B2.out.size)); have K3 := Aside0.mk (blk_below K2.out hk); have hc := fun i => blk_cell K3.out i; clear hd hk))
  (try (go_quiet (fail); go_wp2_with (first | (go_at_call 74; ((with_reducible refine (HC0.out _).mono ?_)); rintro en x1 ⟨rfl, hd⟩; (try clear hc); have hk := hd.below; have B1 := Aside0.mk (B0.out.trans (hk.mono B0.out.size)); have K1 := Aside0.mk (blk_below K0.out hk); have hc := fun i => blk_cell K1.out i; clear hd hk) | (go_at_call 74; ((with_reducible refine (HC1.out _).mono ?_)); rintro en x2 ⟨rfl, hd⟩; (try clear hc); have hk : Below x1.heap.size x1 x2 := ⟨hd.below.os, hd.below.tape, hd.below.output, hd.below.size, hd.below.block⟩; have B2 := Aside0.mk (B1.out.trans (hk.mono B1.out.size)); have K2 := Aside0.mk (blk_below K1.out hk); have hc := fun i => blk_cell K2.out i; clear hd hk) | (go_at_call 54; ((with_reducible refine (HC2.out _).mono ?_)); rintro en x3 ⟨rfl, hd⟩; (try clear hc); have hk : Below x2.heap.size x2 x3 := ⟨hd.os, hd.tape, hd.output, hd.size, hd.block⟩; have B3 := Aside0.mk (B2.out.trans (hk.mono B2.out.size)); have K3 := Aside0.mk (blk_below K2.out hk); have hc := fun i => blk_cell K3.out i; clear hd hk))))
  go_ret
  exact ⟨rfl, by first | exact B3.out | exact pw_below_drewN B3.out _ | exact B3.out.drew⟩
set_option maxRecDepth 100000 in
set_option maxHeartbeats 4000000 in
theorem rr_7_4 (f1 f4 f5 : Int) (f2 f6 : ByteArray) (W : World) (z2 : f2.size ≤ 140737488351232) (z6 : f6.size ≤ 140737488351232) (h1 : 1 ≤ f1 ∧ f1 ≤ 1099511627776) (n2 : nameL f2.data.toList 0 = true) (t4 : (f4 != 0) = true) :
    Calls Tryd.prog 36 #[.agg #[.int .i64 7, .int .i64 f1, .string f2, .string ⟨#[]⟩, .int .i64 f4, .int .i64 f5, .string f6]] W (RtIs false W) := by
  have B0 : Aside0 (Below W.heap.size W (W.alloc (.cells #[.int .i64 7, .int .i64 f1, .string f2, .string ⟨#[]⟩, .int .i64 f4, .int .i64 f5, .string f6] 54))) := ⟨(Below.refl _ _).alloc (Nat.le_refl _) _⟩
  have K0 := Aside0.mk (blk_new W (.cells #[.int .i64 7, .int .i64 f1, .string f2, .string ⟨#[]⟩, .int .i64 f4, .int .i64 f5, .string f6] 54))
  have HC0 : Aside0 (∀ X, Calls Tryd.prog 74 #[.int .i64 7, .int .i64 1, .int .i64 7] X fun e w' => e = .returned (.bool true) ∧ Drawn0 X w') := ⟨fun X => post_within.calls _ _ _ _ X (by rw [within_f, decide_eq_true (by omega)])⟩
  have HC1 : Aside0 (∀ X, Calls Tryd.prog 74 #[.int .i64 f1, .int .i64 1, .int .i64 1099511627776] X fun e w' => e = .returned (.bool true) ∧ Drawn0 X w') := ⟨fun X => post_within.calls _ _ _ _ X (by rw [within_f, decide_eq_true (by omega)])⟩
  have HC2 : Aside0 (∀ X, Calls Tryd.prog 54 #[.string f2] X fun e w' => e = .returned (.bool true) ∧ Below X.heap.size X w') := ⟨fun X => by have h := roster_Valid_walk f2 X (by omega); rw [n2] at h; exact h⟩
  clear h1 n2 z2 z6
  go_enter Tryd.func36, Tryd.ntmps36
  go_wp2_with (first
    | (go_at_call 74; ((with_reducible refine (HC0.out _).mono ?_)); rintro en x1 ⟨rfl, hd⟩; (try clear hc); have hk := hd.below; have B1 := Aside0.mk (B0.out.trans (hk.mono B0.out.size)); have K1 := Aside0.mk (blk_below K0.out hk); have hc := fun i => blk_cell K1.out i; clear hd hk)
    | (go_at_call 74; ((with_reducible refine (HC1.out _).mono ?_)); rintro en x2 ⟨rfl, hd⟩; (try clear hc); have hk : Below x1.heap.size x1 x2 := ⟨hd.below.os, hd.below.tape, hd.below.output, hd.below.size, hd.below.block⟩; have B2 := Aside0.mk (B1.out.trans (hk.mono B1.out.size)); have K2 := Aside0.mk (blk_below K1.out hk); have hc := fun i => blk_cell K2.out i; clear hd hk)
    | (go_at_call 54; ((with_reducible refine (HC2.out _).mono ?_)); rintro en x3 ⟨rfl, hd⟩; (try clear hc); have hk : Below x2.heap.size x2 x3 := ⟨hd.os, hd.tape, hd.output, hd.size, hd.block⟩; have B3 := Aside0.mk (B2.out.trans (hk.mono B2.out.size)); have K3 := Aside0.mk (blk_below K2.out hk); have hc := fun i => blk_cell K3.out i; clear hd hk))
  (try (go_quiet (fail); go_wp2_with (first | (go_at_call 74; ((with_reducible refine (HC0.out _).mono ?_)); rintro en x1 ⟨rfl, hd⟩; (try clear hc); have hk := hd.below; have B1 := Aside0.mk (B0.out.trans (hk.mono B0.out.size)); have K1 := Aside0.mk (blk_below K0.out hk); have hc := fun i => blk_cell K1.out i; clear hd hk) | (go_at_call 74; ((with_reducible refine (HC1.out _).mono ?_)); rintro en x2 ⟨rfl, hd⟩; (try clear hc); have hk : Below x1.heap.size x1 x2 := ⟨hd.below.os, hd.below.tape, hd.below.output, hd.below.size, hd.below.block⟩; have B2 := Aside0.mk (B1.out.trans (hk.mono B1.out.size)); have K2 := Aside0.mk (blk_below K1.out hk); have hc := fun i => blk_cell K2.out i; clear hd hk) | (go_at_call 54; ((with_reducible refine (HC2.out _).mono ?_)); rintro en x3 ⟨rfl, hd⟩; (try clear hc); have hk : Below x2.heap.size x2 x3 := ⟨hd.os, hd.tape, hd.output, hd.size, hd.block⟩; have B3 := Aside0.mk (B2.out.trans (hk.mono B2.out.size)); have K3 := Aside0.mk (blk_below K2.out hk); have hc := fun i => blk_cell K3.out i; clear hd hk))))
  go_ret
  exact ⟨rfl, by first | exact B3.out | exact pw_below_drewN B3.out _ | exact B3.out.drew⟩
set_option maxRecDepth 100000 in
set_option maxHeartbeats 4000000 in
theorem rr_7_5 (f1 f5 : Int) (f2 f6 : ByteArray) (W : World) (z2 : f2.size ≤ 140737488351232) (z6 : f6.size ≤ 140737488351232) (h1 : 1 ≤ f1 ∧ f1 ≤ 1099511627776) (n2 : nameL f2.data.toList 0 = true) (t5b : (f5 != 0) = true) :
    Calls Tryd.prog 36 #[.agg #[.int .i64 7, .int .i64 f1, .string f2, .string ⟨#[]⟩, .int .i64 0, .int .i64 f5, .string f6]] W (RtIs false W) := by
  have B0 : Aside0 (Below W.heap.size W (W.alloc (.cells #[.int .i64 7, .int .i64 f1, .string f2, .string ⟨#[]⟩, .int .i64 0, .int .i64 f5, .string f6] 54))) := ⟨(Below.refl _ _).alloc (Nat.le_refl _) _⟩
  have K0 := Aside0.mk (blk_new W (.cells #[.int .i64 7, .int .i64 f1, .string f2, .string ⟨#[]⟩, .int .i64 0, .int .i64 f5, .string f6] 54))
  have HC0 : Aside0 (∀ X, Calls Tryd.prog 74 #[.int .i64 7, .int .i64 1, .int .i64 7] X fun e w' => e = .returned (.bool true) ∧ Drawn0 X w') := ⟨fun X => post_within.calls _ _ _ _ X (by rw [within_f, decide_eq_true (by omega)])⟩
  have HC1 : Aside0 (∀ X, Calls Tryd.prog 74 #[.int .i64 f1, .int .i64 1, .int .i64 1099511627776] X fun e w' => e = .returned (.bool true) ∧ Drawn0 X w') := ⟨fun X => post_within.calls _ _ _ _ X (by rw [within_f, decide_eq_true (by omega)])⟩
  have HC2 : Aside0 (∀ X, Calls Tryd.prog 54 #[.string f2] X fun e w' => e = .returned (.bool true) ∧ Below X.heap.size X w') := ⟨fun X => by have h := roster_Valid_walk f2 X (by omega); rw [n2] at h; exact h⟩
  clear h1 n2 z2 z6
  go_enter Tryd.func36, Tryd.ntmps36
  go_wp2_with (first
    | (go_at_call 74; ((with_reducible refine (HC0.out _).mono ?_)); rintro en x1 ⟨rfl, hd⟩; (try clear hc); have hk := hd.below; have B1 := Aside0.mk (B0.out.trans (hk.mono B0.out.size)); have K1 := Aside0.mk (blk_below K0.out hk); have hc := fun i => blk_cell K1.out i; clear hd hk)
    | (go_at_call 74; ((with_reducible refine (HC1.out _).mono ?_)); rintro en x2 ⟨rfl, hd⟩; (try clear hc); have hk : Below x1.heap.size x1 x2 := ⟨hd.below.os, hd.below.tape, hd.below.output, hd.below.size, hd.below.block⟩; have B2 := Aside0.mk (B1.out.trans (hk.mono B1.out.size)); have K2 := Aside0.mk (blk_below K1.out hk); have hc := fun i => blk_cell K2.out i; clear hd hk)
    | (go_at_call 54; ((with_reducible refine (HC2.out _).mono ?_)); rintro en x3 ⟨rfl, hd⟩; (try clear hc); have hk : Below x2.heap.size x2 x3 := ⟨hd.os, hd.tape, hd.output, hd.size, hd.block⟩; have B3 := Aside0.mk (B2.out.trans (hk.mono B2.out.size)); have K3 := Aside0.mk (blk_below K2.out hk); have hc := fun i => blk_cell K3.out i; clear hd hk))
  (try (go_quiet (fail); go_wp2_with (first | (go_at_call 74; ((with_reducible refine (HC0.out _).mono ?_)); rintro en x1 ⟨rfl, hd⟩; (try clear hc); have hk := hd.below; have B1 := Aside0.mk (B0.out.trans (hk.mono B0.out.size)); have K1 := Aside0.mk (blk_below K0.out hk); have hc := fun i => blk_cell K1.out i; clear hd hk) | (go_at_call 74; ((with_reducible refine (HC1.out _).mono ?_)); rintro en x2 ⟨rfl, hd⟩; (try clear hc); have hk : Below x1.heap.size x1 x2 := ⟨hd.below.os, hd.below.tape, hd.below.output, hd.below.size, hd.below.block⟩; have B2 := Aside0.mk (B1.out.trans (hk.mono B1.out.size)); have K2 := Aside0.mk (blk_below K1.out hk); have hc := fun i => blk_cell K2.out i; clear hd hk) | (go_at_call 54; ((with_reducible refine (HC2.out _).mono ?_)); rintro en x3 ⟨rfl, hd⟩; (try clear hc); have hk : Below x2.heap.size x2 x3 := ⟨hd.os, hd.tape, hd.output, hd.size, hd.block⟩; have B3 := Aside0.mk (B2.out.trans (hk.mono B2.out.size)); have K3 := Aside0.mk (blk_below K2.out hk); have hc := fun i => blk_cell K3.out i; clear hd hk))))
  go_ret
  exact ⟨rfl, by first | exact B3.out | exact pw_below_drewN B3.out _ | exact B3.out.drew⟩
set_option maxRecDepth 100000 in
set_option maxHeartbeats 4000000 in
theorem rr_7_r (f1 : Int) (f2 f6 : ByteArray) (W : World) (z2 : f2.size ≤ 140737488351232) (z6 : f6.size ≤ 140737488351232) (h1 : 1 ≤ f1 ∧ f1 ≤ 1099511627776) (n2 : nameL f2.data.toList 0 = true) (m6a : f6.toList.isEmpty = false) (m6b : ¬ f6.toList = []) (m6c : (f6.toList == []) = false) :
    Calls Tryd.prog 36 #[.agg #[.int .i64 7, .int .i64 f1, .string f2, .string ⟨#[]⟩, .int .i64 0, .int .i64 0, .string f6]] W (RtIs false W) := by
  have B0 : Aside0 (Below W.heap.size W (W.alloc (.cells #[.int .i64 7, .int .i64 f1, .string f2, .string ⟨#[]⟩, .int .i64 0, .int .i64 0, .string f6] 54))) := ⟨(Below.refl _ _).alloc (Nat.le_refl _) _⟩
  have K0 := Aside0.mk (blk_new W (.cells #[.int .i64 7, .int .i64 f1, .string f2, .string ⟨#[]⟩, .int .i64 0, .int .i64 0, .string f6] 54))
  have HC0 : Aside0 (∀ X, Calls Tryd.prog 74 #[.int .i64 7, .int .i64 1, .int .i64 7] X fun e w' => e = .returned (.bool true) ∧ Drawn0 X w') := ⟨fun X => post_within.calls _ _ _ _ X (by rw [within_f, decide_eq_true (by omega)])⟩
  have HC1 : Aside0 (∀ X, Calls Tryd.prog 74 #[.int .i64 f1, .int .i64 1, .int .i64 1099511627776] X fun e w' => e = .returned (.bool true) ∧ Drawn0 X w') := ⟨fun X => post_within.calls _ _ _ _ X (by rw [within_f, decide_eq_true (by omega)])⟩
  have HC2 : Aside0 (∀ X, Calls Tryd.prog 54 #[.string f2] X fun e w' => e = .returned (.bool true) ∧ Below X.heap.size X w') := ⟨fun X => by have h := roster_Valid_walk f2 X (by omega); rw [n2] at h; exact h⟩
  clear h1 n2 z2 z6
  go_enter Tryd.func36, Tryd.ntmps36
  go_wp2_with (first
    | (go_at_call 74; ((with_reducible refine (HC0.out _).mono ?_)); rintro en x1 ⟨rfl, hd⟩; (try clear hc); have hk := hd.below; have B1 := Aside0.mk (B0.out.trans (hk.mono B0.out.size)); have K1 := Aside0.mk (blk_below K0.out hk); have hc := fun i => blk_cell K1.out i; clear hd hk)
    | (go_at_call 74; ((with_reducible refine (HC1.out _).mono ?_)); rintro en x2 ⟨rfl, hd⟩; (try clear hc); have hk : Below x1.heap.size x1 x2 := ⟨hd.below.os, hd.below.tape, hd.below.output, hd.below.size, hd.below.block⟩; have B2 := Aside0.mk (B1.out.trans (hk.mono B1.out.size)); have K2 := Aside0.mk (blk_below K1.out hk); have hc := fun i => blk_cell K2.out i; clear hd hk)
    | (go_at_call 54; ((with_reducible refine (HC2.out _).mono ?_)); rintro en x3 ⟨rfl, hd⟩; (try clear hc); have hk : Below x2.heap.size x2 x3 := ⟨hd.os, hd.tape, hd.output, hd.size, hd.block⟩; have B3 := Aside0.mk (B2.out.trans (hk.mono B2.out.size)); have K3 := Aside0.mk (blk_below K2.out hk); have hc := fun i => blk_cell K3.out i; clear hd hk))
  (try (go_quiet (fail); go_wp2_with (first | (go_at_call 74; ((with_reducible refine (HC0.out _).mono ?_)); rintro en x1 ⟨rfl, hd⟩; (try clear hc); have hk := hd.below; have B1 := Aside0.mk (B0.out.trans (hk.mono B0.out.size)); have K1 := Aside0.mk (blk_below K0.out hk); have hc := fun i => blk_cell K1.out i; clear hd hk) | (go_at_call 74; ((with_reducible refine (HC1.out _).mono ?_)); rintro en x2 ⟨rfl, hd⟩; (try clear hc); have hk : Below x1.heap.size x1 x2 := ⟨hd.below.os, hd.below.tape, hd.below.output, hd.below.size, hd.below.block⟩; have B2 := Aside0.mk (B1.out.trans (hk.mono B1.out.size)); have K2 := Aside0.mk (blk_below K1.out hk); have hc := fun i => blk_cell K2.out i; clear hd hk) | (go_at_call 54; ((with_reducible refine (HC2.out _).mono ?_)); rintro en x3 ⟨rfl, hd⟩; (try clear hc); have hk : Below x2.heap.size x2 x3 := ⟨hd.os, hd.tape, hd.output, hd.size, hd.block⟩; have B3 := Aside0.mk (B2.out.trans (hk.mono B2.out.size)); have K3 := Aside0.mk (blk_below K2.out hk); have hc := fun i => blk_cell K3.out i; clear hd hk))))
  go_ret
  exact ⟨rfl, by first | exact B3.out | exact pw_below_drewN B3.out _ | exact B3.out.drew⟩
set_option maxRecDepth 100000 in
set_option maxHeartbeats 4000000 in
theorem rr_7_t (f1 : Int) (f2 : ByteArray) (W : World) (z2 : f2.size ≤ 140737488351232) (h1 : 1 ≤ f1 ∧ f1 ≤ 1099511627776) (n2 : nameL f2.data.toList 0 = true) :
    Calls Tryd.prog 36 #[.agg #[.int .i64 7, .int .i64 f1, .string f2, .string ⟨#[]⟩, .int .i64 0, .int .i64 0, .string ⟨#[]⟩]] W (RtIs true W) := by
  have B0 : Aside0 (Below W.heap.size W (W.alloc (.cells #[.int .i64 7, .int .i64 f1, .string f2, .string ⟨#[]⟩, .int .i64 0, .int .i64 0, .string ⟨#[]⟩] 54))) := ⟨(Below.refl _ _).alloc (Nat.le_refl _) _⟩
  have K0 := Aside0.mk (blk_new W (.cells #[.int .i64 7, .int .i64 f1, .string f2, .string ⟨#[]⟩, .int .i64 0, .int .i64 0, .string ⟨#[]⟩] 54))
  have HC0 : Aside0 (∀ X, Calls Tryd.prog 74 #[.int .i64 7, .int .i64 1, .int .i64 7] X fun e w' => e = .returned (.bool true) ∧ Drawn0 X w') := ⟨fun X => post_within.calls _ _ _ _ X (by rw [within_f, decide_eq_true (by omega)])⟩
  have HC1 : Aside0 (∀ X, Calls Tryd.prog 74 #[.int .i64 f1, .int .i64 1, .int .i64 1099511627776] X fun e w' => e = .returned (.bool true) ∧ Drawn0 X w') := ⟨fun X => post_within.calls _ _ _ _ X (by rw [within_f, decide_eq_true (by omega)])⟩
  have HC2 : Aside0 (∀ X, Calls Tryd.prog 54 #[.string f2] X fun e w' => e = .returned (.bool true) ∧ Below X.heap.size X w') := ⟨fun X => by have h := roster_Valid_walk f2 X (by omega); rw [n2] at h; exact h⟩
  clear h1 n2 z2
  go_enter Tryd.func36, Tryd.ntmps36
  go_wp2_with (first
    | (go_at_call 74; ((with_reducible refine (HC0.out _).mono ?_)); rintro en x1 ⟨rfl, hd⟩; (try clear hc); have hk := hd.below; have B1 := Aside0.mk (B0.out.trans (hk.mono B0.out.size)); have K1 := Aside0.mk (blk_below K0.out hk); have hc := fun i => blk_cell K1.out i; clear hd hk)
    | (go_at_call 74; ((with_reducible refine (HC1.out _).mono ?_)); rintro en x2 ⟨rfl, hd⟩; (try clear hc); have hk : Below x1.heap.size x1 x2 := ⟨hd.below.os, hd.below.tape, hd.below.output, hd.below.size, hd.below.block⟩; have B2 := Aside0.mk (B1.out.trans (hk.mono B1.out.size)); have K2 := Aside0.mk (blk_below K1.out hk); have hc := fun i => blk_cell K2.out i; clear hd hk)
    | (go_at_call 54; ((with_reducible refine (HC2.out _).mono ?_)); rintro en x3 ⟨rfl, hd⟩; (try clear hc); have hk : Below x2.heap.size x2 x3 := ⟨hd.os, hd.tape, hd.output, hd.size, hd.block⟩; have B3 := Aside0.mk (B2.out.trans (hk.mono B2.out.size)); have K3 := Aside0.mk (blk_below K2.out hk); have hc := fun i => blk_cell K3.out i; clear hd hk))
  (try (go_quiet (fail); go_wp2_with (first | (go_at_call 74; ((with_reducible refine (HC0.out _).mono ?_)); rintro en x1 ⟨rfl, hd⟩; (try clear hc); have hk := hd.below; have B1 := Aside0.mk (B0.out.trans (hk.mono B0.out.size)); have K1 := Aside0.mk (blk_below K0.out hk); have hc := fun i => blk_cell K1.out i; clear hd hk) | (go_at_call 74; ((with_reducible refine (HC1.out _).mono ?_)); rintro en x2 ⟨rfl, hd⟩; (try clear hc); have hk : Below x1.heap.size x1 x2 := ⟨hd.below.os, hd.below.tape, hd.below.output, hd.below.size, hd.below.block⟩; have B2 := Aside0.mk (B1.out.trans (hk.mono B1.out.size)); have K2 := Aside0.mk (blk_below K1.out hk); have hc := fun i => blk_cell K2.out i; clear hd hk) | (go_at_call 54; ((with_reducible refine (HC2.out _).mono ?_)); rintro en x3 ⟨rfl, hd⟩; (try clear hc); have hk : Below x2.heap.size x2 x3 := ⟨hd.os, hd.tape, hd.output, hd.size, hd.block⟩; have B3 := Aside0.mk (B2.out.trans (hk.mono B2.out.size)); have K3 := Aside0.mk (blk_below K2.out hk); have hc := fun i => blk_cell K3.out i; clear hd hk))))
  go_ret
  exact ⟨rfl, by first | exact B3.out | exact pw_below_drewN B3.out _ | exact B3.out.drew⟩
set_option maxRecDepth 100000 in
set_option maxHeartbeats 4000000 in
theorem rr_5_x (f1 f4 f5 : Int) (f2 f3 f6 : ByteArray) (W : World) (z2 : f2.size ≤ 140737488351232) (z3 : f3.size ≤ 140737488351232) (z6 : f6.size ≤ 140737488351232) (h1 : 1 ≤ f1 ∧ f1 ≤ 1099511627776) (n2 : nameL f2.data.toList 0 = true) (n3 : nameL f3.data.toList 0 = false) :
    Calls Tryd.prog 36 #[.agg #[.int .i64 5, .int .i64 f1, .string f2, .string f3, .int .i64 f4, .int .i64 f5, .string f6]] W (RtIs false W) := by
  have B0 : Aside0 (Below W.heap.size W (W.alloc (.cells #[.int .i64 5, .int .i64 f1, .string f2, .string f3, .int .i64 f4, .int .i64 f5, .string f6] 54))) := ⟨(Below.refl _ _).alloc (Nat.le_refl _) _⟩
  have K0 := Aside0.mk (blk_new W (.cells #[.int .i64 5, .int .i64 f1, .string f2, .string f3, .int .i64 f4, .int .i64 f5, .string f6] 54))
  have HC0 : Aside0 (∀ X, Calls Tryd.prog 74 #[.int .i64 5, .int .i64 1, .int .i64 7] X fun e w' => e = .returned (.bool true) ∧ Drawn0 X w') := ⟨fun X => post_within.calls _ _ _ _ X (by rw [within_f, decide_eq_true (by omega)])⟩
  have HC1 : Aside0 (∀ X, Calls Tryd.prog 74 #[.int .i64 f1, .int .i64 1, .int .i64 1099511627776] X fun e w' => e = .returned (.bool true) ∧ Drawn0 X w') := ⟨fun X => post_within.calls _ _ _ _ X (by rw [within_f, decide_eq_true (by omega)])⟩
  have HC2 : Aside0 (∀ X, Calls Tryd.prog 54 #[.string f2] X fun e w' => e = .returned (.bool true) ∧ Below X.heap.size X w') := ⟨fun X => by have h := roster_Valid_walk f2 X (by omega); rw [n2] at h; exact h⟩
  have HC3 : Aside0 (∀ X, Calls Tryd.prog 54 #[.string f3] X fun e w' => e = .returned (.bool false) ∧ Below X.heap.size X w') := ⟨fun X => by have h := roster_Valid_walk f3 X (by omega); rw [n3] at h; exact h⟩
  clear h1 n2 n3 z2 z3 z6
  go_enter Tryd.func36, Tryd.ntmps36
  go_wp2_with (first
    | (go_at_call 74; ((with_reducible refine (HC0.out _).mono ?_)); rintro en x1 ⟨rfl, hd⟩; (try clear hc); have hk := hd.below; have B1 := Aside0.mk (B0.out.trans (hk.mono B0.out.size)); have K1 := Aside0.mk (blk_below K0.out hk); have hc := fun i => blk_cell K1.out i; clear hd hk)
    | (go_at_call 74; ((with_reducible refine (HC1.out _).mono ?_)); rintro en x2 ⟨rfl, hd⟩; (try clear hc); have hk : Below x1.heap.size x1 x2 := ⟨hd.below.os, hd.below.tape, hd.below.output, hd.below.size, hd.below.block⟩; have B2 := Aside0.mk (B1.out.trans (hk.mono B1.out.size)); have K2 := Aside0.mk (blk_below K1.out hk); have hc := fun i => blk_cell K2.out i; clear hd hk)
    | (go_at_call 54; ((with_reducible refine (HC2.out _).mono ?_)); rintro en x3 ⟨rfl, hd⟩; (try clear hc); have hk : Below x2.heap.size x2 x3 := ⟨hd.os, hd.tape, hd.output, hd.size, hd.block⟩; have B3 := Aside0.mk (B2.out.trans (hk.mono B2.out.size)); have K3 := Aside0.mk (blk_below K2.out hk); have hc := fun i => blk_cell K3.out i; clear hd hk)
    | (go_at_call 54; ((with_reducible refine (HC3.out _).mono ?_)); rintro en x4 ⟨rfl, hd⟩; (try clear hc); have hk : Below x3.heap.size x3 x4 := ⟨hd.os, hd.tape, hd.output, hd.size, hd.block⟩; have B4 := Aside0.mk (B3.out.trans (hk.mono B3.out.size)); have K4 := Aside0.mk (blk_below K3.out hk); have hc := fun i => blk_cell K4.out i; clear hd hk))
  (try (go_quiet (fail); go_wp2_with (first | (go_at_call 74; ((with_reducible refine (HC0.out _).mono ?_)); rintro en x1 ⟨rfl, hd⟩; (try clear hc); have hk := hd.below; have B1 := Aside0.mk (B0.out.trans (hk.mono B0.out.size)); have K1 := Aside0.mk (blk_below K0.out hk); have hc := fun i => blk_cell K1.out i; clear hd hk) | (go_at_call 74; ((with_reducible refine (HC1.out _).mono ?_)); rintro en x2 ⟨rfl, hd⟩; (try clear hc); have hk : Below x1.heap.size x1 x2 := ⟨hd.below.os, hd.below.tape, hd.below.output, hd.below.size, hd.below.block⟩; have B2 := Aside0.mk (B1.out.trans (hk.mono B1.out.size)); have K2 := Aside0.mk (blk_below K1.out hk); have hc := fun i => blk_cell K2.out i; clear hd hk) | (go_at_call 54; ((with_reducible refine (HC2.out _).mono ?_)); rintro en x3 ⟨rfl, hd⟩; (try clear hc); have hk : Below x2.heap.size x2 x3 := ⟨hd.os, hd.tape, hd.output, hd.size, hd.block⟩; have B3 := Aside0.mk (B2.out.trans (hk.mono B2.out.size)); have K3 := Aside0.mk (blk_below K2.out hk); have hc := fun i => blk_cell K3.out i; clear hd hk) | (go_at_call 54; ((with_reducible refine (HC3.out _).mono ?_)); rintro en x4 ⟨rfl, hd⟩; (try clear hc); have hk : Below x3.heap.size x3 x4 := ⟨hd.os, hd.tape, hd.output, hd.size, hd.block⟩; have B4 := Aside0.mk (B3.out.trans (hk.mono B3.out.size)); have K4 := Aside0.mk (blk_below K3.out hk); have hc := fun i => blk_cell K4.out i; clear hd hk))))
  go_ret
  exact ⟨rfl, by first | exact B4.out | exact pw_below_drewN B4.out _ | exact B4.out.drew⟩
set_option maxRecDepth 100000 in
set_option maxHeartbeats 4000000 in
theorem rr_5_4 (f1 f4 f5 : Int) (f2 f3 f6 : ByteArray) (W : World) (z2 : f2.size ≤ 140737488351232) (z3 : f3.size ≤ 140737488351232) (z6 : f6.size ≤ 140737488351232) (h1 : 1 ≤ f1 ∧ f1 ≤ 1099511627776) (n2 : nameL f2.data.toList 0 = true) (n3 : nameL f3.data.toList 0 = true) (h4 : ¬ (1 ≤ f4 ∧ f4 ≤ 1099511627776)) :
    Calls Tryd.prog 36 #[.agg #[.int .i64 5, .int .i64 f1, .string f2, .string f3, .int .i64 f4, .int .i64 f5, .string f6]] W (RtIs false W) := by
  have B0 : Aside0 (Below W.heap.size W (W.alloc (.cells #[.int .i64 5, .int .i64 f1, .string f2, .string f3, .int .i64 f4, .int .i64 f5, .string f6] 54))) := ⟨(Below.refl _ _).alloc (Nat.le_refl _) _⟩
  have K0 := Aside0.mk (blk_new W (.cells #[.int .i64 5, .int .i64 f1, .string f2, .string f3, .int .i64 f4, .int .i64 f5, .string f6] 54))
  have HC0 : Aside0 (∀ X, Calls Tryd.prog 74 #[.int .i64 5, .int .i64 1, .int .i64 7] X fun e w' => e = .returned (.bool true) ∧ Drawn0 X w') := ⟨fun X => post_within.calls _ _ _ _ X (by rw [within_f, decide_eq_true (by omega)])⟩
  have HC1 : Aside0 (∀ X, Calls Tryd.prog 74 #[.int .i64 f1, .int .i64 1, .int .i64 1099511627776] X fun e w' => e = .returned (.bool true) ∧ Drawn0 X w') := ⟨fun X => post_within.calls _ _ _ _ X (by rw [within_f, decide_eq_true (by omega)])⟩
  have HC2 : Aside0 (∀ X, Calls Tryd.prog 54 #[.string f2] X fun e w' => e = .returned (.bool true) ∧ Below X.heap.size X w') := ⟨fun X => by have h := roster_Valid_walk f2 X (by omega); rw [n2] at h; exact h⟩
  have HC3 : Aside0 (∀ X, Calls Tryd.prog 54 #[.string f3] X fun e w' => e = .returned (.bool true) ∧ Below X.heap.size X w') := ⟨fun X => by have h := roster_Valid_walk f3 X (by omega); rw [n3] at h; exact h⟩
  have HC4 : Aside0 (∀ X, Calls Tryd.prog 74 #[.int .i64 f4, .int .i64 1, .int .i64 1099511627776] X fun e w' => e = .returned (.bool false) ∧ Drawn0 X w') := ⟨fun X => post_within.calls _ _ _ _ X (by rw [within_f, decide_eq_false (by omega)])⟩
  clear h1 n2 n3 h4 z2 z3 z6
  go_enter Tryd.func36, Tryd.ntmps36
  go_wp2_with (first
    | (go_at_call 74; ((with_reducible refine (HC0.out _).mono ?_)); rintro en x1 ⟨rfl, hd⟩; (try clear hc); have hk := hd.below; have B1 := Aside0.mk (B0.out.trans (hk.mono B0.out.size)); have K1 := Aside0.mk (blk_below K0.out hk); have hc := fun i => blk_cell K1.out i; clear hd hk)
    | (go_at_call 74; ((with_reducible refine (HC1.out _).mono ?_)); rintro en x2 ⟨rfl, hd⟩; (try clear hc); have hk : Below x1.heap.size x1 x2 := ⟨hd.below.os, hd.below.tape, hd.below.output, hd.below.size, hd.below.block⟩; have B2 := Aside0.mk (B1.out.trans (hk.mono B1.out.size)); have K2 := Aside0.mk (blk_below K1.out hk); have hc := fun i => blk_cell K2.out i; clear hd hk)
    | (go_at_call 54; ((with_reducible refine (HC2.out _).mono ?_)); rintro en x3 ⟨rfl, hd⟩; (try clear hc); have hk : Below x2.heap.size x2 x3 := ⟨hd.os, hd.tape, hd.output, hd.size, hd.block⟩; have B3 := Aside0.mk (B2.out.trans (hk.mono B2.out.size)); have K3 := Aside0.mk (blk_below K2.out hk); have hc := fun i => blk_cell K3.out i; clear hd hk)
    | (go_at_call 54; ((with_reducible refine (HC3.out _).mono ?_)); rintro en x4 ⟨rfl, hd⟩; (try clear hc); have hk : Below x3.heap.size x3 x4 := ⟨hd.os, hd.tape, hd.output, hd.size, hd.block⟩; have B4 := Aside0.mk (B3.out.trans (hk.mono B3.out.size)); have K4 := Aside0.mk (blk_below K3.out hk); have hc := fun i => blk_cell K4.out i; clear hd hk)
    | (go_at_call 74; ((with_reducible refine (HC4.out _).mono ?_)); rintro en x5 ⟨rfl, hd⟩; (try clear hc); have hk : Below x4.heap.size x4 x5 := ⟨hd.below.os, hd.below.tape, hd.below.output, hd.below.size, hd.below.block⟩; have B5 := Aside0.mk (B4.out.trans (hk.mono B4.out.size)); have K5 := Aside0.mk (blk_below K4.out hk); have hc := fun i => blk_cell K5.out i; clear hd hk))
  (try (go_quiet (fail); go_wp2_with (first | (go_at_call 74; ((with_reducible refine (HC0.out _).mono ?_)); rintro en x1 ⟨rfl, hd⟩; (try clear hc); have hk := hd.below; have B1 := Aside0.mk (B0.out.trans (hk.mono B0.out.size)); have K1 := Aside0.mk (blk_below K0.out hk); have hc := fun i => blk_cell K1.out i; clear hd hk) | (go_at_call 74; ((with_reducible refine (HC1.out _).mono ?_)); rintro en x2 ⟨rfl, hd⟩; (try clear hc); have hk : Below x1.heap.size x1 x2 := ⟨hd.below.os, hd.below.tape, hd.below.output, hd.below.size, hd.below.block⟩; have B2 := Aside0.mk (B1.out.trans (hk.mono B1.out.size)); have K2 := Aside0.mk (blk_below K1.out hk); have hc := fun i => blk_cell K2.out i; clear hd hk) | (go_at_call 54; ((with_reducible refine (HC2.out _).mono ?_)); rintro en x3 ⟨rfl, hd⟩; (try clear hc); have hk : Below x2.heap.size x2 x3 := ⟨hd.os, hd.tape, hd.output, hd.size, hd.block⟩; have B3 := Aside0.mk (B2.out.trans (hk.mono B2.out.size)); have K3 := Aside0.mk (blk_below K2.out hk); have hc := fun i => blk_cell K3.out i; clear hd hk) | (go_at_call 54; ((with_reducible refine (HC3.out _).mono ?_)); rintro en x4 ⟨rfl, hd⟩; (try clear hc); have hk : Below x3.heap.size x3 x4 := ⟨hd.os, hd.tape, hd.output, hd.size, hd.block⟩; have B4 := Aside0.mk (B3.out.trans (hk.mono B3.out.size)); have K4 := Aside0.mk (blk_below K3.out hk); have hc := fun i => blk_cell K4.out i; clear hd hk) | (go_at_call 74; ((with_reducible refine (HC4.out _).mono ?_)); rintro en x5 ⟨rfl, hd⟩; (try clear hc); have hk : Below x4.heap.size x4 x5 := ⟨hd.below.os, hd.below.tape, hd.below.output, hd.below.size, hd.below.block⟩; have B5 := Aside0.mk (B4.out.trans (hk.mono B4.out.size)); have K5 := Aside0.mk (blk_below K4.out hk); have hc := fun i => blk_cell K5.out i; clear hd hk))))
  go_ret
  exact ⟨rfl, by first | exact B5.out | exact pw_below_drewN B5.out _ | exact B5.out.drew⟩
set_option maxRecDepth 100000 in
set_option maxHeartbeats 4000000 in
theorem rr_5_5 (f1 f4 f5 : Int) (f2 f3 f6 : ByteArray) (W : World) (z2 : f2.size ≤ 140737488351232) (z3 : f3.size ≤ 140737488351232) (z6 : f6.size ≤ 140737488351232) (h1 : 1 ≤ f1 ∧ f1 ≤ 1099511627776) (n2 : nameL f2.data.toList 0 = true) (n3 : nameL f3.data.toList 0 = true) (h4 : 1 ≤ f4 ∧ f4 ≤ 1099511627776) (h5 : ¬ (1 ≤ f5 ∧ f5 ≤ 1099511627776)) :
    Calls Tryd.prog 36 #[.agg #[.int .i64 5, .int .i64 f1, .string f2, .string f3, .int .i64 f4, .int .i64 f5, .string f6]] W (RtIs false W) := by
  have B0 : Aside0 (Below W.heap.size W (W.alloc (.cells #[.int .i64 5, .int .i64 f1, .string f2, .string f3, .int .i64 f4, .int .i64 f5, .string f6] 54))) := ⟨(Below.refl _ _).alloc (Nat.le_refl _) _⟩
  have K0 := Aside0.mk (blk_new W (.cells #[.int .i64 5, .int .i64 f1, .string f2, .string f3, .int .i64 f4, .int .i64 f5, .string f6] 54))
  have HC0 : Aside0 (∀ X, Calls Tryd.prog 74 #[.int .i64 5, .int .i64 1, .int .i64 7] X fun e w' => e = .returned (.bool true) ∧ Drawn0 X w') := ⟨fun X => post_within.calls _ _ _ _ X (by rw [within_f, decide_eq_true (by omega)])⟩
  have HC1 : Aside0 (∀ X, Calls Tryd.prog 74 #[.int .i64 f1, .int .i64 1, .int .i64 1099511627776] X fun e w' => e = .returned (.bool true) ∧ Drawn0 X w') := ⟨fun X => post_within.calls _ _ _ _ X (by rw [within_f, decide_eq_true (by omega)])⟩
  have HC2 : Aside0 (∀ X, Calls Tryd.prog 54 #[.string f2] X fun e w' => e = .returned (.bool true) ∧ Below X.heap.size X w') := ⟨fun X => by have h := roster_Valid_walk f2 X (by omega); rw [n2] at h; exact h⟩
  have HC3 : Aside0 (∀ X, Calls Tryd.prog 54 #[.string f3] X fun e w' => e = .returned (.bool true) ∧ Below X.heap.size X w') := ⟨fun X => by have h := roster_Valid_walk f3 X (by omega); rw [n3] at h; exact h⟩
  have HC4 : Aside0 (∀ X, Calls Tryd.prog 74 #[.int .i64 f4, .int .i64 1, .int .i64 1099511627776] X fun e w' => e = .returned (.bool true) ∧ Drawn0 X w') := ⟨fun X => post_within.calls _ _ _ _ X (by rw [within_f, decide_eq_true (by omega)])⟩
  have HC5 : Aside0 (∀ X, Calls Tryd.prog 74 #[.int .i64 f5, .int .i64 1, .int .i64 1099511627776] X fun e w' => e = .returned (.bool false) ∧ Drawn0 X w') := ⟨fun X => post_within.calls _ _ _ _ X (by rw [within_f, decide_eq_false (by omega)])⟩
  clear h1 n2 n3 h4 h5 z2 z3 z6
  go_enter Tryd.func36, Tryd.ntmps36
  go_wp2_with (first
    | (go_at_call 74; ((with_reducible refine (HC0.out _).mono ?_)); rintro en x1 ⟨rfl, hd⟩; (try clear hc); have hk := hd.below; have B1 := Aside0.mk (B0.out.trans (hk.mono B0.out.size)); have K1 := Aside0.mk (blk_below K0.out hk); have hc := fun i => blk_cell K1.out i; clear hd hk)
    | (go_at_call 74; ((with_reducible refine (HC1.out _).mono ?_)); rintro en x2 ⟨rfl, hd⟩; (try clear hc); have hk : Below x1.heap.size x1 x2 := ⟨hd.below.os, hd.below.tape, hd.below.output, hd.below.size, hd.below.block⟩; have B2 := Aside0.mk (B1.out.trans (hk.mono B1.out.size)); have K2 := Aside0.mk (blk_below K1.out hk); have hc := fun i => blk_cell K2.out i; clear hd hk)
    | (go_at_call 54; ((with_reducible refine (HC2.out _).mono ?_)); rintro en x3 ⟨rfl, hd⟩; (try clear hc); have hk : Below x2.heap.size x2 x3 := ⟨hd.os, hd.tape, hd.output, hd.size, hd.block⟩; have B3 := Aside0.mk (B2.out.trans (hk.mono B2.out.size)); have K3 := Aside0.mk (blk_below K2.out hk); have hc := fun i => blk_cell K3.out i; clear hd hk)
    | (go_at_call 54; ((with_reducible refine (HC3.out _).mono ?_)); rintro en x4 ⟨rfl, hd⟩; (try clear hc); have hk : Below x3.heap.size x3 x4 := ⟨hd.os, hd.tape, hd.output, hd.size, hd.block⟩; have B4 := Aside0.mk (B3.out.trans (hk.mono B3.out.size)); have K4 := Aside0.mk (blk_below K3.out hk); have hc := fun i => blk_cell K4.out i; clear hd hk)
    | (go_at_call 74; ((with_reducible refine (HC4.out _).mono ?_)); rintro en x5 ⟨rfl, hd⟩; (try clear hc); have hk : Below x4.heap.size x4 x5 := ⟨hd.below.os, hd.below.tape, hd.below.output, hd.below.size, hd.below.block⟩; have B5 := Aside0.mk (B4.out.trans (hk.mono B4.out.size)); have K5 := Aside0.mk (blk_below K4.out hk); have hc := fun i => blk_cell K5.out i; clear hd hk)
    | (go_at_call 74; ((with_reducible refine (HC5.out _).mono ?_)); rintro en x6 ⟨rfl, hd⟩; (try clear hc); have hk : Below x5.heap.size x5 x6 := ⟨hd.below.os, hd.below.tape, hd.below.output, hd.below.size, hd.below.block⟩; have B6 := Aside0.mk (B5.out.trans (hk.mono B5.out.size)); have K6 := Aside0.mk (blk_below K5.out hk); have hc := fun i => blk_cell K6.out i; clear hd hk))
  (try (go_quiet (fail); go_wp2_with (first | (go_at_call 74; ((with_reducible refine (HC0.out _).mono ?_)); rintro en x1 ⟨rfl, hd⟩; (try clear hc); have hk := hd.below; have B1 := Aside0.mk (B0.out.trans (hk.mono B0.out.size)); have K1 := Aside0.mk (blk_below K0.out hk); have hc := fun i => blk_cell K1.out i; clear hd hk) | (go_at_call 74; ((with_reducible refine (HC1.out _).mono ?_)); rintro en x2 ⟨rfl, hd⟩; (try clear hc); have hk : Below x1.heap.size x1 x2 := ⟨hd.below.os, hd.below.tape, hd.below.output, hd.below.size, hd.below.block⟩; have B2 := Aside0.mk (B1.out.trans (hk.mono B1.out.size)); have K2 := Aside0.mk (blk_below K1.out hk); have hc := fun i => blk_cell K2.out i; clear hd hk) | (go_at_call 54; ((with_reducible refine (HC2.out _).mono ?_)); rintro en x3 ⟨rfl, hd⟩; (try clear hc); have hk : Below x2.heap.size x2 x3 := ⟨hd.os, hd.tape, hd.output, hd.size, hd.block⟩; have B3 := Aside0.mk (B2.out.trans (hk.mono B2.out.size)); have K3 := Aside0.mk (blk_below K2.out hk); have hc := fun i => blk_cell K3.out i; clear hd hk) | (go_at_call 54; ((with_reducible refine (HC3.out _).mono ?_)); rintro en x4 ⟨rfl, hd⟩; (try clear hc); have hk : Below x3.heap.size x3 x4 := ⟨hd.os, hd.tape, hd.output, hd.size, hd.block⟩; have B4 := Aside0.mk (B3.out.trans (hk.mono B3.out.size)); have K4 := Aside0.mk (blk_below K3.out hk); have hc := fun i => blk_cell K4.out i; clear hd hk) | (go_at_call 74; ((with_reducible refine (HC4.out _).mono ?_)); rintro en x5 ⟨rfl, hd⟩; (try clear hc); have hk : Below x4.heap.size x4 x5 := ⟨hd.below.os, hd.below.tape, hd.below.output, hd.below.size, hd.below.block⟩; have B5 := Aside0.mk (B4.out.trans (hk.mono B4.out.size)); have K5 := Aside0.mk (blk_below K4.out hk); have hc := fun i => blk_cell K5.out i; clear hd hk) | (go_at_call 74; ((with_reducible refine (HC5.out _).mono ?_)); rintro en x6 ⟨rfl, hd⟩; (try clear hc); have hk : Below x5.heap.size x5 x6 := ⟨hd.below.os, hd.below.tape, hd.below.output, hd.below.size, hd.below.block⟩; have B6 := Aside0.mk (B5.out.trans (hk.mono B5.out.size)); have K6 := Aside0.mk (blk_below K5.out hk); have hc := fun i => blk_cell K6.out i; clear hd hk))))
  go_ret
  exact ⟨rfl, by first | exact B6.out | exact pw_below_drewN B6.out _ | exact B6.out.drew⟩
set_option maxRecDepth 100000 in
set_option maxHeartbeats 4000000 in
theorem rr_5_r (f1 f4 f5 : Int) (f2 f3 f6 : ByteArray) (W : World) (z2 : f2.size ≤ 140737488351232) (z3 : f3.size ≤ 140737488351232) (z6 : f6.size ≤ 140737488351232) (h1 : 1 ≤ f1 ∧ f1 ≤ 1099511627776) (n2 : nameL f2.data.toList 0 = true) (n3 : nameL f3.data.toList 0 = true) (h4 : 1 ≤ f4 ∧ f4 ≤ 1099511627776) (h5 : 1 ≤ f5 ∧ f5 ≤ 1099511627776) (m6a : f6.toList.isEmpty = false) (m6b : ¬ f6.toList = []) (m6c : (f6.toList == []) = false) :
    Calls Tryd.prog 36 #[.agg #[.int .i64 5, .int .i64 f1, .string f2, .string f3, .int .i64 f4, .int .i64 f5, .string f6]] W (RtIs false W) := by
  have B0 : Aside0 (Below W.heap.size W (W.alloc (.cells #[.int .i64 5, .int .i64 f1, .string f2, .string f3, .int .i64 f4, .int .i64 f5, .string f6] 54))) := ⟨(Below.refl _ _).alloc (Nat.le_refl _) _⟩
  have K0 := Aside0.mk (blk_new W (.cells #[.int .i64 5, .int .i64 f1, .string f2, .string f3, .int .i64 f4, .int .i64 f5, .string f6] 54))
  have HC0 : Aside0 (∀ X, Calls Tryd.prog 74 #[.int .i64 5, .int .i64 1, .int .i64 7] X fun e w' => e = .returned (.bool true) ∧ Drawn0 X w') := ⟨fun X => post_within.calls _ _ _ _ X (by rw [within_f, decide_eq_true (by omega)])⟩
  have HC1 : Aside0 (∀ X, Calls Tryd.prog 74 #[.int .i64 f1, .int .i64 1, .int .i64 1099511627776] X fun e w' => e = .returned (.bool true) ∧ Drawn0 X w') := ⟨fun X => post_within.calls _ _ _ _ X (by rw [within_f, decide_eq_true (by omega)])⟩
  have HC2 : Aside0 (∀ X, Calls Tryd.prog 54 #[.string f2] X fun e w' => e = .returned (.bool true) ∧ Below X.heap.size X w') := ⟨fun X => by have h := roster_Valid_walk f2 X (by omega); rw [n2] at h; exact h⟩
  have HC3 : Aside0 (∀ X, Calls Tryd.prog 54 #[.string f3] X fun e w' => e = .returned (.bool true) ∧ Below X.heap.size X w') := ⟨fun X => by have h := roster_Valid_walk f3 X (by omega); rw [n3] at h; exact h⟩
  have HC4 : Aside0 (∀ X, Calls Tryd.prog 74 #[.int .i64 f4, .int .i64 1, .int .i64 1099511627776] X fun e w' => e = .returned (.bool true) ∧ Drawn0 X w') := ⟨fun X => post_within.calls _ _ _ _ X (by rw [within_f, decide_eq_true (by omega)])⟩
  have HC5 : Aside0 (∀ X, Calls Tryd.prog 74 #[.int .i64 f5, .int .i64 1, .int .i64 1099511627776] X fun e w' => e = .returned (.bool true) ∧ Drawn0 X w') := ⟨fun X => post_within.calls _ _ _ _ X (by rw [within_f, decide_eq_true (by omega)])⟩
  clear h1 n2 n3 h4 h5 z2 z3 z6
  go_enter Tryd.func36, Tryd.ntmps36
  go_wp2_with (first
    | (go_at_call 74; ((with_reducible refine (HC0.out _).mono ?_)); rintro en x1 ⟨rfl, hd⟩; (try clear hc); have hk := hd.below; have B1 := Aside0.mk (B0.out.trans (hk.mono B0.out.size)); have K1 := Aside0.mk (blk_below K0.out hk); have hc := fun i => blk_cell K1.out i; clear hd hk)
    | (go_at_call 74; ((with_reducible refine (HC1.out _).mono ?_)); rintro en x2 ⟨rfl, hd⟩; (try clear hc); have hk : Below x1.heap.size x1 x2 := ⟨hd.below.os, hd.below.tape, hd.below.output, hd.below.size, hd.below.block⟩; have B2 := Aside0.mk (B1.out.trans (hk.mono B1.out.size)); have K2 := Aside0.mk (blk_below K1.out hk); have hc := fun i => blk_cell K2.out i; clear hd hk)
    | (go_at_call 54; ((with_reducible refine (HC2.out _).mono ?_)); rintro en x3 ⟨rfl, hd⟩; (try clear hc); have hk : Below x2.heap.size x2 x3 := ⟨hd.os, hd.tape, hd.output, hd.size, hd.block⟩; have B3 := Aside0.mk (B2.out.trans (hk.mono B2.out.size)); have K3 := Aside0.mk (blk_below K2.out hk); have hc := fun i => blk_cell K3.out i; clear hd hk)
    | (go_at_call 54; ((with_reducible refine (HC3.out _).mono ?_)); rintro en x4 ⟨rfl, hd⟩; (try clear hc); have hk : Below x3.heap.size x3 x4 := ⟨hd.os, hd.tape, hd.output, hd.size, hd.block⟩; have B4 := Aside0.mk (B3.out.trans (hk.mono B3.out.size)); have K4 := Aside0.mk (blk_below K3.out hk); have hc := fun i => blk_cell K4.out i; clear hd hk)
    | (go_at_call 74; ((with_reducible refine (HC4.out _).mono ?_)); rintro en x5 ⟨rfl, hd⟩; (try clear hc); have hk : Below x4.heap.size x4 x5 := ⟨hd.below.os, hd.below.tape, hd.below.output, hd.below.size, hd.below.block⟩; have B5 := Aside0.mk (B4.out.trans (hk.mono B4.out.size)); have K5 := Aside0.mk (blk_below K4.out hk); have hc := fun i => blk_cell K5.out i; clear hd hk)
    | (go_at_call 74; ((with_reducible refine (HC5.out _).mono ?_)); rintro en x6 ⟨rfl, hd⟩; (try clear hc); have hk : Below x5.heap.size x5 x6 := ⟨hd.below.os, hd.below.tape, hd.below.output, hd.below.size, hd.below.block⟩; have B6 := Aside0.mk (B5.out.trans (hk.mono B5.out.size)); have K6 := Aside0.mk (blk_below K5.out hk); have hc := fun i => blk_cell K6.out i; clear hd hk))
  (try (go_quiet (fail); go_wp2_with (first | (go_at_call 74; ((with_reducible refine (HC0.out _).mono ?_)); rintro en x1 ⟨rfl, hd⟩; (try clear hc); have hk := hd.below; have B1 := Aside0.mk (B0.out.trans (hk.mono B0.out.size)); have K1 := Aside0.mk (blk_below K0.out hk); have hc := fun i => blk_cell K1.out i; clear hd hk) | (go_at_call 74; ((with_reducible refine (HC1.out _).mono ?_)); rintro en x2 ⟨rfl, hd⟩; (try clear hc); have hk : Below x1.heap.size x1 x2 := ⟨hd.below.os, hd.below.tape, hd.below.output, hd.below.size, hd.below.block⟩; have B2 := Aside0.mk (B1.out.trans (hk.mono B1.out.size)); have K2 := Aside0.mk (blk_below K1.out hk); have hc := fun i => blk_cell K2.out i; clear hd hk) | (go_at_call 54; ((with_reducible refine (HC2.out _).mono ?_)); rintro en x3 ⟨rfl, hd⟩; (try clear hc); have hk : Below x2.heap.size x2 x3 := ⟨hd.os, hd.tape, hd.output, hd.size, hd.block⟩; have B3 := Aside0.mk (B2.out.trans (hk.mono B2.out.size)); have K3 := Aside0.mk (blk_below K2.out hk); have hc := fun i => blk_cell K3.out i; clear hd hk) | (go_at_call 54; ((with_reducible refine (HC3.out _).mono ?_)); rintro en x4 ⟨rfl, hd⟩; (try clear hc); have hk : Below x3.heap.size x3 x4 := ⟨hd.os, hd.tape, hd.output, hd.size, hd.block⟩; have B4 := Aside0.mk (B3.out.trans (hk.mono B3.out.size)); have K4 := Aside0.mk (blk_below K3.out hk); have hc := fun i => blk_cell K4.out i; clear hd hk) | (go_at_call 74; ((with_reducible refine (HC4.out _).mono ?_)); rintro en x5 ⟨rfl, hd⟩; (try clear hc); have hk : Below x4.heap.size x4 x5 := ⟨hd.below.os, hd.below.tape, hd.below.output, hd.below.size, hd.below.block⟩; have B5 := Aside0.mk (B4.out.trans (hk.mono B4.out.size)); have K5 := Aside0.mk (blk_below K4.out hk); have hc := fun i => blk_cell K5.out i; clear hd hk) | (go_at_call 74; ((with_reducible refine (HC5.out _).mono ?_)); rintro en x6 ⟨rfl, hd⟩; (try clear hc); have hk : Below x5.heap.size x5 x6 := ⟨hd.below.os, hd.below.tape, hd.below.output, hd.below.size, hd.below.block⟩; have B6 := Aside0.mk (B5.out.trans (hk.mono B5.out.size)); have K6 := Aside0.mk (blk_below K5.out hk); have hc := fun i => blk_cell K6.out i; clear hd hk))))
  go_ret
  exact ⟨rfl, by first | exact B6.out | exact pw_below_drewN B6.out _ | exact B6.out.drew⟩
set_option maxRecDepth 100000 in
set_option maxHeartbeats 4000000 in
theorem rr_5_t (f1 f4 f5 : Int) (f2 f3 : ByteArray) (W : World) (z2 : f2.size ≤ 140737488351232) (z3 : f3.size ≤ 140737488351232) (h1 : 1 ≤ f1 ∧ f1 ≤ 1099511627776) (n2 : nameL f2.data.toList 0 = true) (n3 : nameL f3.data.toList 0 = true) (h4 : 1 ≤ f4 ∧ f4 ≤ 1099511627776) (h5 : 1 ≤ f5 ∧ f5 ≤ 1099511627776) :
    Calls Tryd.prog 36 #[.agg #[.int .i64 5, .int .i64 f1, .string f2, .string f3, .int .i64 f4, .int .i64 f5, .string ⟨#[]⟩]] W (RtIs true W) := by
  have B0 : Aside0 (Below W.heap.size W (W.alloc (.cells #[.int .i64 5, .int .i64 f1, .string f2, .string f3, .int .i64 f4, .int .i64 f5, .string ⟨#[]⟩] 54))) := ⟨(Below.refl _ _).alloc (Nat.le_refl _) _⟩
  have K0 := Aside0.mk (blk_new W (.cells #[.int .i64 5, .int .i64 f1, .string f2, .string f3, .int .i64 f4, .int .i64 f5, .string ⟨#[]⟩] 54))
  have HC0 : Aside0 (∀ X, Calls Tryd.prog 74 #[.int .i64 5, .int .i64 1, .int .i64 7] X fun e w' => e = .returned (.bool true) ∧ Drawn0 X w') := ⟨fun X => post_within.calls _ _ _ _ X (by rw [within_f, decide_eq_true (by omega)])⟩
  have HC1 : Aside0 (∀ X, Calls Tryd.prog 74 #[.int .i64 f1, .int .i64 1, .int .i64 1099511627776] X fun e w' => e = .returned (.bool true) ∧ Drawn0 X w') := ⟨fun X => post_within.calls _ _ _ _ X (by rw [within_f, decide_eq_true (by omega)])⟩
  have HC2 : Aside0 (∀ X, Calls Tryd.prog 54 #[.string f2] X fun e w' => e = .returned (.bool true) ∧ Below X.heap.size X w') := ⟨fun X => by have h := roster_Valid_walk f2 X (by omega); rw [n2] at h; exact h⟩
  have HC3 : Aside0 (∀ X, Calls Tryd.prog 54 #[.string f3] X fun e w' => e = .returned (.bool true) ∧ Below X.heap.size X w') := ⟨fun X => by have h := roster_Valid_walk f3 X (by omega); rw [n3] at h; exact h⟩
  have HC4 : Aside0 (∀ X, Calls Tryd.prog 74 #[.int .i64 f4, .int .i64 1, .int .i64 1099511627776] X fun e w' => e = .returned (.bool true) ∧ Drawn0 X w') := ⟨fun X => post_within.calls _ _ _ _ X (by rw [within_f, decide_eq_true (by omega)])⟩
  have HC5 : Aside0 (∀ X, Calls Tryd.prog 74 #[.int .i64 f5, .int .i64 1, .int .i64 1099511627776] X fun e w' => e = .returned (.bool true) ∧ Drawn0 X w') := ⟨fun X => post_within.calls _ _ _ _ X (by rw [within_f, decide_eq_true (by omega)])⟩
  clear h1 n2 n3 h4 h5 z2 z3
  go_enter Tryd.func36, Tryd.ntmps36
  go_wp2_with (first
    | (go_at_call 74; ((with_reducible refine (HC0.out _).mono ?_)); rintro en x1 ⟨rfl, hd⟩; (try clear hc); have hk := hd.below; have B1 := Aside0.mk (B0.out.trans (hk.mono B0.out.size)); have K1 := Aside0.mk (blk_below K0.out hk); have hc := fun i => blk_cell K1.out i; clear hd hk)
    | (go_at_call 74; ((with_reducible refine (HC1.out _).mono ?_)); rintro en x2 ⟨rfl, hd⟩; (try clear hc); have hk : Below x1.heap.size x1 x2 := ⟨hd.below.os, hd.below.tape, hd.below.output, hd.below.size, hd.below.block⟩; have B2 := Aside0.mk (B1.out.trans (hk.mono B1.out.size)); have K2 := Aside0.mk (blk_below K1.out hk); have hc := fun i => blk_cell K2.out i; clear hd hk)
    | (go_at_call 54; ((with_reducible refine (HC2.out _).mono ?_)); rintro en x3 ⟨rfl, hd⟩; (try clear hc); have hk : Below x2.heap.size x2 x3 := ⟨hd.os, hd.tape, hd.output, hd.size, hd.block⟩; have B3 := Aside0.mk (B2.out.trans (hk.mono B2.out.size)); have K3 := Aside0.mk (blk_below K2.out hk); have hc := fun i => blk_cell K3.out i; clear hd hk)
    | (go_at_call 54; ((with_reducible refine (HC3.out _).mono ?_)); rintro en x4 ⟨rfl, hd⟩; (try clear hc); have hk : Below x3.heap.size x3 x4 := ⟨hd.os, hd.tape, hd.output, hd.size, hd.block⟩; have B4 := Aside0.mk (B3.out.trans (hk.mono B3.out.size)); have K4 := Aside0.mk (blk_below K3.out hk); have hc := fun i => blk_cell K4.out i; clear hd hk)
    | (go_at_call 74; ((with_reducible refine (HC4.out _).mono ?_)); rintro en x5 ⟨rfl, hd⟩; (try clear hc); have hk : Below x4.heap.size x4 x5 := ⟨hd.below.os, hd.below.tape, hd.below.output, hd.below.size, hd.below.block⟩; have B5 := Aside0.mk (B4.out.trans (hk.mono B4.out.size)); have K5 := Aside0.mk (blk_below K4.out hk); have hc := fun i => blk_cell K5.out i; clear hd hk)
    | (go_at_call 74; ((with_reducible refine (HC5.out _).mono ?_)); rintro en x6 ⟨rfl, hd⟩; (try clear hc); have hk : Below x5.heap.size x5 x6 := ⟨hd.below.os, hd.below.tape, hd.below.output, hd.below.size, hd.below.block⟩; have B6 := Aside0.mk (B5.out.trans (hk.mono B5.out.size)); have K6 := Aside0.mk (blk_below K5.out hk); have hc := fun i => blk_cell K6.out i; clear hd hk))
  (try (go_quiet (fail); go_wp2_with (first | (go_at_call 74; ((with_reducible refine (HC0.out _).mono ?_)); rintro en x1 ⟨rfl, hd⟩; (try clear hc); have hk := hd.below; have B1 := Aside0.mk (B0.out.trans (hk.mono B0.out.size)); have K1 := Aside0.mk (blk_below K0.out hk); have hc := fun i => blk_cell K1.out i; clear hd hk) | (go_at_call 74; ((with_reducible refine (HC1.out _).mono ?_)); rintro en x2 ⟨rfl, hd⟩; (try clear hc); have hk : Below x1.heap.size x1 x2 := ⟨hd.below.os, hd.below.tape, hd.below.output, hd.below.size, hd.below.block⟩; have B2 := Aside0.mk (B1.out.trans (hk.mono B1.out.size)); have K2 := Aside0.mk (blk_below K1.out hk); have hc := fun i => blk_cell K2.out i; clear hd hk) | (go_at_call 54; ((with_reducible refine (HC2.out _).mono ?_)); rintro en x3 ⟨rfl, hd⟩; (try clear hc); have hk : Below x2.heap.size x2 x3 := ⟨hd.os, hd.tape, hd.output, hd.size, hd.block⟩; have B3 := Aside0.mk (B2.out.trans (hk.mono B2.out.size)); have K3 := Aside0.mk (blk_below K2.out hk); have hc := fun i => blk_cell K3.out i; clear hd hk) | (go_at_call 54; ((with_reducible refine (HC3.out _).mono ?_)); rintro en x4 ⟨rfl, hd⟩; (try clear hc); have hk : Below x3.heap.size x3 x4 := ⟨hd.os, hd.tape, hd.output, hd.size, hd.block⟩; have B4 := Aside0.mk (B3.out.trans (hk.mono B3.out.size)); have K4 := Aside0.mk (blk_below K3.out hk); have hc := fun i => blk_cell K4.out i; clear hd hk) | (go_at_call 74; ((with_reducible refine (HC4.out _).mono ?_)); rintro en x5 ⟨rfl, hd⟩; (try clear hc); have hk : Below x4.heap.size x4 x5 := ⟨hd.below.os, hd.below.tape, hd.below.output, hd.below.size, hd.below.block⟩; have B5 := Aside0.mk (B4.out.trans (hk.mono B4.out.size)); have K5 := Aside0.mk (blk_below K4.out hk); have hc := fun i => blk_cell K5.out i; clear hd hk) | (go_at_call 74; ((with_reducible refine (HC5.out _).mono ?_)); rintro en x6 ⟨rfl, hd⟩; (try clear hc); have hk : Below x5.heap.size x5 x6 := ⟨hd.below.os, hd.below.tape, hd.below.output, hd.below.size, hd.below.block⟩; have B6 := Aside0.mk (B5.out.trans (hk.mono B5.out.size)); have K6 := Aside0.mk (blk_below K5.out hk); have hc := fun i => blk_cell K6.out i; clear hd hk))))
  go_ret
  exact ⟨rfl, by first | exact B6.out | exact pw_below_drewN B6.out _ | exact B6.out.drew⟩
set_option maxRecDepth 100000 in
set_option maxHeartbeats 4000000 in
theorem rr_6_x (f1 f4 f5 : Int) (f2 f3 f6 : ByteArray) (W : World) (z2 : f2.size ≤ 140737488351232) (z3 : f3.size ≤ 140737488351232) (z6 : f6.size ≤ 140737488351232) (h1 : 1 ≤ f1 ∧ f1 ≤ 1099511627776) (n2 : nameL f2.data.toList 0 = true) (n3 : nameL f3.data.toList 0 = false) :
    Calls Tryd.prog 36 #[.agg #[.int .i64 6, .int .i64 f1, .string f2, .string f3, .int .i64 f4, .int .i64 f5, .string f6]] W (RtIs false W) := by
  have B0 : Aside0 (Below W.heap.size W (W.alloc (.cells #[.int .i64 6, .int .i64 f1, .string f2, .string f3, .int .i64 f4, .int .i64 f5, .string f6] 54))) := ⟨(Below.refl _ _).alloc (Nat.le_refl _) _⟩
  have K0 := Aside0.mk (blk_new W (.cells #[.int .i64 6, .int .i64 f1, .string f2, .string f3, .int .i64 f4, .int .i64 f5, .string f6] 54))
  have HC0 : Aside0 (∀ X, Calls Tryd.prog 74 #[.int .i64 6, .int .i64 1, .int .i64 7] X fun e w' => e = .returned (.bool true) ∧ Drawn0 X w') := ⟨fun X => post_within.calls _ _ _ _ X (by rw [within_f, decide_eq_true (by omega)])⟩
  have HC1 : Aside0 (∀ X, Calls Tryd.prog 74 #[.int .i64 f1, .int .i64 1, .int .i64 1099511627776] X fun e w' => e = .returned (.bool true) ∧ Drawn0 X w') := ⟨fun X => post_within.calls _ _ _ _ X (by rw [within_f, decide_eq_true (by omega)])⟩
  have HC2 : Aside0 (∀ X, Calls Tryd.prog 54 #[.string f2] X fun e w' => e = .returned (.bool true) ∧ Below X.heap.size X w') := ⟨fun X => by have h := roster_Valid_walk f2 X (by omega); rw [n2] at h; exact h⟩
  have HC3 : Aside0 (∀ X, Calls Tryd.prog 54 #[.string f3] X fun e w' => e = .returned (.bool false) ∧ Below X.heap.size X w') := ⟨fun X => by have h := roster_Valid_walk f3 X (by omega); rw [n3] at h; exact h⟩
  clear h1 n2 n3 z2 z3 z6
  go_enter Tryd.func36, Tryd.ntmps36
  go_wp2_with (first
    | (go_at_call 74; ((with_reducible refine (HC0.out _).mono ?_)); rintro en x1 ⟨rfl, hd⟩; (try clear hc); have hk := hd.below; have B1 := Aside0.mk (B0.out.trans (hk.mono B0.out.size)); have K1 := Aside0.mk (blk_below K0.out hk); have hc := fun i => blk_cell K1.out i; clear hd hk)
    | (go_at_call 74; ((with_reducible refine (HC1.out _).mono ?_)); rintro en x2 ⟨rfl, hd⟩; (try clear hc); have hk : Below x1.heap.size x1 x2 := ⟨hd.below.os, hd.below.tape, hd.below.output, hd.below.size, hd.below.block⟩; have B2 := Aside0.mk (B1.out.trans (hk.mono B1.out.size)); have K2 := Aside0.mk (blk_below K1.out hk); have hc := fun i => blk_cell K2.out i; clear hd hk)
    | (go_at_call 54; ((with_reducible refine (HC2.out _).mono ?_)); rintro en x3 ⟨rfl, hd⟩; (try clear hc); have hk : Below x2.heap.size x2 x3 := ⟨hd.os, hd.tape, hd.output, hd.size, hd.block⟩; have B3 := Aside0.mk (B2.out.trans (hk.mono B2.out.size)); have K3 := Aside0.mk (blk_below K2.out hk); have hc := fun i => blk_cell K3.out i; clear hd hk)
    | (go_at_call 54; ((with_reducible refine (HC3.out _).mono ?_)); rintro en x4 ⟨rfl, hd⟩; (try clear hc); have hk : Below x3.heap.size x3 x4 := ⟨hd.os, hd.tape, hd.output, hd.size, hd.block⟩; have B4 := Aside0.mk (B3.out.trans (hk.mono B3.out.size)); have K4 := Aside0.mk (blk_below K3.out hk); have hc := fun i => blk_cell K4.out i; clear hd hk))
  (try (go_quiet (fail); go_wp2_with (first | (go_at_call 74; ((with_reducible refine (HC0.out _).mono ?_)); rintro en x1 ⟨rfl, hd⟩; (try clear hc); have hk := hd.below; have B1 := Aside0.mk (B0.out.trans (hk.mono B0.out.size)); have K1 := Aside0.mk (blk_below K0.out hk); have hc := fun i => blk_cell K1.out i; clear hd hk) | (go_at_call 74; ((with_reducible refine (HC1.out _).mono ?_)); rintro en x2 ⟨rfl, hd⟩; (try clear hc); have hk : Below x1.heap.size x1 x2 := ⟨hd.below.os, hd.below.tape, hd.below.output, hd.below.size, hd.below.block⟩; have B2 := Aside0.mk (B1.out.trans (hk.mono B1.out.size)); have K2 := Aside0.mk (blk_below K1.out hk); have hc := fun i => blk_cell K2.out i; clear hd hk) | (go_at_call 54; ((with_reducible refine (HC2.out _).mono ?_)); rintro en x3 ⟨rfl, hd⟩; (try clear hc); have hk : Below x2.heap.size x2 x3 := ⟨hd.os, hd.tape, hd.output, hd.size, hd.block⟩; have B3 := Aside0.mk (B2.out.trans (hk.mono B2.out.size)); have K3 := Aside0.mk (blk_below K2.out hk); have hc := fun i => blk_cell K3.out i; clear hd hk) | (go_at_call 54; ((with_reducible refine (HC3.out _).mono ?_)); rintro en x4 ⟨rfl, hd⟩; (try clear hc); have hk : Below x3.heap.size x3 x4 := ⟨hd.os, hd.tape, hd.output, hd.size, hd.block⟩; have B4 := Aside0.mk (B3.out.trans (hk.mono B3.out.size)); have K4 := Aside0.mk (blk_below K3.out hk); have hc := fun i => blk_cell K4.out i; clear hd hk))))
  go_ret
  exact ⟨rfl, by first | exact B4.out | exact pw_below_drewN B4.out _ | exact B4.out.drew⟩
set_option maxRecDepth 100000 in
set_option maxHeartbeats 4000000 in
theorem rr_6_4 (f1 f4 f5 : Int) (f2 f3 f6 : ByteArray) (W : World) (z2 : f2.size ≤ 140737488351232) (z3 : f3.size ≤ 140737488351232) (z6 : f6.size ≤ 140737488351232) (h1 : 1 ≤ f1 ∧ f1 ≤ 1099511627776) (n2 : nameL f2.data.toList 0 = true) (n3 : nameL f3.data.toList 0 = true) (t4 : (f4 != 0) = true) :
    Calls Tryd.prog 36 #[.agg #[.int .i64 6, .int .i64 f1, .string f2, .string f3, .int .i64 f4, .int .i64 f5, .string f6]] W (RtIs false W) := by
  have B0 : Aside0 (Below W.heap.size W (W.alloc (.cells #[.int .i64 6, .int .i64 f1, .string f2, .string f3, .int .i64 f4, .int .i64 f5, .string f6] 54))) := ⟨(Below.refl _ _).alloc (Nat.le_refl _) _⟩
  have K0 := Aside0.mk (blk_new W (.cells #[.int .i64 6, .int .i64 f1, .string f2, .string f3, .int .i64 f4, .int .i64 f5, .string f6] 54))
  have HC0 : Aside0 (∀ X, Calls Tryd.prog 74 #[.int .i64 6, .int .i64 1, .int .i64 7] X fun e w' => e = .returned (.bool true) ∧ Drawn0 X w') := ⟨fun X => post_within.calls _ _ _ _ X (by rw [within_f, decide_eq_true (by omega)])⟩
  have HC1 : Aside0 (∀ X, Calls Tryd.prog 74 #[.int .i64 f1, .int .i64 1, .int .i64 1099511627776] X fun e w' => e = .returned (.bool true) ∧ Drawn0 X w') := ⟨fun X => post_within.calls _ _ _ _ X (by rw [within_f, decide_eq_true (by omega)])⟩
  have HC2 : Aside0 (∀ X, Calls Tryd.prog 54 #[.string f2] X fun e w' => e = .returned (.bool true) ∧ Below X.heap.size X w') := ⟨fun X => by have h := roster_Valid_walk f2 X (by omega); rw [n2] at h; exact h⟩
  have HC3 : Aside0 (∀ X, Calls Tryd.prog 54 #[.string f3] X fun e w' => e = .returned (.bool true) ∧ Below X.heap.size X w') := ⟨fun X => by have h := roster_Valid_walk f3 X (by omega); rw [n3] at h; exact h⟩
  clear h1 n2 n3 z2 z3 z6
  go_enter Tryd.func36, Tryd.ntmps36
  go_wp2_with (first
    | (go_at_call 74; ((with_reducible refine (HC0.out _).mono ?_)); rintro en x1 ⟨rfl, hd⟩; (try clear hc); have hk := hd.below; have B1 := Aside0.mk (B0.out.trans (hk.mono B0.out.size)); have K1 := Aside0.mk (blk_below K0.out hk); have hc := fun i => blk_cell K1.out i; clear hd hk)
    | (go_at_call 74; ((with_reducible refine (HC1.out _).mono ?_)); rintro en x2 ⟨rfl, hd⟩; (try clear hc); have hk : Below x1.heap.size x1 x2 := ⟨hd.below.os, hd.below.tape, hd.below.output, hd.below.size, hd.below.block⟩; have B2 := Aside0.mk (B1.out.trans (hk.mono B1.out.size)); have K2 := Aside0.mk (blk_below K1.out hk); have hc := fun i => blk_cell K2.out i; clear hd hk)
    | (go_at_call 54; ((with_reducible refine (HC2.out _).mono ?_)); rintro en x3 ⟨rfl, hd⟩; (try clear hc); have hk : Below x2.heap.size x2 x3 := ⟨hd.os, hd.tape, hd.output, hd.size, hd.block⟩; have B3 := Aside0.mk (B2.out.trans (hk.mono B2.out.size)); have K3 := Aside0.mk (blk_below K2.out hk); have hc := fun i => blk_cell K3.out i; clear hd hk)
    | (go_at_call 54; ((with_reducible refine (HC3.out _).mono ?_)); rintro en x4 ⟨rfl, hd⟩; (try clear hc); have hk : Below x3.heap.size x3 x4 := ⟨hd.os, hd.tape, hd.output, hd.size, hd.block⟩; have B4 := Aside0.mk (B3.out.trans (hk.mono B3.out.size)); have K4 := Aside0.mk (blk_below K3.out hk); have hc := fun i => blk_cell K4.out i; clear hd hk))
  (try (go_quiet (fail); go_wp2_with (first | (go_at_call 74; ((with_reducible refine (HC0.out _).mono ?_)); rintro en x1 ⟨rfl, hd⟩; (try clear hc); have hk := hd.below; have B1 := Aside0.mk (B0.out.trans (hk.mono B0.out.size)); have K1 := Aside0.mk (blk_below K0.out hk); have hc := fun i => blk_cell K1.out i; clear hd hk) | (go_at_call 74; ((with_reducible refine (HC1.out _).mono ?_)); rintro en x2 ⟨rfl, hd⟩; (try clear hc); have hk : Below x1.heap.size x1 x2 := ⟨hd.below.os, hd.below.tape, hd.below.output, hd.below.size, hd.below.block⟩; have B2 := Aside0.mk (B1.out.trans (hk.mono B1.out.size)); have K2 := Aside0.mk (blk_below K1.out hk); have hc := fun i => blk_cell K2.out i; clear hd hk) | (go_at_call 54; ((with_reducible refine (HC2.out _).mono ?_)); rintro en x3 ⟨rfl, hd⟩; (try clear hc); have hk : Below x2.heap.size x2 x3 := ⟨hd.os, hd.tape, hd.output, hd.size, hd.block⟩; have B3 := Aside0.mk (B2.out.trans (hk.mono B2.out.size)); have K3 := Aside0.mk (blk_below K2.out hk); have hc := fun i => blk_cell K3.out i; clear hd hk) | (go_at_call 54; ((with_reducible refine (HC3.out _).mono ?_)); rintro en x4 ⟨rfl, hd⟩; (try clear hc); have hk : Below x3.heap.size x3 x4 := ⟨hd.os, hd.tape, hd.output, hd.size, hd.block⟩; have B4 := Aside0.mk (B3.out.trans (hk.mono B3.out.size)); have K4 := Aside0.mk (blk_below K3.out hk); have hc := fun i => blk_cell K4.out i; clear hd hk))))
  go_ret
  exact ⟨rfl, by first | exact B4.out | exact pw_below_drewN B4.out _ | exact B4.out.drew⟩
set_option maxRecDepth 100000 in
set_option maxHeartbeats 4000000 in
theorem rr_6_5 (f1 f5 : Int) (f2 f3 f6 : ByteArray) (W : World) (z2 : f2.size ≤ 140737488351232) (z3 : f3.size ≤ 140737488351232) (z6 : f6.size ≤ 140737488351232) (h1 : 1 ≤ f1 ∧ f1 ≤ 1099511627776) (n2 : nameL f2.data.toList 0 = true) (n3 : nameL f3.data.toList 0 = true) (t5b : (f5 != 0) = true) :
    Calls Tryd.prog 36 #[.agg #[.int .i64 6, .int .i64 f1, .string f2, .string f3, .int .i64 0, .int .i64 f5, .string f6]] W (RtIs false W) := by
  have B0 : Aside0 (Below W.heap.size W (W.alloc (.cells #[.int .i64 6, .int .i64 f1, .string f2, .string f3, .int .i64 0, .int .i64 f5, .string f6] 54))) := ⟨(Below.refl _ _).alloc (Nat.le_refl _) _⟩
  have K0 := Aside0.mk (blk_new W (.cells #[.int .i64 6, .int .i64 f1, .string f2, .string f3, .int .i64 0, .int .i64 f5, .string f6] 54))
  have HC0 : Aside0 (∀ X, Calls Tryd.prog 74 #[.int .i64 6, .int .i64 1, .int .i64 7] X fun e w' => e = .returned (.bool true) ∧ Drawn0 X w') := ⟨fun X => post_within.calls _ _ _ _ X (by rw [within_f, decide_eq_true (by omega)])⟩
  have HC1 : Aside0 (∀ X, Calls Tryd.prog 74 #[.int .i64 f1, .int .i64 1, .int .i64 1099511627776] X fun e w' => e = .returned (.bool true) ∧ Drawn0 X w') := ⟨fun X => post_within.calls _ _ _ _ X (by rw [within_f, decide_eq_true (by omega)])⟩
  have HC2 : Aside0 (∀ X, Calls Tryd.prog 54 #[.string f2] X fun e w' => e = .returned (.bool true) ∧ Below X.heap.size X w') := ⟨fun X => by have h := roster_Valid_walk f2 X (by omega); rw [n2] at h; exact h⟩
  have HC3 : Aside0 (∀ X, Calls Tryd.prog 54 #[.string f3] X fun e w' => e = .returned (.bool true) ∧ Below X.heap.size X w') := ⟨fun X => by have h := roster_Valid_walk f3 X (by omega); rw [n3] at h; exact h⟩
  clear h1 n2 n3 z2 z3 z6
  go_enter Tryd.func36, Tryd.ntmps36
  go_wp2_with (first
    | (go_at_call 74; ((with_reducible refine (HC0.out _).mono ?_)); rintro en x1 ⟨rfl, hd⟩; (try clear hc); have hk := hd.below; have B1 := Aside0.mk (B0.out.trans (hk.mono B0.out.size)); have K1 := Aside0.mk (blk_below K0.out hk); have hc := fun i => blk_cell K1.out i; clear hd hk)
    | (go_at_call 74; ((with_reducible refine (HC1.out _).mono ?_)); rintro en x2 ⟨rfl, hd⟩; (try clear hc); have hk : Below x1.heap.size x1 x2 := ⟨hd.below.os, hd.below.tape, hd.below.output, hd.below.size, hd.below.block⟩; have B2 := Aside0.mk (B1.out.trans (hk.mono B1.out.size)); have K2 := Aside0.mk (blk_below K1.out hk); have hc := fun i => blk_cell K2.out i; clear hd hk)
    | (go_at_call 54; ((with_reducible refine (HC2.out _).mono ?_)); rintro en x3 ⟨rfl, hd⟩; (try clear hc); have hk : Below x2.heap.size x2 x3 := ⟨hd.os, hd.tape, hd.output, hd.size, hd.block⟩; have B3 := Aside0.mk (B2.out.trans (hk.mono B2.out.size)); have K3 := Aside0.mk (blk_below K2.out hk); have hc := fun i => blk_cell K3.out i; clear hd hk)
    | (go_at_call 54; ((with_reducible refine (HC3.out _).mono ?_)); rintro en x4 ⟨rfl, hd⟩; (try clear hc); have hk : Below x3.heap.size x3 x4 := ⟨hd.os, hd.tape, hd.output, hd.size, hd.block⟩; have B4 := Aside0.mk (B3.out.trans (hk.mono B3.out.size)); have K4 := Aside0.mk (blk_below K3.out hk); have hc := fun i => blk_cell K4.out i; clear hd hk))
  (try (go_quiet (fail); go_wp2_with (first | (go_at_call 74; ((with_reducible refine (HC0.out _).mono ?_)); rintro en x1 ⟨rfl, hd⟩; (try clear hc); have hk := hd.below; have B1 := Aside0.mk (B0.out.trans (hk.mono B0.out.size)); have K1 := Aside0.mk (blk_below K0.out hk); have hc := fun i => blk_cell K1.out i; clear hd hk) | (go_at_call 74; ((with_reducible refine (HC1.out _).mono ?_)); rintro en x2 ⟨rfl, hd⟩; (try clear hc); have hk : Below x1.heap.size x1 x2 := ⟨hd.below.os, hd.below.tape, hd.below.output, hd.below.size, hd.below.block⟩; have B2 := Aside0.mk (B1.out.trans (hk.mono B1.out.size)); have K2 := Aside0.mk (blk_below K1.out hk); have hc := fun i => blk_cell K2.out i; clear hd hk) | (go_at_call 54; ((with_reducible refine (HC2.out _).mono ?_)); rintro en x3 ⟨rfl, hd⟩; (try clear hc); have hk : Below x2.heap.size x2 x3 := ⟨hd.os, hd.tape, hd.output, hd.size, hd.block⟩; have B3 := Aside0.mk (B2.out.trans (hk.mono B2.out.size)); have K3 := Aside0.mk (blk_below K2.out hk); have hc := fun i => blk_cell K3.out i; clear hd hk) | (go_at_call 54; ((with_reducible refine (HC3.out _).mono ?_)); rintro en x4 ⟨rfl, hd⟩; (try clear hc); have hk : Below x3.heap.size x3 x4 := ⟨hd.os, hd.tape, hd.output, hd.size, hd.block⟩; have B4 := Aside0.mk (B3.out.trans (hk.mono B3.out.size)); have K4 := Aside0.mk (blk_below K3.out hk); have hc := fun i => blk_cell K4.out i; clear hd hk))))
  go_ret
  exact ⟨rfl, by first | exact B4.out | exact pw_below_drewN B4.out _ | exact B4.out.drew⟩
set_option maxRecDepth 100000 in
set_option maxHeartbeats 4000000 in
theorem rr_6_n (f1 : Int) (f2 f3 f6 : ByteArray) (W : World) (z2 : f2.size ≤ 140737488351232) (z3 : f3.size ≤ 140737488351232) (z6 : f6.size ≤ 140737488351232) (h1 : 1 ≤ f1 ∧ f1 ≤ 1099511627776) (n2 : nameL f2.data.toList 0 = true) (n3 : nameL f3.data.toList 0 = true) :
    Calls Tryd.prog 36 #[.agg #[.int .i64 6, .int .i64 f1, .string f2, .string f3, .int .i64 0, .int .i64 0, .string f6]] W (RtIs (nameL f6.data.toList 0) W) := by
  have B0 : Aside0 (Below W.heap.size W (W.alloc (.cells #[.int .i64 6, .int .i64 f1, .string f2, .string f3, .int .i64 0, .int .i64 0, .string f6] 54))) := ⟨(Below.refl _ _).alloc (Nat.le_refl _) _⟩
  have K0 := Aside0.mk (blk_new W (.cells #[.int .i64 6, .int .i64 f1, .string f2, .string f3, .int .i64 0, .int .i64 0, .string f6] 54))
  have HC0 : Aside0 (∀ X, Calls Tryd.prog 74 #[.int .i64 6, .int .i64 1, .int .i64 7] X fun e w' => e = .returned (.bool true) ∧ Drawn0 X w') := ⟨fun X => post_within.calls _ _ _ _ X (by rw [within_f, decide_eq_true (by omega)])⟩
  have HC1 : Aside0 (∀ X, Calls Tryd.prog 74 #[.int .i64 f1, .int .i64 1, .int .i64 1099511627776] X fun e w' => e = .returned (.bool true) ∧ Drawn0 X w') := ⟨fun X => post_within.calls _ _ _ _ X (by rw [within_f, decide_eq_true (by omega)])⟩
  have HC2 : Aside0 (∀ X, Calls Tryd.prog 54 #[.string f2] X fun e w' => e = .returned (.bool true) ∧ Below X.heap.size X w') := ⟨fun X => by have h := roster_Valid_walk f2 X (by omega); rw [n2] at h; exact h⟩
  have HC3 : Aside0 (∀ X, Calls Tryd.prog 54 #[.string f3] X fun e w' => e = .returned (.bool true) ∧ Below X.heap.size X w') := ⟨fun X => by have h := roster_Valid_walk f3 X (by omega); rw [n3] at h; exact h⟩
  have HC4 : Aside0 (∀ X, Calls Tryd.prog 54 #[.string f6] X fun e w' => e = .returned (.bool (nameL f6.data.toList 0)) ∧ Below X.heap.size X w') := ⟨fun X => roster_Valid_walk f6 X (by omega)⟩
  clear h1 n2 n3 z2 z3 z6
  go_enter Tryd.func36, Tryd.ntmps36
  go_wp2_with (first
    | (go_at_call 74; ((with_reducible refine (HC0.out _).mono ?_)); rintro en x1 ⟨rfl, hd⟩; (try clear hc); have hk := hd.below; have B1 := Aside0.mk (B0.out.trans (hk.mono B0.out.size)); have K1 := Aside0.mk (blk_below K0.out hk); have hc := fun i => blk_cell K1.out i; clear hd hk)
    | (go_at_call 74; ((with_reducible refine (HC1.out _).mono ?_)); rintro en x2 ⟨rfl, hd⟩; (try clear hc); have hk : Below x1.heap.size x1 x2 := ⟨hd.below.os, hd.below.tape, hd.below.output, hd.below.size, hd.below.block⟩; have B2 := Aside0.mk (B1.out.trans (hk.mono B1.out.size)); have K2 := Aside0.mk (blk_below K1.out hk); have hc := fun i => blk_cell K2.out i; clear hd hk)
    | (go_at_call 54; ((with_reducible refine (HC2.out _).mono ?_)); rintro en x3 ⟨rfl, hd⟩; (try clear hc); have hk : Below x2.heap.size x2 x3 := ⟨hd.os, hd.tape, hd.output, hd.size, hd.block⟩; have B3 := Aside0.mk (B2.out.trans (hk.mono B2.out.size)); have K3 := Aside0.mk (blk_below K2.out hk); have hc := fun i => blk_cell K3.out i; clear hd hk)
    | (go_at_call 54; ((with_reducible refine (HC3.out _).mono ?_)); rintro en x4 ⟨rfl, hd⟩; (try clear hc); have hk : Below x3.heap.size x3 x4 := ⟨hd.os, hd.tape, hd.output, hd.size, hd.block⟩; have B4 := Aside0.mk (B3.out.trans (hk.mono B3.out.size)); have K4 := Aside0.mk (blk_below K3.out hk); have hc := fun i => blk_cell K4.out i; clear hd hk)
    | (go_at_call 54; ((with_reducible refine (HC4.out _).mono ?_)); rintro en x5 ⟨rfl, hd⟩; (try clear hc); have hk : Below x4.heap.size x4 x5 := ⟨hd.os, hd.tape, hd.output, hd.size, hd.block⟩; have B5 := Aside0.mk (B4.out.trans (hk.mono B4.out.size)); have K5 := Aside0.mk (blk_below K4.out hk); have hc := fun i => blk_cell K5.out i; clear hd hk))
  (try (go_quiet (fail); go_wp2_with (first | (go_at_call 74; ((with_reducible refine (HC0.out _).mono ?_)); rintro en x1 ⟨rfl, hd⟩; (try clear hc); have hk := hd.below; have B1 := Aside0.mk (B0.out.trans (hk.mono B0.out.size)); have K1 := Aside0.mk (blk_below K0.out hk); have hc := fun i => blk_cell K1.out i; clear hd hk) | (go_at_call 74; ((with_reducible refine (HC1.out _).mono ?_)); rintro en x2 ⟨rfl, hd⟩; (try clear hc); have hk : Below x1.heap.size x1 x2 := ⟨hd.below.os, hd.below.tape, hd.below.output, hd.below.size, hd.below.block⟩; have B2 := Aside0.mk (B1.out.trans (hk.mono B1.out.size)); have K2 := Aside0.mk (blk_below K1.out hk); have hc := fun i => blk_cell K2.out i; clear hd hk) | (go_at_call 54; ((with_reducible refine (HC2.out _).mono ?_)); rintro en x3 ⟨rfl, hd⟩; (try clear hc); have hk : Below x2.heap.size x2 x3 := ⟨hd.os, hd.tape, hd.output, hd.size, hd.block⟩; have B3 := Aside0.mk (B2.out.trans (hk.mono B2.out.size)); have K3 := Aside0.mk (blk_below K2.out hk); have hc := fun i => blk_cell K3.out i; clear hd hk) | (go_at_call 54; ((with_reducible refine (HC3.out _).mono ?_)); rintro en x4 ⟨rfl, hd⟩; (try clear hc); have hk : Below x3.heap.size x3 x4 := ⟨hd.os, hd.tape, hd.output, hd.size, hd.block⟩; have B4 := Aside0.mk (B3.out.trans (hk.mono B3.out.size)); have K4 := Aside0.mk (blk_below K3.out hk); have hc := fun i => blk_cell K4.out i; clear hd hk) | (go_at_call 54; ((with_reducible refine (HC4.out _).mono ?_)); rintro en x5 ⟨rfl, hd⟩; (try clear hc); have hk : Below x4.heap.size x4 x5 := ⟨hd.os, hd.tape, hd.output, hd.size, hd.block⟩; have B5 := Aside0.mk (B4.out.trans (hk.mono B4.out.size)); have K5 := Aside0.mk (blk_below K4.out hk); have hc := fun i => blk_cell K5.out i; clear hd hk))))
  go_ret
  exact ⟨rfl, by first | exact B5.out | exact pw_below_drewN B5.out _ | exact B5.out.drew⟩
set_option maxRecDepth 100000 in
set_option maxHeartbeats 4000000 in
theorem rr_o_x (f0 f1 f4 f5 : Int) (f2 f3 f6 : ByteArray) (W : World) (z2 : f2.size ≤ 140737488351232) (z3 : f3.size ≤ 140737488351232) (z6 : f6.size ≤ 140737488351232) (h0 : 1 ≤ f0 ∧ f0 ≤ 7) (h1 : 1 ≤ f1 ∧ f1 ≤ 1099511627776) (n2 : nameL f2.data.toList 0 = true) (t5 : (f0 == 5) = false) (t6 : (f0 == 6) = false) (t7 : (f0 == 7) = false) (n3 : nameL f3.data.toList 0 = false) :
    Calls Tryd.prog 36 #[.agg #[.int .i64 f0, .int .i64 f1, .string f2, .string f3, .int .i64 f4, .int .i64 f5, .string f6]] W (RtIs false W) := by
  have B0 : Aside0 (Below W.heap.size W (W.alloc (.cells #[.int .i64 f0, .int .i64 f1, .string f2, .string f3, .int .i64 f4, .int .i64 f5, .string f6] 54))) := ⟨(Below.refl _ _).alloc (Nat.le_refl _) _⟩
  have K0 := Aside0.mk (blk_new W (.cells #[.int .i64 f0, .int .i64 f1, .string f2, .string f3, .int .i64 f4, .int .i64 f5, .string f6] 54))
  have HC0 : Aside0 (∀ X, Calls Tryd.prog 74 #[.int .i64 f0, .int .i64 1, .int .i64 7] X fun e w' => e = .returned (.bool true) ∧ Drawn0 X w') := ⟨fun X => post_within.calls _ _ _ _ X (by rw [within_f, decide_eq_true (by omega)])⟩
  have HC1 : Aside0 (∀ X, Calls Tryd.prog 74 #[.int .i64 f1, .int .i64 1, .int .i64 1099511627776] X fun e w' => e = .returned (.bool true) ∧ Drawn0 X w') := ⟨fun X => post_within.calls _ _ _ _ X (by rw [within_f, decide_eq_true (by omega)])⟩
  have HC2 : Aside0 (∀ X, Calls Tryd.prog 54 #[.string f2] X fun e w' => e = .returned (.bool true) ∧ Below X.heap.size X w') := ⟨fun X => by have h := roster_Valid_walk f2 X (by omega); rw [n2] at h; exact h⟩
  have HC3 : Aside0 (∀ X, Calls Tryd.prog 54 #[.string f3] X fun e w' => e = .returned (.bool false) ∧ Below X.heap.size X w') := ⟨fun X => by have h := roster_Valid_walk f3 X (by omega); rw [n3] at h; exact h⟩
  clear h0 h1 n2 n3 z2 z3 z6
  go_enter Tryd.func36, Tryd.ntmps36
  go_wp2_with (first
    | (go_at_call 74; ((with_reducible refine (HC0.out _).mono ?_)); rintro en x1 ⟨rfl, hd⟩; (try clear hc); have hk := hd.below; have B1 := Aside0.mk (B0.out.trans (hk.mono B0.out.size)); have K1 := Aside0.mk (blk_below K0.out hk); have hc := fun i => blk_cell K1.out i; clear hd hk)
    | (go_at_call 74; ((with_reducible refine (HC1.out _).mono ?_)); rintro en x2 ⟨rfl, hd⟩; (try clear hc); have hk : Below x1.heap.size x1 x2 := ⟨hd.below.os, hd.below.tape, hd.below.output, hd.below.size, hd.below.block⟩; have B2 := Aside0.mk (B1.out.trans (hk.mono B1.out.size)); have K2 := Aside0.mk (blk_below K1.out hk); have hc := fun i => blk_cell K2.out i; clear hd hk)
    | (go_at_call 54; ((with_reducible refine (HC2.out _).mono ?_)); rintro en x3 ⟨rfl, hd⟩; (try clear hc); have hk : Below x2.heap.size x2 x3 := ⟨hd.os, hd.tape, hd.output, hd.size, hd.block⟩; have B3 := Aside0.mk (B2.out.trans (hk.mono B2.out.size)); have K3 := Aside0.mk (blk_below K2.out hk); have hc := fun i => blk_cell K3.out i; clear hd hk)
    | (go_at_call 54; ((with_reducible refine (HC3.out _).mono ?_)); rintro en x4 ⟨rfl, hd⟩; (try clear hc); have hk : Below x3.heap.size x3 x4 := ⟨hd.os, hd.tape, hd.output, hd.size, hd.block⟩; have B4 := Aside0.mk (B3.out.trans (hk.mono B3.out.size)); have K4 := Aside0.mk (blk_below K3.out hk); have hc := fun i => blk_cell K4.out i; clear hd hk))
  (try (go_quiet (fail); go_wp2_with (first | (go_at_call 74; ((with_reducible refine (HC0.out _).mono ?_)); rintro en x1 ⟨rfl, hd⟩; (try clear hc); have hk := hd.below; have B1 := Aside0.mk (B0.out.trans (hk.mono B0.out.size)); have K1 := Aside0.mk (blk_below K0.out hk); have hc := fun i => blk_cell K1.out i; clear hd hk) | (go_at_call 74; ((with_reducible refine (HC1.out _).mono ?_)); rintro en x2 ⟨rfl, hd⟩; (try clear hc); have hk : Below x1.heap.size x1 x2 := ⟨hd.below.os, hd.below.tape, hd.below.output, hd.below.size, hd.below.block⟩; have B2 := Aside0.mk (B1.out.trans (hk.mono B1.out.size)); have K2 := Aside0.mk (blk_below K1.out hk); have hc := fun i => blk_cell K2.out i; clear hd hk) | (go_at_call 54; ((with_reducible refine (HC2.out _).mono ?_)); rintro en x3 ⟨rfl, hd⟩; (try clear hc); have hk : Below x2.heap.size x2 x3 := ⟨hd.os, hd.tape, hd.output, hd.size, hd.block⟩; have B3 := Aside0.mk (B2.out.trans (hk.mono B2.out.size)); have K3 := Aside0.mk (blk_below K2.out hk); have hc := fun i => blk_cell K3.out i; clear hd hk) | (go_at_call 54; ((with_reducible refine (HC3.out _).mono ?_)); rintro en x4 ⟨rfl, hd⟩; (try clear hc); have hk : Below x3.heap.size x3 x4 := ⟨hd.os, hd.tape, hd.output, hd.size, hd.block⟩; have B4 := Aside0.mk (B3.out.trans (hk.mono B3.out.size)); have K4 := Aside0.mk (blk_below K3.out hk); have hc := fun i => blk_cell K4.out i; clear hd hk))))
  go_ret
  exact ⟨rfl, by first | exact B4.out | exact pw_below_drewN B4.out _ | exact B4.out.drew⟩
set_option maxRecDepth 100000 in
set_option maxHeartbeats 4000000 in
theorem rr_o_4 (f0 f1 f4 f5 : Int) (f2 f3 f6 : ByteArray) (W : World) (z2 : f2.size ≤ 140737488351232) (z3 : f3.size ≤ 140737488351232) (z6 : f6.size ≤ 140737488351232) (h0 : 1 ≤ f0 ∧ f0 ≤ 7) (h1 : 1 ≤ f1 ∧ f1 ≤ 1099511627776) (n2 : nameL f2.data.toList 0 = true) (t5 : (f0 == 5) = false) (t6 : (f0 == 6) = false) (t7 : (f0 == 7) = false) (n3 : nameL f3.data.toList 0 = true) (t4 : (f4 != 0) = true) :
    Calls Tryd.prog 36 #[.agg #[.int .i64 f0, .int .i64 f1, .string f2, .string f3, .int .i64 f4, .int .i64 f5, .string f6]] W (RtIs false W) := by
  have B0 : Aside0 (Below W.heap.size W (W.alloc (.cells #[.int .i64 f0, .int .i64 f1, .string f2, .string f3, .int .i64 f4, .int .i64 f5, .string f6] 54))) := ⟨(Below.refl _ _).alloc (Nat.le_refl _) _⟩
  have K0 := Aside0.mk (blk_new W (.cells #[.int .i64 f0, .int .i64 f1, .string f2, .string f3, .int .i64 f4, .int .i64 f5, .string f6] 54))
  have HC0 : Aside0 (∀ X, Calls Tryd.prog 74 #[.int .i64 f0, .int .i64 1, .int .i64 7] X fun e w' => e = .returned (.bool true) ∧ Drawn0 X w') := ⟨fun X => post_within.calls _ _ _ _ X (by rw [within_f, decide_eq_true (by omega)])⟩
  have HC1 : Aside0 (∀ X, Calls Tryd.prog 74 #[.int .i64 f1, .int .i64 1, .int .i64 1099511627776] X fun e w' => e = .returned (.bool true) ∧ Drawn0 X w') := ⟨fun X => post_within.calls _ _ _ _ X (by rw [within_f, decide_eq_true (by omega)])⟩
  have HC2 : Aside0 (∀ X, Calls Tryd.prog 54 #[.string f2] X fun e w' => e = .returned (.bool true) ∧ Below X.heap.size X w') := ⟨fun X => by have h := roster_Valid_walk f2 X (by omega); rw [n2] at h; exact h⟩
  have HC3 : Aside0 (∀ X, Calls Tryd.prog 54 #[.string f3] X fun e w' => e = .returned (.bool true) ∧ Below X.heap.size X w') := ⟨fun X => by have h := roster_Valid_walk f3 X (by omega); rw [n3] at h; exact h⟩
  clear h0 h1 n2 n3 z2 z3 z6
  go_enter Tryd.func36, Tryd.ntmps36
  go_wp2_with (first
    | (go_at_call 74; ((with_reducible refine (HC0.out _).mono ?_)); rintro en x1 ⟨rfl, hd⟩; (try clear hc); have hk := hd.below; have B1 := Aside0.mk (B0.out.trans (hk.mono B0.out.size)); have K1 := Aside0.mk (blk_below K0.out hk); have hc := fun i => blk_cell K1.out i; clear hd hk)
    | (go_at_call 74; ((with_reducible refine (HC1.out _).mono ?_)); rintro en x2 ⟨rfl, hd⟩; (try clear hc); have hk : Below x1.heap.size x1 x2 := ⟨hd.below.os, hd.below.tape, hd.below.output, hd.below.size, hd.below.block⟩; have B2 := Aside0.mk (B1.out.trans (hk.mono B1.out.size)); have K2 := Aside0.mk (blk_below K1.out hk); have hc := fun i => blk_cell K2.out i; clear hd hk)
    | (go_at_call 54; ((with_reducible refine (HC2.out _).mono ?_)); rintro en x3 ⟨rfl, hd⟩; (try clear hc); have hk : Below x2.heap.size x2 x3 := ⟨hd.os, hd.tape, hd.output, hd.size, hd.block⟩; have B3 := Aside0.mk (B2.out.trans (hk.mono B2.out.size)); have K3 := Aside0.mk (blk_below K2.out hk); have hc := fun i => blk_cell K3.out i; clear hd hk)
    | (go_at_call 54; ((with_reducible refine (HC3.out _).mono ?_)); rintro en x4 ⟨rfl, hd⟩; (try clear hc); have hk : Below x3.heap.size x3 x4 := ⟨hd.os, hd.tape, hd.output, hd.size, hd.block⟩; have B4 := Aside0.mk (B3.out.trans (hk.mono B3.out.size)); have K4 := Aside0.mk (blk_below K3.out hk); have hc := fun i => blk_cell K4.out i; clear hd hk))
  (try (go_quiet (fail); go_wp2_with (first | (go_at_call 74; ((with_reducible refine (HC0.out _).mono ?_)); rintro en x1 ⟨rfl, hd⟩; (try clear hc); have hk := hd.below; have B1 := Aside0.mk (B0.out.trans (hk.mono B0.out.size)); have K1 := Aside0.mk (blk_below K0.out hk); have hc := fun i => blk_cell K1.out i; clear hd hk) | (go_at_call 74; ((with_reducible refine (HC1.out _).mono ?_)); rintro en x2 ⟨rfl, hd⟩; (try clear hc); have hk : Below x1.heap.size x1 x2 := ⟨hd.below.os, hd.below.tape, hd.below.output, hd.below.size, hd.below.block⟩; have B2 := Aside0.mk (B1.out.trans (hk.mono B1.out.size)); have K2 := Aside0.mk (blk_below K1.out hk); have hc := fun i => blk_cell K2.out i; clear hd hk) | (go_at_call 54; ((with_reducible refine (HC2.out _).mono ?_)); rintro en x3 ⟨rfl, hd⟩; (try clear hc); have hk : Below x2.heap.size x2 x3 := ⟨hd.os, hd.tape, hd.output, hd.size, hd.block⟩; have B3 := Aside0.mk (B2.out.trans (hk.mono B2.out.size)); have K3 := Aside0.mk (blk_below K2.out hk); have hc := fun i => blk_cell K3.out i; clear hd hk) | (go_at_call 54; ((with_reducible refine (HC3.out _).mono ?_)); rintro en x4 ⟨rfl, hd⟩; (try clear hc); have hk : Below x3.heap.size x3 x4 := ⟨hd.os, hd.tape, hd.output, hd.size, hd.block⟩; have B4 := Aside0.mk (B3.out.trans (hk.mono B3.out.size)); have K4 := Aside0.mk (blk_below K3.out hk); have hc := fun i => blk_cell K4.out i; clear hd hk))))
  go_ret
  exact ⟨rfl, by first | exact B4.out | exact pw_below_drewN B4.out _ | exact B4.out.drew⟩
set_option maxRecDepth 100000 in
set_option maxHeartbeats 4000000 in
theorem rr_o_5 (f0 f1 f5 : Int) (f2 f3 f6 : ByteArray) (W : World) (z2 : f2.size ≤ 140737488351232) (z3 : f3.size ≤ 140737488351232) (z6 : f6.size ≤ 140737488351232) (h0 : 1 ≤ f0 ∧ f0 ≤ 7) (h1 : 1 ≤ f1 ∧ f1 ≤ 1099511627776) (n2 : nameL f2.data.toList 0 = true) (t5 : (f0 == 5) = false) (t6 : (f0 == 6) = false) (t7 : (f0 == 7) = false) (n3 : nameL f3.data.toList 0 = true) (t5b : (f5 != 0) = true) :
    Calls Tryd.prog 36 #[.agg #[.int .i64 f0, .int .i64 f1, .string f2, .string f3, .int .i64 0, .int .i64 f5, .string f6]] W (RtIs false W) := by
  have B0 : Aside0 (Below W.heap.size W (W.alloc (.cells #[.int .i64 f0, .int .i64 f1, .string f2, .string f3, .int .i64 0, .int .i64 f5, .string f6] 54))) := ⟨(Below.refl _ _).alloc (Nat.le_refl _) _⟩
  have K0 := Aside0.mk (blk_new W (.cells #[.int .i64 f0, .int .i64 f1, .string f2, .string f3, .int .i64 0, .int .i64 f5, .string f6] 54))
  have HC0 : Aside0 (∀ X, Calls Tryd.prog 74 #[.int .i64 f0, .int .i64 1, .int .i64 7] X fun e w' => e = .returned (.bool true) ∧ Drawn0 X w') := ⟨fun X => post_within.calls _ _ _ _ X (by rw [within_f, decide_eq_true (by omega)])⟩
  have HC1 : Aside0 (∀ X, Calls Tryd.prog 74 #[.int .i64 f1, .int .i64 1, .int .i64 1099511627776] X fun e w' => e = .returned (.bool true) ∧ Drawn0 X w') := ⟨fun X => post_within.calls _ _ _ _ X (by rw [within_f, decide_eq_true (by omega)])⟩
  have HC2 : Aside0 (∀ X, Calls Tryd.prog 54 #[.string f2] X fun e w' => e = .returned (.bool true) ∧ Below X.heap.size X w') := ⟨fun X => by have h := roster_Valid_walk f2 X (by omega); rw [n2] at h; exact h⟩
  have HC3 : Aside0 (∀ X, Calls Tryd.prog 54 #[.string f3] X fun e w' => e = .returned (.bool true) ∧ Below X.heap.size X w') := ⟨fun X => by have h := roster_Valid_walk f3 X (by omega); rw [n3] at h; exact h⟩
  clear h0 h1 n2 n3 z2 z3 z6
  go_enter Tryd.func36, Tryd.ntmps36
  go_wp2_with (first
    | (go_at_call 74; ((with_reducible refine (HC0.out _).mono ?_)); rintro en x1 ⟨rfl, hd⟩; (try clear hc); have hk := hd.below; have B1 := Aside0.mk (B0.out.trans (hk.mono B0.out.size)); have K1 := Aside0.mk (blk_below K0.out hk); have hc := fun i => blk_cell K1.out i; clear hd hk)
    | (go_at_call 74; ((with_reducible refine (HC1.out _).mono ?_)); rintro en x2 ⟨rfl, hd⟩; (try clear hc); have hk : Below x1.heap.size x1 x2 := ⟨hd.below.os, hd.below.tape, hd.below.output, hd.below.size, hd.below.block⟩; have B2 := Aside0.mk (B1.out.trans (hk.mono B1.out.size)); have K2 := Aside0.mk (blk_below K1.out hk); have hc := fun i => blk_cell K2.out i; clear hd hk)
    | (go_at_call 54; ((with_reducible refine (HC2.out _).mono ?_)); rintro en x3 ⟨rfl, hd⟩; (try clear hc); have hk : Below x2.heap.size x2 x3 := ⟨hd.os, hd.tape, hd.output, hd.size, hd.block⟩; have B3 := Aside0.mk (B2.out.trans (hk.mono B2.out.size)); have K3 := Aside0.mk (blk_below K2.out hk); have hc := fun i => blk_cell K3.out i; clear hd hk)
    | (go_at_call 54; ((with_reducible refine (HC3.out _).mono ?_)); rintro en x4 ⟨rfl, hd⟩; (try clear hc); have hk : Below x3.heap.size x3 x4 := ⟨hd.os, hd.tape, hd.output, hd.size, hd.block⟩; have B4 := Aside0.mk (B3.out.trans (hk.mono B3.out.size)); have K4 := Aside0.mk (blk_below K3.out hk); have hc := fun i => blk_cell K4.out i; clear hd hk))
  (try (go_quiet (fail); go_wp2_with (first | (go_at_call 74; ((with_reducible refine (HC0.out _).mono ?_)); rintro en x1 ⟨rfl, hd⟩; (try clear hc); have hk := hd.below; have B1 := Aside0.mk (B0.out.trans (hk.mono B0.out.size)); have K1 := Aside0.mk (blk_below K0.out hk); have hc := fun i => blk_cell K1.out i; clear hd hk) | (go_at_call 74; ((with_reducible refine (HC1.out _).mono ?_)); rintro en x2 ⟨rfl, hd⟩; (try clear hc); have hk : Below x1.heap.size x1 x2 := ⟨hd.below.os, hd.below.tape, hd.below.output, hd.below.size, hd.below.block⟩; have B2 := Aside0.mk (B1.out.trans (hk.mono B1.out.size)); have K2 := Aside0.mk (blk_below K1.out hk); have hc := fun i => blk_cell K2.out i; clear hd hk) | (go_at_call 54; ((with_reducible refine (HC2.out _).mono ?_)); rintro en x3 ⟨rfl, hd⟩; (try clear hc); have hk : Below x2.heap.size x2 x3 := ⟨hd.os, hd.tape, hd.output, hd.size, hd.block⟩; have B3 := Aside0.mk (B2.out.trans (hk.mono B2.out.size)); have K3 := Aside0.mk (blk_below K2.out hk); have hc := fun i => blk_cell K3.out i; clear hd hk) | (go_at_call 54; ((with_reducible refine (HC3.out _).mono ?_)); rintro en x4 ⟨rfl, hd⟩; (try clear hc); have hk : Below x3.heap.size x3 x4 := ⟨hd.os, hd.tape, hd.output, hd.size, hd.block⟩; have B4 := Aside0.mk (B3.out.trans (hk.mono B3.out.size)); have K4 := Aside0.mk (blk_below K3.out hk); have hc := fun i => blk_cell K4.out i; clear hd hk))))
  go_ret
  exact ⟨rfl, by first | exact B4.out | exact pw_below_drewN B4.out _ | exact B4.out.drew⟩
set_option maxRecDepth 100000 in
set_option maxHeartbeats 4000000 in
theorem rr_o_r (f0 f1 : Int) (f2 f3 f6 : ByteArray) (W : World) (z2 : f2.size ≤ 140737488351232) (z3 : f3.size ≤ 140737488351232) (z6 : f6.size ≤ 140737488351232) (h0 : 1 ≤ f0 ∧ f0 ≤ 7) (h1 : 1 ≤ f1 ∧ f1 ≤ 1099511627776) (n2 : nameL f2.data.toList 0 = true) (t5 : (f0 == 5) = false) (t6 : (f0 == 6) = false) (t7 : (f0 == 7) = false) (n3 : nameL f3.data.toList 0 = true) (m6a : f6.toList.isEmpty = false) (m6b : ¬ f6.toList = []) (m6c : (f6.toList == []) = false) :
    Calls Tryd.prog 36 #[.agg #[.int .i64 f0, .int .i64 f1, .string f2, .string f3, .int .i64 0, .int .i64 0, .string f6]] W (RtIs false W) := by
  have B0 : Aside0 (Below W.heap.size W (W.alloc (.cells #[.int .i64 f0, .int .i64 f1, .string f2, .string f3, .int .i64 0, .int .i64 0, .string f6] 54))) := ⟨(Below.refl _ _).alloc (Nat.le_refl _) _⟩
  have K0 := Aside0.mk (blk_new W (.cells #[.int .i64 f0, .int .i64 f1, .string f2, .string f3, .int .i64 0, .int .i64 0, .string f6] 54))
  have HC0 : Aside0 (∀ X, Calls Tryd.prog 74 #[.int .i64 f0, .int .i64 1, .int .i64 7] X fun e w' => e = .returned (.bool true) ∧ Drawn0 X w') := ⟨fun X => post_within.calls _ _ _ _ X (by rw [within_f, decide_eq_true (by omega)])⟩
  have HC1 : Aside0 (∀ X, Calls Tryd.prog 74 #[.int .i64 f1, .int .i64 1, .int .i64 1099511627776] X fun e w' => e = .returned (.bool true) ∧ Drawn0 X w') := ⟨fun X => post_within.calls _ _ _ _ X (by rw [within_f, decide_eq_true (by omega)])⟩
  have HC2 : Aside0 (∀ X, Calls Tryd.prog 54 #[.string f2] X fun e w' => e = .returned (.bool true) ∧ Below X.heap.size X w') := ⟨fun X => by have h := roster_Valid_walk f2 X (by omega); rw [n2] at h; exact h⟩
  have HC3 : Aside0 (∀ X, Calls Tryd.prog 54 #[.string f3] X fun e w' => e = .returned (.bool true) ∧ Below X.heap.size X w') := ⟨fun X => by have h := roster_Valid_walk f3 X (by omega); rw [n3] at h; exact h⟩
  clear h0 h1 n2 n3 z2 z3 z6
  go_enter Tryd.func36, Tryd.ntmps36
  go_wp2_with (first
    | (go_at_call 74; ((with_reducible refine (HC0.out _).mono ?_)); rintro en x1 ⟨rfl, hd⟩; (try clear hc); have hk := hd.below; have B1 := Aside0.mk (B0.out.trans (hk.mono B0.out.size)); have K1 := Aside0.mk (blk_below K0.out hk); have hc := fun i => blk_cell K1.out i; clear hd hk)
    | (go_at_call 74; ((with_reducible refine (HC1.out _).mono ?_)); rintro en x2 ⟨rfl, hd⟩; (try clear hc); have hk : Below x1.heap.size x1 x2 := ⟨hd.below.os, hd.below.tape, hd.below.output, hd.below.size, hd.below.block⟩; have B2 := Aside0.mk (B1.out.trans (hk.mono B1.out.size)); have K2 := Aside0.mk (blk_below K1.out hk); have hc := fun i => blk_cell K2.out i; clear hd hk)
    | (go_at_call 54; ((with_reducible refine (HC2.out _).mono ?_)); rintro en x3 ⟨rfl, hd⟩; (try clear hc); have hk : Below x2.heap.size x2 x3 := ⟨hd.os, hd.tape, hd.output, hd.size, hd.block⟩; have B3 := Aside0.mk (B2.out.trans (hk.mono B2.out.size)); have K3 := Aside0.mk (blk_below K2.out hk); have hc := fun i => blk_cell K3.out i; clear hd hk)
    | (go_at_call 54; ((with_reducible refine (HC3.out _).mono ?_)); rintro en x4 ⟨rfl, hd⟩; (try clear hc); have hk : Below x3.heap.size x3 x4 := ⟨hd.os, hd.tape, hd.output, hd.size, hd.block⟩; have B4 := Aside0.mk (B3.out.trans (hk.mono B3.out.size)); have K4 := Aside0.mk (blk_below K3.out hk); have hc := fun i => blk_cell K4.out i; clear hd hk))
  (try (go_quiet (fail); go_wp2_with (first | (go_at_call 74; ((with_reducible refine (HC0.out _).mono ?_)); rintro en x1 ⟨rfl, hd⟩; (try clear hc); have hk := hd.below; have B1 := Aside0.mk (B0.out.trans (hk.mono B0.out.size)); have K1 := Aside0.mk (blk_below K0.out hk); have hc := fun i => blk_cell K1.out i; clear hd hk) | (go_at_call 74; ((with_reducible refine (HC1.out _).mono ?_)); rintro en x2 ⟨rfl, hd⟩; (try clear hc); have hk : Below x1.heap.size x1 x2 := ⟨hd.below.os, hd.below.tape, hd.below.output, hd.below.size, hd.below.block⟩; have B2 := Aside0.mk (B1.out.trans (hk.mono B1.out.size)); have K2 := Aside0.mk (blk_below K1.out hk); have hc := fun i => blk_cell K2.out i; clear hd hk) | (go_at_call 54; ((with_reducible refine (HC2.out _).mono ?_)); rintro en x3 ⟨rfl, hd⟩; (try clear hc); have hk : Below x2.heap.size x2 x3 := ⟨hd.os, hd.tape, hd.output, hd.size, hd.block⟩; have B3 := Aside0.mk (B2.out.trans (hk.mono B2.out.size)); have K3 := Aside0.mk (blk_below K2.out hk); have hc := fun i => blk_cell K3.out i; clear hd hk) | (go_at_call 54; ((with_reducible refine (HC3.out _).mono ?_)); rintro en x4 ⟨rfl, hd⟩; (try clear hc); have hk : Below x3.heap.size x3 x4 := ⟨hd.os, hd.tape, hd.output, hd.size, hd.block⟩; have B4 := Aside0.mk (B3.out.trans (hk.mono B3.out.size)); have K4 := Aside0.mk (blk_below K3.out hk); have hc := fun i => blk_cell K4.out i; clear hd hk))))
  go_ret
  exact ⟨rfl, by first | exact B4.out | exact pw_below_drewN B4.out _ | exact B4.out.drew⟩
set_option maxRecDepth 100000 in
set_option maxHeartbeats 4000000 in
theorem rr_o_t (f0 f1 : Int) (f2 f3 : ByteArray) (W : World) (z2 : f2.size ≤ 140737488351232) (z3 : f3.size ≤ 140737488351232) (h0 : 1 ≤ f0 ∧ f0 ≤ 7) (h1 : 1 ≤ f1 ∧ f1 ≤ 1099511627776) (n2 : nameL f2.data.toList 0 = true) (t5 : (f0 == 5) = false) (t6 : (f0 == 6) = false) (t7 : (f0 == 7) = false) (n3 : nameL f3.data.toList 0 = true) :
    Calls Tryd.prog 36 #[.agg #[.int .i64 f0, .int .i64 f1, .string f2, .string f3, .int .i64 0, .int .i64 0, .string ⟨#[]⟩]] W (RtIs true W) := by
  have B0 : Aside0 (Below W.heap.size W (W.alloc (.cells #[.int .i64 f0, .int .i64 f1, .string f2, .string f3, .int .i64 0, .int .i64 0, .string ⟨#[]⟩] 54))) := ⟨(Below.refl _ _).alloc (Nat.le_refl _) _⟩
  have K0 := Aside0.mk (blk_new W (.cells #[.int .i64 f0, .int .i64 f1, .string f2, .string f3, .int .i64 0, .int .i64 0, .string ⟨#[]⟩] 54))
  have HC0 : Aside0 (∀ X, Calls Tryd.prog 74 #[.int .i64 f0, .int .i64 1, .int .i64 7] X fun e w' => e = .returned (.bool true) ∧ Drawn0 X w') := ⟨fun X => post_within.calls _ _ _ _ X (by rw [within_f, decide_eq_true (by omega)])⟩
  have HC1 : Aside0 (∀ X, Calls Tryd.prog 74 #[.int .i64 f1, .int .i64 1, .int .i64 1099511627776] X fun e w' => e = .returned (.bool true) ∧ Drawn0 X w') := ⟨fun X => post_within.calls _ _ _ _ X (by rw [within_f, decide_eq_true (by omega)])⟩
  have HC2 : Aside0 (∀ X, Calls Tryd.prog 54 #[.string f2] X fun e w' => e = .returned (.bool true) ∧ Below X.heap.size X w') := ⟨fun X => by have h := roster_Valid_walk f2 X (by omega); rw [n2] at h; exact h⟩
  have HC3 : Aside0 (∀ X, Calls Tryd.prog 54 #[.string f3] X fun e w' => e = .returned (.bool true) ∧ Below X.heap.size X w') := ⟨fun X => by have h := roster_Valid_walk f3 X (by omega); rw [n3] at h; exact h⟩
  clear h0 h1 n2 n3 z2 z3
  go_enter Tryd.func36, Tryd.ntmps36
  go_wp2_with (first
    | (go_at_call 74; ((with_reducible refine (HC0.out _).mono ?_)); rintro en x1 ⟨rfl, hd⟩; (try clear hc); have hk := hd.below; have B1 := Aside0.mk (B0.out.trans (hk.mono B0.out.size)); have K1 := Aside0.mk (blk_below K0.out hk); have hc := fun i => blk_cell K1.out i; clear hd hk)
    | (go_at_call 74; ((with_reducible refine (HC1.out _).mono ?_)); rintro en x2 ⟨rfl, hd⟩; (try clear hc); have hk : Below x1.heap.size x1 x2 := ⟨hd.below.os, hd.below.tape, hd.below.output, hd.below.size, hd.below.block⟩; have B2 := Aside0.mk (B1.out.trans (hk.mono B1.out.size)); have K2 := Aside0.mk (blk_below K1.out hk); have hc := fun i => blk_cell K2.out i; clear hd hk)
    | (go_at_call 54; ((with_reducible refine (HC2.out _).mono ?_)); rintro en x3 ⟨rfl, hd⟩; (try clear hc); have hk : Below x2.heap.size x2 x3 := ⟨hd.os, hd.tape, hd.output, hd.size, hd.block⟩; have B3 := Aside0.mk (B2.out.trans (hk.mono B2.out.size)); have K3 := Aside0.mk (blk_below K2.out hk); have hc := fun i => blk_cell K3.out i; clear hd hk)
    | (go_at_call 54; ((with_reducible refine (HC3.out _).mono ?_)); rintro en x4 ⟨rfl, hd⟩; (try clear hc); have hk : Below x3.heap.size x3 x4 := ⟨hd.os, hd.tape, hd.output, hd.size, hd.block⟩; have B4 := Aside0.mk (B3.out.trans (hk.mono B3.out.size)); have K4 := Aside0.mk (blk_below K3.out hk); have hc := fun i => blk_cell K4.out i; clear hd hk))
  (try (go_quiet (fail); go_wp2_with (first | (go_at_call 74; ((with_reducible refine (HC0.out _).mono ?_)); rintro en x1 ⟨rfl, hd⟩; (try clear hc); have hk := hd.below; have B1 := Aside0.mk (B0.out.trans (hk.mono B0.out.size)); have K1 := Aside0.mk (blk_below K0.out hk); have hc := fun i => blk_cell K1.out i; clear hd hk) | (go_at_call 74; ((with_reducible refine (HC1.out _).mono ?_)); rintro en x2 ⟨rfl, hd⟩; (try clear hc); have hk : Below x1.heap.size x1 x2 := ⟨hd.below.os, hd.below.tape, hd.below.output, hd.below.size, hd.below.block⟩; have B2 := Aside0.mk (B1.out.trans (hk.mono B1.out.size)); have K2 := Aside0.mk (blk_below K1.out hk); have hc := fun i => blk_cell K2.out i; clear hd hk) | (go_at_call 54; ((with_reducible refine (HC2.out _).mono ?_)); rintro en x3 ⟨rfl, hd⟩; (try clear hc); have hk : Below x2.heap.size x2 x3 := ⟨hd.os, hd.tape, hd.output, hd.size, hd.block⟩; have B3 := Aside0.mk (B2.out.trans (hk.mono B2.out.size)); have K3 := Aside0.mk (blk_below K2.out hk); have hc := fun i => blk_cell K3.out i; clear hd hk) | (go_at_call 54; ((with_reducible refine (HC3.out _).mono ?_)); rintro en x4 ⟨rfl, hd⟩; (try clear hc); have hk : Below x3.heap.size x3 x4 := ⟨hd.os, hd.tape, hd.output, hd.size, hd.block⟩; have B4 := Aside0.mk (B3.out.trans (hk.mono B3.out.size)); have K4 := Aside0.mk (blk_below K3.out hk); have hc := fun i => blk_cell K4.out i; clear hd hk))))
  go_ret
  exact ⟨rfl, by first | exact B4.out | exact pw_below_drewN B4.out _ | exact B4.out.drew⟩
theorem ne_forms {s : ByteArray} (h : ¬ s = ⟨#[]⟩) : s.toList.isEmpty = false ∧ ¬ s.toList = [] ∧ (s.toList == []) = false := by
  have h1 : ¬ s.toList = [] := fun e => h ((empty_iff s).1 e)
  refine ⟨?_, h1, by rw [beq_eq_false_iff_ne]; exact h1⟩
  cases hs : s.toList with
  | nil => exact absurd hs h1
  | cons _ _ => rfl
theorem rightP_calls (a : RepV) (W : World) (hz : a.f2.size ≤ 140737488351232 ∧ a.f3.size ≤ 140737488351232 ∧ a.f6.size ≤ 140737488351232) : Calls Tryd.prog 36 #[.agg #[.int .i64 a.f0, .int .i64 a.f1, .string a.f2, .string a.f3, .int .i64 a.f4, .int .i64 a.f5, .string a.f6]] W (RtIs (rightP a) W) := by
  obtain ⟨f0, f1, f2, f3, f4, f5, f6⟩ := a
  simp only at hz
  by_cases h0 : 1 ≤ f0 ∧ f0 ≤ 7
  case neg =>
    rw [show rightP ⟨f0, f1, f2, f3, f4, f5, f6⟩ = false by unfold rightP; simp only [decide_eq_false h0]; rfl]
    exact rr_a f0 f1 f4 f5 f2 f3 f6 W hz.1 hz.2.1 hz.2.2 h0
  by_cases h1 : 1 ≤ f1 ∧ f1 ≤ 1099511627776
  case neg =>
    rw [show rightP ⟨f0, f1, f2, f3, f4, f5, f6⟩ = false by unfold rightP; simp only [decide_eq_true h0, decide_eq_false h1]; rfl]
    exact rr_b f0 f1 f4 f5 f2 f3 f6 W hz.1 hz.2.1 hz.2.2 h0 h1
  cases n2 : nameL f2.data.toList 0 with
  | false =>
    rw [show rightP ⟨f0, f1, f2, f3, f4, f5, f6⟩ = false by unfold rightP; simp only [decide_eq_true h0, decide_eq_true h1, n2]; rfl]
    exact rr_c f0 f1 f4 f5 f2 f3 f6 W hz.1 hz.2.1 hz.2.2 h0 h1 n2
  | true =>
    have hr : rightP ⟨f0, f1, f2, f3, f4, f5, f6⟩ = ((if f0 = 7 then decide (f3 = ⟨#[]⟩) else nameL f3.data.toList 0) && ((if f0 = 5 then decide (1 ≤ f4 ∧ f4 ≤ 1099511627776) && decide (1 ≤ f5 ∧ f5 ≤ 1099511627776) else decide (f4 = 0) && decide (f5 = 0)) && (if f0 = 6 then nameL f6.data.toList 0 else decide (f6 = ⟨#[]⟩)))) := by
      unfold rightP
      simp only [decide_eq_true h0, decide_eq_true h1, n2, Bool.true_and]
    rw [hr]
    clear hr
    by_cases c7 : f0 = 7
    · subst c7
      rw [if_pos rfl, if_neg (by decide), if_neg (by decide)]
      by_cases e3 : f3 = ⟨#[]⟩
      case neg =>
        obtain ⟨ma, mb, mc⟩ := ne_forms e3
        rw [decide_eq_false e3, Bool.false_and]
        exact rr_7_x f1 f4 f5 f2 f3 f6 W hz.1 hz.2.1 hz.2.2 h1 n2 ma mb mc
      subst e3
      by_cases c4 : f4 = 0
      case neg =>
        rw [decide_eq_false c4]
        exact rr_7_4 f1 f4 f5 f2 f6 W hz.1 hz.2.2 h1 n2 (by rw [bne_iff_ne]; exact c4)
      subst c4
      by_cases c5 : f5 = 0
      case neg =>
        rw [decide_eq_false c5]
        exact rr_7_5 f1 f5 f2 f6 W hz.1 hz.2.2 h1 n2 (by rw [bne_iff_ne]; exact c5)
      subst c5
      by_cases e6 : f6 = ⟨#[]⟩
      case neg =>
        obtain ⟨ma, mb, mc⟩ := ne_forms e6
        rw [decide_eq_false e6]
        exact rr_7_r f1 f2 f6 W hz.1 hz.2.2 h1 n2 ma mb mc
      subst e6
      exact rr_7_t f1 f2 W hz.1 h1 n2
    rw [if_neg c7]
    cases n3 : nameL f3.data.toList 0 with
    | false =>
      rw [Bool.false_and]
      by_cases c5 : f0 = 5
      · subst c5; exact rr_5_x f1 f4 f5 f2 f3 f6 W hz.1 hz.2.1 hz.2.2 h1 n2 n3
      by_cases c6 : f0 = 6
      · subst c6; exact rr_6_x f1 f4 f5 f2 f3 f6 W hz.1 hz.2.1 hz.2.2 h1 n2 n3
      · exact rr_o_x f0 f1 f4 f5 f2 f3 f6 W hz.1 hz.2.1 hz.2.2 h0 h1 n2 (by simpa using c5) (by simpa using c6) (by simpa using c7) n3
    | true =>
      rw [Bool.true_and]
      by_cases c5 : f0 = 5
      · subst c5
        rw [if_pos rfl, if_neg (by decide)]
        by_cases h4 : 1 ≤ f4 ∧ f4 ≤ 1099511627776
        case neg => rw [decide_eq_false h4]; exact rr_5_4 f1 f4 f5 f2 f3 f6 W hz.1 hz.2.1 hz.2.2 h1 n2 n3 h4
        by_cases h5 : 1 ≤ f5 ∧ f5 ≤ 1099511627776
        case neg => rw [decide_eq_true h4, decide_eq_false h5]; exact rr_5_5 f1 f4 f5 f2 f3 f6 W hz.1 hz.2.1 hz.2.2 h1 n2 n3 h4 h5
        rw [decide_eq_true h4, decide_eq_true h5]
        by_cases e6 : f6 = ⟨#[]⟩
        case neg =>
          obtain ⟨ma, mb, mc⟩ := ne_forms e6
          rw [decide_eq_false e6]
          exact rr_5_r f1 f4 f5 f2 f3 f6 W hz.1 hz.2.1 hz.2.2 h1 n2 n3 h4 h5 ma mb mc
        subst e6
        exact rr_5_t f1 f4 f5 f2 f3 W hz.1 hz.2.1 h1 n2 n3 h4 h5
      rw [if_neg c5]
      by_cases c6 : f0 = 6
      · subst c6
        rw [if_pos rfl]
        by_cases c4 : f4 = 0
        case neg => rw [decide_eq_false c4]; exact rr_6_4 f1 f4 f5 f2 f3 f6 W hz.1 hz.2.1 hz.2.2 h1 n2 n3 (by rw [bne_iff_ne]; exact c4)
        subst c4
        by_cases c5 : f5 = 0
        case neg => rw [decide_eq_false c5]; exact rr_6_5 f1 f5 f2 f3 f6 W hz.1 hz.2.1 hz.2.2 h1 n2 n3 (by rw [bne_iff_ne]; exact c5)
        subst c5
        exact rr_6_n f1 f2 f3 f6 W hz.1 hz.2.1 hz.2.2 h1 n2 n3
      rw [if_neg c6]
      have t5 : (f0 == 5) = false := by simpa using c5
      have t6 : (f0 == 6) = false := by simpa using c6
      have t7 : (f0 == 7) = false := by simpa using c7
      by_cases c4 : f4 = 0
      case neg => rw [decide_eq_false c4]; exact rr_o_4 f0 f1 f4 f5 f2 f3 f6 W hz.1 hz.2.1 hz.2.2 h0 h1 n2 t5 t6 t7 n3 (by rw [bne_iff_ne]; exact c4)
      subst c4
      by_cases c5 : f5 = 0
      case neg => rw [decide_eq_false c5]; exact rr_o_5 f0 f1 f5 f2 f3 f6 W hz.1 hz.2.1 hz.2.2 h0 h1 n2 t5 t6 t7 n3 (by rw [bne_iff_ne]; exact c5)
      subst c5
      by_cases e6 : f6 = ⟨#[]⟩
      case neg =>
        obtain ⟨ma, mb, mc⟩ := ne_forms e6
        rw [decide_eq_false e6]
        exact rr_o_r f0 f1 f2 f3 f6 W hz.1 hz.2.1 hz.2.2 h0 h1 n2 t5 t6 t7 n3 ma mb mc
      subst e6
      exact rr_o_t f0 f1 f2 f3 W hz.1 hz.2.1 h0 h1 n2 t5 t6 t7 n3
def post_RightReply.f (a0_0 a0_1 : Int) (a0_2 a0_3 : ByteArray) (a0_4 a0_5 : Int) (a0_6 : ByteArray) : Option Bool := if a0_2.size ≤ 140737488351232 ∧ a0_3.size ≤ 140737488351232 ∧ a0_6.size ≤ 140737488351232 then some (rightP ⟨a0_0, a0_1, a0_2, a0_3, a0_4, a0_5, a0_6⟩) else none
theorem post_RightReply.calls (a0_0 a0_1 : Int) (a0_2 a0_3 : ByteArray) (a0_4 a0_5 : Int) (a0_6 : ByteArray) (r : Bool) (w : World) (h : post_RightReply.f a0_0 a0_1 a0_2 a0_3 a0_4 a0_5 a0_6 = some r) :
    Calls Tryd.prog 36 #[.agg #[.int .i64 a0_0, .int .i64 a0_1, .string a0_2, .string a0_3, .int .i64 a0_4, .int .i64 a0_5, .string a0_6]] w fun e w' => e = .returned (.bool r) ∧ Below w.heap.size w w' := by
  unfold post_RightReply.f at h
  by_cases c : a0_2.size ≤ 140737488351232 ∧ a0_3.size ≤ 140737488351232 ∧ a0_6.size ≤ 140737488351232
  · rw [if_pos c] at h
    obtain rfl := Option.some.inj h
    exact rightP_calls ⟨a0_0, a0_1, a0_2, a0_3, a0_4, a0_5, a0_6⟩ w c
  · rw [if_neg c] at h; cases h
end Go.Proofs.YtgfigkfcmkdjdaaDoor.B
end
