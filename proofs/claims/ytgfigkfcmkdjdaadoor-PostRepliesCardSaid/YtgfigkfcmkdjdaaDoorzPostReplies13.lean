/- The functions that the law reaches, as plain Lean functions, and their contracts: texts merged. -/
import Derived.Laws.StructEq
import Derived.Test.YtgfigkfcmkdjdaaDoorzPostReplies3
import Derived.Test.YtgfigkfcmkdjdaaDoorzPostReplies0
import Derived.Test.YtgfigkfcmkdjdaaDoorzPostReplies1
import Derived.Test.YtgfigkfcmkdjdaaDoorzPostReplies2
import Derived.Test.YtgfigkfcmkdjdaaDoorzPostReplies4
import Derived.Test.YtgfigkfcmkdjdaaDoorzPostReplies5
import Derived.Test.YtgfigkfcmkdjdaaDoorzPostReplies6
import Derived.Test.YtgfigkfcmkdjdaaDoorzPostReplies7
import Derived.Test.YtgfigkfcmkdjdaaDoorzPostReplies8
import Derived.Test.YtgfigkfcmkdjdaaDoorzPostReplies9
import Derived.Test.YtgfigkfcmkdjdaaDoorzPostReplies10
import Derived.Test.YtgfigkfcmkdjdaaDoorzPostReplies11
import Derived.Test.YtgfigkfcmkdjdaaDoorzPostReplies12
section
namespace Go.Proofs.YtgfigkfcmkdjdaaDoor.B
open Go.RowKit Go.Proofs.YtgfigkfcmkdjdaaDoorW.PrintWords Go.Proofs.YtgfigkfcmkdjdaaDoorW.PrintLast Go.Proofs.YtgfigkfcmkdjdaaDoorW.PrintMore
attribute [local go_sem] max2_int min2_int max_two min_two max_three min_three max_four min_four   -- for this text's walks alone
set_option linter.unusedVariables false
set_option linter.unusedSimpArgs false
def post_replyWord.f (a0 : Int) : Option (ByteArray) := if a0 = 1 then (some (⟨#[48]⟩ : ByteArray)) else (if a0 = 2 then (some (⟨#[52]⟩ : ByteArray)) else (if a0 = 3 then (some (⟨#[53]⟩ : ByteArray)) else (if a0 = 4 then (some (⟨#[56]⟩ : ByteArray)) else (if a0 = 5 then (some (⟨#[70]⟩ : ByteArray)) else (if a0 = 6 then (some (⟨#[72]⟩ : ByteArray)) else (some (⟨#[]⟩ : ByteArray)))))))
set_option maxHeartbeats 8000000 in
set_option maxRecDepth 100000 in
theorem post_replyWord.calls (a0 : Int) (r : ByteArray) (w : World) (h : post_replyWord.f a0 = some r) :
    Calls Tryd.prog 85 #[.int .i64 a0] w fun e w' => e = .returned (.string r) ∧ Drawn0 w w' := by
  have H : (if a0 = 1 then (some (⟨#[48]⟩ : ByteArray)) else (if a0 = 2 then (some (⟨#[52]⟩ : ByteArray)) else (if a0 = 3 then (some (⟨#[53]⟩ : ByteArray)) else (if a0 = 4 then (some (⟨#[56]⟩ : ByteArray)) else (if a0 = 5 then (some (⟨#[70]⟩ : ByteArray)) else (if a0 = 6 then (some (⟨#[72]⟩ : ByteArray)) else (some (⟨#[]⟩ : ByteArray)))))))) = some r := h
  clear h
  by_cases c2 : a0 = 1
  · rw [if_pos c2] at H
    have c2b0 : (a0 == 1) = true := beq_iff_eq.mpr c2
    have c2b1 : (a0 != 1) = false := bne_eq_false_iff_eq.mpr c2
    clear c2
    obtain rfl := Option.some.inj H
    go_enter Tryd.func85, Tryd.ntmps85
    go_wp2
    go_ret
    exact ⟨by first | rfl | (simp; done) | (simp [*]; done), by repeat (first | exact Drawn0.refl _ | apply Drawn0.step)⟩
  · rw [if_neg c2] at H
    have c2b0 : (a0 == 1) = false := beq_eq_false_iff_ne.mpr c2
    have c2b1 : (a0 != 1) = true := bne_iff_ne.mpr c2
    by_cases c3 : a0 = 2
    · rw [if_pos c3] at H
      have c3b0 : (a0 == 2) = true := beq_iff_eq.mpr c3
      have c3b1 : (a0 != 2) = false := bne_eq_false_iff_eq.mpr c3
      clear c3
      obtain rfl := Option.some.inj H
      go_enter Tryd.func85, Tryd.ntmps85
      go_wp2
      go_ret
      exact ⟨by first | rfl | (simp; done) | (simp [*]; done), by repeat (first | exact Drawn0.refl _ | apply Drawn0.step)⟩
    · rw [if_neg c3] at H
      have c3b0 : (a0 == 2) = false := beq_eq_false_iff_ne.mpr c3
      have c3b1 : (a0 != 2) = true := bne_iff_ne.mpr c3
      by_cases c4 : a0 = 3
      · rw [if_pos c4] at H
        have c4b0 : (a0 == 3) = true := beq_iff_eq.mpr c4
        have c4b1 : (a0 != 3) = false := bne_eq_false_iff_eq.mpr c4
        clear c4
        obtain rfl := Option.some.inj H
        go_enter Tryd.func85, Tryd.ntmps85
        go_wp2
        go_ret
        exact ⟨by first | rfl | (simp; done) | (simp [*]; done), by repeat (first | exact Drawn0.refl _ | apply Drawn0.step)⟩
      · rw [if_neg c4] at H
        have c4b0 : (a0 == 3) = false := beq_eq_false_iff_ne.mpr c4
        have c4b1 : (a0 != 3) = true := bne_iff_ne.mpr c4
        by_cases c5 : a0 = 4
        · rw [if_pos c5] at H
          have c5b0 : (a0 == 4) = true := beq_iff_eq.mpr c5
          have c5b1 : (a0 != 4) = false := bne_eq_false_iff_eq.mpr c5
          clear c5
          obtain rfl := Option.some.inj H
          go_enter Tryd.func85, Tryd.ntmps85
          go_wp2
          go_ret
          exact ⟨by first | rfl | (simp; done) | (simp [*]; done), by repeat (first | exact Drawn0.refl _ | apply Drawn0.step)⟩
        · rw [if_neg c5] at H
          have c5b0 : (a0 == 4) = false := beq_eq_false_iff_ne.mpr c5
          have c5b1 : (a0 != 4) = true := bne_iff_ne.mpr c5
          by_cases c6 : a0 = 5
          · rw [if_pos c6] at H
            have c6b0 : (a0 == 5) = true := beq_iff_eq.mpr c6
            have c6b1 : (a0 != 5) = false := bne_eq_false_iff_eq.mpr c6
            clear c6
            obtain rfl := Option.some.inj H
            go_enter Tryd.func85, Tryd.ntmps85
            go_wp2
            go_ret
            exact ⟨by first | rfl | (simp; done) | (simp [*]; done), by repeat (first | exact Drawn0.refl _ | apply Drawn0.step)⟩
          · rw [if_neg c6] at H
            have c6b0 : (a0 == 5) = false := beq_eq_false_iff_ne.mpr c6
            have c6b1 : (a0 != 5) = true := bne_iff_ne.mpr c6
            by_cases c7 : a0 = 6
            · rw [if_pos c7] at H
              have c7b0 : (a0 == 6) = true := beq_iff_eq.mpr c7
              have c7b1 : (a0 != 6) = false := bne_eq_false_iff_eq.mpr c7
              clear c7
              obtain rfl := Option.some.inj H
              go_enter Tryd.func85, Tryd.ntmps85
              go_wp2
              go_ret
              exact ⟨by first | rfl | (simp; done) | (simp [*]; done), by repeat (first | exact Drawn0.refl _ | apply Drawn0.step)⟩
            · rw [if_neg c7] at H
              have c7b0 : (a0 == 6) = false := beq_eq_false_iff_ne.mpr c7
              have c7b1 : (a0 != 6) = true := bne_iff_ne.mpr c7
              obtain rfl := Option.some.inj H
              go_enter Tryd.func85, Tryd.ntmps85
              go_wp2
              go_ret
              exact ⟨by first | rfl | (simp; done) | (simp [*]; done), by repeat (first | exact Drawn0.refl _ | apply Drawn0.step)⟩
end Go.Proofs.YtgfigkfcmkdjdaaDoor.B
end
section
namespace Go.Proofs.YtgfigkfcmkdjdaaDoor.B
open Go.RowKit Go.Proofs.YtgfigkfcmkdjdaaDoorW.PrintWords Go.Proofs.YtgfigkfcmkdjdaaDoorW.PrintLast Go.Proofs.YtgfigkfcmkdjdaaDoorW.PrintMore
attribute [local go_sem] max2_int min2_int max_two min_two max_three min_three max_four min_four   -- for this text's walks alone
set_option linter.unusedVariables false
set_option linter.unusedSimpArgs false
def repW (k : Int) : ByteArray := if k = 1 then ⟨#[48]⟩ else if k = 2 then ⟨#[52]⟩ else if k = 3 then ⟨#[53]⟩ else if k = 4 then ⟨#[56]⟩ else if k = 5 then ⟨#[70]⟩ else ⟨#[72]⟩
def repF (a : RepV) : List S78 :=
  if a.f0 = 7 then [⟨35, ⟨#[57]⟩⟩, ⟨34, digitsB a.f1⟩, ⟨11, a.f2⟩] else
  [⟨35, ⟨#[56]⟩⟩, ⟨34, digitsB a.f1⟩, ⟨11, a.f2⟩, ⟨17, a.f3⟩, ⟨150, repW a.f0⟩] ++ (if a.f0 = 5 then [⟨32, digitsB a.f4⟩, ⟨31, digitsB a.f5⟩] else []) ++ (if a.f0 = 6 then [⟨19, a.f6⟩] else [])
set_option maxRecDepth 100000 in
set_option maxHeartbeats 4000000 in
theorem fill_reply_1 (N g : Nat) (q z p : Int) (i x r : ByteArray) (W : World) (h : SheetIs (fun k => N ≤ k) g [] W) (hTN : ∀ X, Turned (fun k => N ≤ k) W X → Tabs_ X) (hq : 0 ≤ q ∧ q ≤ 9223372036854775807) :
    Calls Tryd.prog 84 #[.pointer (some ⟨g, 0, none⟩), .agg #[.int .i64 1, .int .i64 q, .string i, .string x, .int .i64 z, .int .i64 p, .string r]] W (SheetTo (fun k => N ≤ k) g (repF ⟨1, q, i, x, z, p, r⟩) W) := by
  have H0 := Aside0.mk (FillAt.start h #[.int .i64 1, .int .i64 q, .string i, .string x, .int .i64 z, .int .i64 p, .string r] 54)
  have HT := Aside0.mk hTN
  have HLt := Aside0.mk h.lt
  have HNg : Aside0 (N ≤ g) := ⟨h.sg⟩
  have HW : Aside0 (∀ X, Calls Tryd.prog 85 #[.int .i64 1] X fun e w' => e = .returned (.string ⟨#[48]⟩) ∧ Drawn0 X w') := ⟨fun X => post_replyWord.calls _ _ X rfl⟩
  have HNq := Aside0.mk hq
  clear h hTN hq
  go_enter Tryd.func84, Tryd.ntmps84
  go_wp2_with (first
    | (go_at_call 85; ((with_reducible refine (HW.out _).mono ?_)); rintro en w1 ⟨rfl, hd⟩; have H1 := Aside0.mk (H0.out.below hd.below); have hc := fun i => blk_cell H1.out.box i; clear hd)
    | (go_at_call 70; ((with_reducible refine (H1.out.text 35 ⟨#[56]⟩ (by simp)).mono ?_)); rintro en w2 ⟨rfl, h⟩; have H2 := Aside0.mk h; clear h hc; have hc := fun i => blk_cell H2.out.box i)
    | (go_at_call 72; ((with_reducible refine (H2.out.number ⟨HT.out _ H2.out.low⟩ 34 q (by simp) HNq.out).mono ?_)); rintro en w3 ⟨rfl, h⟩; have H3 := Aside0.mk h; clear h hc; have hc := fun i => blk_cell H3.out.box i)
    | (go_at_call 70; ((with_reducible refine (H3.out.text 11 i (by simp)).mono ?_)); rintro en w4 ⟨rfl, h⟩; have H4 := Aside0.mk h; clear h hc; have hc := fun i => blk_cell H4.out.box i)
    | (go_at_call 70; ((with_reducible refine (H4.out.text 17 x (by simp)).mono ?_)); rintro en w5 ⟨rfl, h⟩; have H5 := Aside0.mk h; clear h hc; have hc := fun i => blk_cell H5.out.box i)
    | (go_at_call 70; ((with_reducible refine (H5.out.text 150 ⟨#[48]⟩ (by simp)).mono ?_)); rintro en w6 ⟨rfl, h⟩; have H6 := Aside0.mk h; clear h hc; have hc := fun i => blk_cell H6.out.box i))
  go_end0
  exact H6.out.end_ HLt.out HNg.out (by have := HLt.out; have := HNg.out; omega) rfl
set_option maxRecDepth 100000 in
set_option maxHeartbeats 4000000 in
theorem fill_reply_2 (N g : Nat) (q z p : Int) (i x r : ByteArray) (W : World) (h : SheetIs (fun k => N ≤ k) g [] W) (hTN : ∀ X, Turned (fun k => N ≤ k) W X → Tabs_ X) (hq : 0 ≤ q ∧ q ≤ 9223372036854775807) :
    Calls Tryd.prog 84 #[.pointer (some ⟨g, 0, none⟩), .agg #[.int .i64 2, .int .i64 q, .string i, .string x, .int .i64 z, .int .i64 p, .string r]] W (SheetTo (fun k => N ≤ k) g (repF ⟨2, q, i, x, z, p, r⟩) W) := by
  have H0 := Aside0.mk (FillAt.start h #[.int .i64 2, .int .i64 q, .string i, .string x, .int .i64 z, .int .i64 p, .string r] 54)
  have HT := Aside0.mk hTN
  have HLt := Aside0.mk h.lt
  have HNg : Aside0 (N ≤ g) := ⟨h.sg⟩
  have HW : Aside0 (∀ X, Calls Tryd.prog 85 #[.int .i64 2] X fun e w' => e = .returned (.string ⟨#[52]⟩) ∧ Drawn0 X w') := ⟨fun X => post_replyWord.calls _ _ X rfl⟩
  have HNq := Aside0.mk hq
  clear h hTN hq
  go_enter Tryd.func84, Tryd.ntmps84
  go_wp2_with (first
    | (go_at_call 85; ((with_reducible refine (HW.out _).mono ?_)); rintro en w1 ⟨rfl, hd⟩; have H1 := Aside0.mk (H0.out.below hd.below); have hc := fun i => blk_cell H1.out.box i; clear hd)
    | (go_at_call 70; ((with_reducible refine (H1.out.text 35 ⟨#[56]⟩ (by simp)).mono ?_)); rintro en w2 ⟨rfl, h⟩; have H2 := Aside0.mk h; clear h hc; have hc := fun i => blk_cell H2.out.box i)
    | (go_at_call 72; ((with_reducible refine (H2.out.number ⟨HT.out _ H2.out.low⟩ 34 q (by simp) HNq.out).mono ?_)); rintro en w3 ⟨rfl, h⟩; have H3 := Aside0.mk h; clear h hc; have hc := fun i => blk_cell H3.out.box i)
    | (go_at_call 70; ((with_reducible refine (H3.out.text 11 i (by simp)).mono ?_)); rintro en w4 ⟨rfl, h⟩; have H4 := Aside0.mk h; clear h hc; have hc := fun i => blk_cell H4.out.box i)
    | (go_at_call 70; ((with_reducible refine (H4.out.text 17 x (by simp)).mono ?_)); rintro en w5 ⟨rfl, h⟩; have H5 := Aside0.mk h; clear h hc; have hc := fun i => blk_cell H5.out.box i)
    | (go_at_call 70; ((with_reducible refine (H5.out.text 150 ⟨#[52]⟩ (by simp)).mono ?_)); rintro en w6 ⟨rfl, h⟩; have H6 := Aside0.mk h; clear h hc; have hc := fun i => blk_cell H6.out.box i))
  go_end0
  exact H6.out.end_ HLt.out HNg.out (by have := HLt.out; have := HNg.out; omega) rfl
set_option maxRecDepth 100000 in
set_option maxHeartbeats 4000000 in
theorem fill_reply_3 (N g : Nat) (q z p : Int) (i x r : ByteArray) (W : World) (h : SheetIs (fun k => N ≤ k) g [] W) (hTN : ∀ X, Turned (fun k => N ≤ k) W X → Tabs_ X) (hq : 0 ≤ q ∧ q ≤ 9223372036854775807) :
    Calls Tryd.prog 84 #[.pointer (some ⟨g, 0, none⟩), .agg #[.int .i64 3, .int .i64 q, .string i, .string x, .int .i64 z, .int .i64 p, .string r]] W (SheetTo (fun k => N ≤ k) g (repF ⟨3, q, i, x, z, p, r⟩) W) := by
  have H0 := Aside0.mk (FillAt.start h #[.int .i64 3, .int .i64 q, .string i, .string x, .int .i64 z, .int .i64 p, .string r] 54)
  have HT := Aside0.mk hTN
  have HLt := Aside0.mk h.lt
  have HNg : Aside0 (N ≤ g) := ⟨h.sg⟩
  have HW : Aside0 (∀ X, Calls Tryd.prog 85 #[.int .i64 3] X fun e w' => e = .returned (.string ⟨#[53]⟩) ∧ Drawn0 X w') := ⟨fun X => post_replyWord.calls _ _ X rfl⟩
  have HNq := Aside0.mk hq
  clear h hTN hq
  go_enter Tryd.func84, Tryd.ntmps84
  go_wp2_with (first
    | (go_at_call 85; ((with_reducible refine (HW.out _).mono ?_)); rintro en w1 ⟨rfl, hd⟩; have H1 := Aside0.mk (H0.out.below hd.below); have hc := fun i => blk_cell H1.out.box i; clear hd)
    | (go_at_call 70; ((with_reducible refine (H1.out.text 35 ⟨#[56]⟩ (by simp)).mono ?_)); rintro en w2 ⟨rfl, h⟩; have H2 := Aside0.mk h; clear h hc; have hc := fun i => blk_cell H2.out.box i)
    | (go_at_call 72; ((with_reducible refine (H2.out.number ⟨HT.out _ H2.out.low⟩ 34 q (by simp) HNq.out).mono ?_)); rintro en w3 ⟨rfl, h⟩; have H3 := Aside0.mk h; clear h hc; have hc := fun i => blk_cell H3.out.box i)
    | (go_at_call 70; ((with_reducible refine (H3.out.text 11 i (by simp)).mono ?_)); rintro en w4 ⟨rfl, h⟩; have H4 := Aside0.mk h; clear h hc; have hc := fun i => blk_cell H4.out.box i)
    | (go_at_call 70; ((with_reducible refine (H4.out.text 17 x (by simp)).mono ?_)); rintro en w5 ⟨rfl, h⟩; have H5 := Aside0.mk h; clear h hc; have hc := fun i => blk_cell H5.out.box i)
    | (go_at_call 70; ((with_reducible refine (H5.out.text 150 ⟨#[53]⟩ (by simp)).mono ?_)); rintro en w6 ⟨rfl, h⟩; have H6 := Aside0.mk h; clear h hc; have hc := fun i => blk_cell H6.out.box i))
  go_end0
  exact H6.out.end_ HLt.out HNg.out (by have := HLt.out; have := HNg.out; omega) rfl
set_option maxRecDepth 100000 in
set_option maxHeartbeats 4000000 in
theorem fill_reply_4 (N g : Nat) (q z p : Int) (i x r : ByteArray) (W : World) (h : SheetIs (fun k => N ≤ k) g [] W) (hTN : ∀ X, Turned (fun k => N ≤ k) W X → Tabs_ X) (hq : 0 ≤ q ∧ q ≤ 9223372036854775807) :
    Calls Tryd.prog 84 #[.pointer (some ⟨g, 0, none⟩), .agg #[.int .i64 4, .int .i64 q, .string i, .string x, .int .i64 z, .int .i64 p, .string r]] W (SheetTo (fun k => N ≤ k) g (repF ⟨4, q, i, x, z, p, r⟩) W) := by
  have H0 := Aside0.mk (FillAt.start h #[.int .i64 4, .int .i64 q, .string i, .string x, .int .i64 z, .int .i64 p, .string r] 54)
  have HT := Aside0.mk hTN
  have HLt := Aside0.mk h.lt
  have HNg : Aside0 (N ≤ g) := ⟨h.sg⟩
  have HW : Aside0 (∀ X, Calls Tryd.prog 85 #[.int .i64 4] X fun e w' => e = .returned (.string ⟨#[56]⟩) ∧ Drawn0 X w') := ⟨fun X => post_replyWord.calls _ _ X rfl⟩
  have HNq := Aside0.mk hq
  clear h hTN hq
  go_enter Tryd.func84, Tryd.ntmps84
  go_wp2_with (first
    | (go_at_call 85; ((with_reducible refine (HW.out _).mono ?_)); rintro en w1 ⟨rfl, hd⟩; have H1 := Aside0.mk (H0.out.below hd.below); have hc := fun i => blk_cell H1.out.box i; clear hd)
    | (go_at_call 70; ((with_reducible refine (H1.out.text 35 ⟨#[56]⟩ (by simp)).mono ?_)); rintro en w2 ⟨rfl, h⟩; have H2 := Aside0.mk h; clear h hc; have hc := fun i => blk_cell H2.out.box i)
    | (go_at_call 72; ((with_reducible refine (H2.out.number ⟨HT.out _ H2.out.low⟩ 34 q (by simp) HNq.out).mono ?_)); rintro en w3 ⟨rfl, h⟩; have H3 := Aside0.mk h; clear h hc; have hc := fun i => blk_cell H3.out.box i)
    | (go_at_call 70; ((with_reducible refine (H3.out.text 11 i (by simp)).mono ?_)); rintro en w4 ⟨rfl, h⟩; have H4 := Aside0.mk h; clear h hc; have hc := fun i => blk_cell H4.out.box i)
    | (go_at_call 70; ((with_reducible refine (H4.out.text 17 x (by simp)).mono ?_)); rintro en w5 ⟨rfl, h⟩; have H5 := Aside0.mk h; clear h hc; have hc := fun i => blk_cell H5.out.box i)
    | (go_at_call 70; ((with_reducible refine (H5.out.text 150 ⟨#[56]⟩ (by simp)).mono ?_)); rintro en w6 ⟨rfl, h⟩; have H6 := Aside0.mk h; clear h hc; have hc := fun i => blk_cell H6.out.box i))
  go_end0
  exact H6.out.end_ HLt.out HNg.out (by have := HLt.out; have := HNg.out; omega) rfl
set_option maxRecDepth 100000 in
set_option maxHeartbeats 4000000 in
theorem fill_reply_5 (N g : Nat) (q z p : Int) (i x r : ByteArray) (W : World) (h : SheetIs (fun k => N ≤ k) g [] W) (hTN : ∀ X, Turned (fun k => N ≤ k) W X → Tabs_ X) (hq : 0 ≤ q ∧ q ≤ 9223372036854775807) (hz : 0 ≤ z ∧ z ≤ 9223372036854775807) (hp : 0 ≤ p ∧ p ≤ 9223372036854775807) :
    Calls Tryd.prog 84 #[.pointer (some ⟨g, 0, none⟩), .agg #[.int .i64 5, .int .i64 q, .string i, .string x, .int .i64 z, .int .i64 p, .string r]] W (SheetTo (fun k => N ≤ k) g (repF ⟨5, q, i, x, z, p, r⟩) W) := by
  have H0 := Aside0.mk (FillAt.start h #[.int .i64 5, .int .i64 q, .string i, .string x, .int .i64 z, .int .i64 p, .string r] 54)
  have HT := Aside0.mk hTN
  have HLt := Aside0.mk h.lt
  have HNg : Aside0 (N ≤ g) := ⟨h.sg⟩
  have HW : Aside0 (∀ X, Calls Tryd.prog 85 #[.int .i64 5] X fun e w' => e = .returned (.string ⟨#[70]⟩) ∧ Drawn0 X w') := ⟨fun X => post_replyWord.calls _ _ X rfl⟩
  have HNq := Aside0.mk hq
  have HNz := Aside0.mk hz
  have HNp := Aside0.mk hp
  clear h hTN hq hz hp
  go_enter Tryd.func84, Tryd.ntmps84
  go_wp2_with (first
    | (go_at_call 85; ((with_reducible refine (HW.out _).mono ?_)); rintro en w1 ⟨rfl, hd⟩; have H1 := Aside0.mk (H0.out.below hd.below); have hc := fun i => blk_cell H1.out.box i; clear hd)
    | (go_at_call 70; ((with_reducible refine (H1.out.text 35 ⟨#[56]⟩ (by simp)).mono ?_)); rintro en w2 ⟨rfl, h⟩; have H2 := Aside0.mk h; clear h hc; have hc := fun i => blk_cell H2.out.box i)
    | (go_at_call 72; ((with_reducible refine (H2.out.number ⟨HT.out _ H2.out.low⟩ 34 q (by simp) HNq.out).mono ?_)); rintro en w3 ⟨rfl, h⟩; have H3 := Aside0.mk h; clear h hc; have hc := fun i => blk_cell H3.out.box i)
    | (go_at_call 70; ((with_reducible refine (H3.out.text 11 i (by simp)).mono ?_)); rintro en w4 ⟨rfl, h⟩; have H4 := Aside0.mk h; clear h hc; have hc := fun i => blk_cell H4.out.box i)
    | (go_at_call 70; ((with_reducible refine (H4.out.text 17 x (by simp)).mono ?_)); rintro en w5 ⟨rfl, h⟩; have H5 := Aside0.mk h; clear h hc; have hc := fun i => blk_cell H5.out.box i)
    | (go_at_call 70; ((with_reducible refine (H5.out.text 150 ⟨#[70]⟩ (by simp)).mono ?_)); rintro en w6 ⟨rfl, h⟩; have H6 := Aside0.mk h; clear h hc; have hc := fun i => blk_cell H6.out.box i)
    | (go_at_call 72; ((with_reducible refine (H6.out.number ⟨HT.out _ H6.out.low⟩ 32 z (by simp) HNz.out).mono ?_)); rintro en w7 ⟨rfl, h⟩; have H7 := Aside0.mk h; clear h hc; have hc := fun i => blk_cell H7.out.box i)
    | (go_at_call 72; ((with_reducible refine (H7.out.number ⟨HT.out _ H7.out.low⟩ 31 p (by simp) HNp.out).mono ?_)); rintro en w8 ⟨rfl, h⟩; have H8 := Aside0.mk h; clear h hc; have hc := fun i => blk_cell H8.out.box i))
  go_end0
  exact H8.out.end_ HLt.out HNg.out (by have := HLt.out; have := HNg.out; omega) rfl
set_option maxRecDepth 100000 in
set_option maxHeartbeats 4000000 in
theorem fill_reply_6 (N g : Nat) (q z p : Int) (i x r : ByteArray) (W : World) (h : SheetIs (fun k => N ≤ k) g [] W) (hTN : ∀ X, Turned (fun k => N ≤ k) W X → Tabs_ X) (hq : 0 ≤ q ∧ q ≤ 9223372036854775807) :
    Calls Tryd.prog 84 #[.pointer (some ⟨g, 0, none⟩), .agg #[.int .i64 6, .int .i64 q, .string i, .string x, .int .i64 z, .int .i64 p, .string r]] W (SheetTo (fun k => N ≤ k) g (repF ⟨6, q, i, x, z, p, r⟩) W) := by
  have H0 := Aside0.mk (FillAt.start h #[.int .i64 6, .int .i64 q, .string i, .string x, .int .i64 z, .int .i64 p, .string r] 54)
  have HT := Aside0.mk hTN
  have HLt := Aside0.mk h.lt
  have HNg : Aside0 (N ≤ g) := ⟨h.sg⟩
  have HW : Aside0 (∀ X, Calls Tryd.prog 85 #[.int .i64 6] X fun e w' => e = .returned (.string ⟨#[72]⟩) ∧ Drawn0 X w') := ⟨fun X => post_replyWord.calls _ _ X rfl⟩
  have HNq := Aside0.mk hq
  clear h hTN hq
  go_enter Tryd.func84, Tryd.ntmps84
  go_wp2_with (first
    | (go_at_call 85; ((with_reducible refine (HW.out _).mono ?_)); rintro en w1 ⟨rfl, hd⟩; have H1 := Aside0.mk (H0.out.below hd.below); have hc := fun i => blk_cell H1.out.box i; clear hd)
    | (go_at_call 70; ((with_reducible refine (H1.out.text 35 ⟨#[56]⟩ (by simp)).mono ?_)); rintro en w2 ⟨rfl, h⟩; have H2 := Aside0.mk h; clear h hc; have hc := fun i => blk_cell H2.out.box i)
    | (go_at_call 72; ((with_reducible refine (H2.out.number ⟨HT.out _ H2.out.low⟩ 34 q (by simp) HNq.out).mono ?_)); rintro en w3 ⟨rfl, h⟩; have H3 := Aside0.mk h; clear h hc; have hc := fun i => blk_cell H3.out.box i)
    | (go_at_call 70; ((with_reducible refine (H3.out.text 11 i (by simp)).mono ?_)); rintro en w4 ⟨rfl, h⟩; have H4 := Aside0.mk h; clear h hc; have hc := fun i => blk_cell H4.out.box i)
    | (go_at_call 70; ((with_reducible refine (H4.out.text 17 x (by simp)).mono ?_)); rintro en w5 ⟨rfl, h⟩; have H5 := Aside0.mk h; clear h hc; have hc := fun i => blk_cell H5.out.box i)
    | (go_at_call 70; ((with_reducible refine (H5.out.text 150 ⟨#[72]⟩ (by simp)).mono ?_)); rintro en w6 ⟨rfl, h⟩; have H6 := Aside0.mk h; clear h hc; have hc := fun i => blk_cell H6.out.box i)
    | (go_at_call 70; ((with_reducible refine (H6.out.text 19 r (by simp)).mono ?_)); rintro en w7 ⟨rfl, h⟩; have H7 := Aside0.mk h; clear h hc; have hc := fun i => blk_cell H7.out.box i))
  go_end0
  exact H7.out.end_ HLt.out HNg.out (by have := HLt.out; have := HNg.out; omega) rfl
set_option maxRecDepth 100000 in
set_option maxHeartbeats 4000000 in
theorem fill_reply_7 (N g : Nat) (q z p : Int) (i x r : ByteArray) (W : World) (h : SheetIs (fun k => N ≤ k) g [] W) (hTN : ∀ X, Turned (fun k => N ≤ k) W X → Tabs_ X) (hq : 0 ≤ q ∧ q ≤ 9223372036854775807) :
    Calls Tryd.prog 84 #[.pointer (some ⟨g, 0, none⟩), .agg #[.int .i64 7, .int .i64 q, .string i, .string x, .int .i64 z, .int .i64 p, .string r]] W (SheetTo (fun k => N ≤ k) g (repF ⟨7, q, i, x, z, p, r⟩) W) := by
  have H0 := Aside0.mk (FillAt.start h #[.int .i64 7, .int .i64 q, .string i, .string x, .int .i64 z, .int .i64 p, .string r] 54)
  have HT := Aside0.mk hTN
  have HLt := Aside0.mk h.lt
  have HNg : Aside0 (N ≤ g) := ⟨h.sg⟩
  have HW : Aside0 (∀ X, Calls Tryd.prog 85 #[.int .i64 7] X fun e w' => e = .returned (.string ⟨#[]⟩) ∧ Drawn0 X w') := ⟨fun X => post_replyWord.calls _ _ X rfl⟩
  have HNq := Aside0.mk hq
  clear h hTN hq
  go_enter Tryd.func84, Tryd.ntmps84
  go_wp2_with (first
    | (go_at_call 85; ((with_reducible refine (HW.out _).mono ?_)); rintro en w1 ⟨rfl, hd⟩; have H1 := Aside0.mk (H0.out.below hd.below); have hc := fun i => blk_cell H1.out.box i; clear hd)
    | (go_at_call 70; ((with_reducible refine (H1.out.text 35 ⟨#[57]⟩ (by simp)).mono ?_)); rintro en w2 ⟨rfl, h⟩; have H2 := Aside0.mk h; clear h hc; have hc := fun i => blk_cell H2.out.box i)
    | (go_at_call 72; ((with_reducible refine (H2.out.number ⟨HT.out _ H2.out.low⟩ 34 q (by simp) HNq.out).mono ?_)); rintro en w3 ⟨rfl, h⟩; have H3 := Aside0.mk h; clear h hc; have hc := fun i => blk_cell H3.out.box i)
    | (go_at_call 70; ((with_reducible refine (H3.out.text 11 i (by simp)).mono ?_)); rintro en w4 ⟨rfl, h⟩; have H4 := Aside0.mk h; clear h hc; have hc := fun i => blk_cell H4.out.box i))
  refine bodyPost_ret (results_none rfl _ _ _) rfl ?_
  exact H4.out.end_ HLt.out HNg.out (by have := HLt.out; have := HNg.out; omega) rfl
theorem repF_len (a : RepV) : (repF a).length ≤ 1000 := by
  unfold repF
  split
  · simp
  · split <;> split <;> simp
theorem repF_small (a : RepV) (hr : rightP a = true) (hz : a.f2.size ≤ 140737488351232 ∧ a.f3.size ≤ 140737488351232 ∧ a.f6.size ≤ 140737488351232) : smallF (repF a) = true := by
  obtain ⟨f0, f1, f2, f3, f4, f5, f6⟩ := a
  obtain ⟨hk, hq, hi, hx, h5, h5', h6⟩ := (rightP_iff _).1 hr
  simp only at hk hq hi hx h5 h5' h6 hz
  have s2 : f2.size ≤ 9223372036854775807 := by omega
  have s3 : f3.size ≤ 9223372036854775807 := by omega
  have s6 : f6.size ≤ 9223372036854775807 := by omega
  have d1 := dsmall f1 (by omega)
  have d4 : (digitsB f4).size ≤ 9223372036854775807 := dsmall f4 (by
    by_cases c : f0 = 5
    · exact (h5 c).1.2
    · rw [(h5' c).1]; decide)
  have d5 : (digitsB f5).size ≤ 9223372036854775807 := dsmall f5 (by
    by_cases c : f0 = 5
    · exact (h5 c).2.2
    · rw [(h5' c).2]; decide)
  have one : ∀ b : UInt8, (⟨#[b]⟩ : ByteArray).size ≤ 9223372036854775807 := fun b => by show (1 : Nat) ≤ 9223372036854775807; decide
  refine small_of _ ?_
  rcases (show f0 = 1 ∨ f0 = 2 ∨ f0 = 3 ∨ f0 = 4 ∨ f0 = 5 ∨ f0 = 6 ∨ f0 = 7 by omega) with rfl | rfl | rfl | rfl | rfl | rfl | rfl
  all_goals
    simp only [repF, repW, Int.reduceEq, if_true, if_false, List.append_nil, List.cons_append, List.nil_append, List.forall_mem_cons]
    repeat' (first | assumption | exact one _ | refine ⟨?_, ?_⟩ | exact (fun _ h => absurd h List.not_mem_nil))
def encP (a : RepV) : ByteArray × Int := if rightP a = true then (⟨(allFormsL ((repF a).map pairF)).1.toArray⟩, ((allFormsL ((repF a).map pairF)).2 : Int)) else (⟨#[]⟩, 2)
theorem fill_reply (N g : Nat) (a : RepV) (W : World) (h : SheetIs (fun k => N ≤ k) g [] W) (hTN : ∀ X, Turned (fun k => N ≤ k) W X → Tabs_ X) (hr : rightP a = true) :
    Calls Tryd.prog 84 #[.pointer (some ⟨g, 0, none⟩), .agg #[.int .i64 a.f0, .int .i64 a.f1, .string a.f2, .string a.f3, .int .i64 a.f4, .int .i64 a.f5, .string a.f6]] W (SheetTo (fun k => N ≤ k) g (repF a) W) := by
  obtain ⟨f0, f1, f2, f3, f4, f5, f6⟩ := a
  rw [rightP_iff] at hr
  obtain ⟨hk, hq, hi, hs⟩ := hr
  simp only at hk hq hi hs
  rcases (show f0 = 1 ∨ f0 = 2 ∨ f0 = 3 ∨ f0 = 4 ∨ f0 = 5 ∨ f0 = 6 ∨ f0 = 7 by omega) with rfl | rfl | rfl | rfl | rfl | rfl | rfl
  · exact fill_reply_1 N g f1 f4 f5 f2 f3 f6 W h hTN (by omega)
  · exact fill_reply_2 N g f1 f4 f5 f2 f3 f6 W h hTN (by omega)
  · exact fill_reply_3 N g f1 f4 f5 f2 f3 f6 W h hTN (by omega)
  · exact fill_reply_4 N g f1 f4 f5 f2 f3 f6 W h hTN (by omega)
  · obtain ⟨_, h5, _⟩ := hs
    have h5 := h5 rfl
    exact fill_reply_5 N g f1 f4 f5 f2 f3 f6 W h hTN (by omega) (by omega) (by omega)
  · exact fill_reply_6 N g f1 f4 f5 f2 f3 f6 W h hTN (by omega)
  · exact fill_reply_7 N g f1 f4 f5 f2 f3 f6 W h hTN (by omega)
set_option maxRecDepth 100000 in
set_option maxHeartbeats 8000000 in
theorem encode_reply (a : RepV) (w : World) (hT_ : Aside0 (Tabs_ w)) (hz : (a.f2.size ≤ 140737488351232 ∧ a.f3.size ≤ 140737488351232 ∧ a.f6.size ≤ 140737488351232)) :
    Calls Tryd.prog 83 #[.agg #[.int .i64 a.f0, .int .i64 a.f1, .string a.f2, .string a.f3, .int .i64 a.f4, .int .i64 a.f5, .string a.f6], .func (.func 36) #[] #[], .func (.func 84) #[] #[]] w (EncIs (encP a) w) := by
  have HB0 : Aside0 (Below w.heap.size w (w.alloc (.cells #[.int .i64 a.f0, .int .i64 a.f1, .string a.f2, .string a.f3, .int .i64 a.f4, .int .i64 a.f5, .string a.f6] 54))) := ⟨(Below.refl _ _).alloc (Nat.le_refl _) _⟩
  have BK0 := Aside0.mk (blk_new w (.cells #[.int .i64 a.f0, .int .i64 a.f1, .string a.f2, .string a.f3, .int .i64 a.f4, .int .i64 a.f5, .string a.f6] 54))
  have HRt : Aside0 (∀ W, Calls Tryd.prog 36 #[.agg #[.int .i64 a.f0, .int .i64 a.f1, .string a.f2, .string a.f3, .int .i64 a.f4, .int .i64 a.f5, .string a.f6]] W (RtIs (rightP a) W)) := ⟨fun W => rightP_calls a W hz⟩
  have HRt2 : Aside0 (∀ W, Calls Tryd.prog 36 (#[.agg #[.int .i64 a.f0, .int .i64 a.f1, .string a.f2, .string a.f3, .int .i64 a.f4, .int .i64 a.f5, .string a.f6]] ++ #[]) W (RtIs (rightP a) W)) := ⟨fun W => rightP_calls a W hz⟩
  cases hrt : rightP a with
  | false =>
    have HE : Aside0 (encP a = (⟨#[]⟩, 2)) := ⟨by unfold encP; rw [if_neg (by rw [hrt]; decide)]⟩
    rw [hrt] at HRt HRt2
    clear hrt
    go_enter Tryd.func83, Tryd.ntmps83
    go_wp2_with (go_at_call 36; (first | ((with_reducible refine (HRt.out _).mono ?_)) | ((with_reducible refine (HRt2.out _).mono ?_))); rintro en w1 ⟨rfl, hb⟩; have B1 := Aside0.mk (HB0.out.trans (hb.mono HB0.out.size)); clear hb)
    go_ret2
    exact EncIs.mk_ HE.out B1.out
  | true =>
    have HE : Aside0 (encP a = (⟨(allFormsL ((repF a).map pairF)).1.toArray⟩, ((allFormsL ((repF a).map pairF)).2 : Int))) := ⟨by unfold encP; rw [if_pos hrt]⟩
    have HFl : Aside0 (∀ W, Below w.heap.size w W → Calls Tryd.prog 84 #[.pointer (some ⟨W.heap.size, 0, none⟩), .agg #[.int .i64 a.f0, .int .i64 a.f1, .string a.f2, .string a.f3, .int .i64 a.f4, .int .i64 a.f5, .string a.f6]] (W.alloc (.cells #[.slice none 0 0] 162)) (SheetTo (fun k => w.heap.size ≤ k) W.heap.size (repF a) (W.alloc (.cells #[.slice none 0 0] 162)))) :=
      ⟨fun W hb => fill_reply w.heap.size W.heap.size a _ (new_sheet w W hb) (fun X ht => hT_.out.below ((hb.alloc hb.size _).trans (ht.below (fun _ e => e) (hb.alloc hb.size _).size))) hrt⟩
    have HSm : Aside0 (smallF (repF a) = true) := ⟨repF_small a hrt hz⟩
    have HLn : (repF a).length ≤ 1000 := repF_len a
    rw [hrt] at HRt HRt2
    clear hrt
    generalize encP a = res at *
    go_enter Tryd.func83, Tryd.ntmps83
    go_wp2_with (first
      | (go_at_call 36; (first | ((with_reducible refine (HRt.out _).mono ?_)) | ((with_reducible refine (HRt2.out _).mono ?_))); rintro en w1 ⟨rfl, hb⟩; have B1 := Aside0.mk (HB0.out.trans (hb.mono HB0.out.size)); have BK1 := Aside0.mk (blk_alloc (blk_below BK0.out hb) (.cells #[.slice none 0 0] 162)); have hc := fun i => blk_cell BK1.out i; clear hb)
      | (go_at_call 84; ((with_reducible refine (HFl.out _ B1.out).mono ?_)); rintro en w2 ⟨rfl, hs, ht⟩; have B2 := Aside0.mk ((B1.out.alloc B1.out.size _).trans (ht.below (fun _ e => e) (B1.out.alloc B1.out.size _).size)); have HS := Aside0.mk hs.row; have hz0 := hs.free; obtain ⟨A, c, hc0, hR⟩ := HS.out; have HR := Aside0.mk hR; clear hc hs ht hR)
      | (go_at_call 51; refine (tag_Forms.calls A c (repF a) res.1 res.2 _ ⟨hT_.out.below B2.out⟩ (Kd.R_reads' HR.out).2.2 (Kd.R_reads' HR.out).2.1 (by rw [HE.out]; unfold tag_Forms.f; rw [if_pos HSm.out])).mono ?_; rintro en w3 ⟨rfl, hb⟩; have B3 := Aside0.mk (B2.out.trans (hb.mono B2.out.size)); clear hb))
    go_ret2
    exact ⟨rfl, B3.out⟩
set_option maxRecDepth 100000 in
theorem EncodeReply_walk (a : RepV) (w : World) (hT_ : Aside0 (Tabs_ w)) (hz : (a.f2.size ≤ 140737488351232 ∧ a.f3.size ≤ 140737488351232 ∧ a.f6.size ≤ 140737488351232)) : Calls Tryd.prog 34 #[.agg #[.int .i64 a.f0, .int .i64 a.f1, .string a.f2, .string a.f3, .int .i64 a.f4, .int .i64 a.f5, .string a.f6]] w (EncIs (encP a) w) := by
  have HB0 : Aside0 (Below w.heap.size w (w.alloc (.cells #[.int .i64 a.f0, .int .i64 a.f1, .string a.f2, .string a.f3, .int .i64 a.f4, .int .i64 a.f5, .string a.f6] 54))) := ⟨(Below.refl _ _).alloc (Nat.le_refl _) _⟩
  have HEn : Aside0 (Calls Tryd.prog 83 #[.agg #[.int .i64 a.f0, .int .i64 a.f1, .string a.f2, .string a.f3, .int .i64 a.f4, .int .i64 a.f5, .string a.f6], .func (.func 36) #[] #[], .func (.func 84) #[] #[]] (w.alloc (.cells #[.int .i64 a.f0, .int .i64 a.f1, .string a.f2, .string a.f3, .int .i64 a.f4, .int .i64 a.f5, .string a.f6] 54)) (EncIs (encP a) (w.alloc (.cells #[.int .i64 a.f0, .int .i64 a.f1, .string a.f2, .string a.f3, .int .i64 a.f4, .int .i64 a.f5, .string a.f6] 54)))) := ⟨encode_reply a _ ⟨hT_.out.below HB0.out⟩ hz⟩
  go_enter Tryd.func34, Tryd.ntmps34
  go_wp2_with (go_at_call 83; ((with_reducible refine HEn.out.mono ?_)); rintro en w1 ⟨rfl, hb⟩; have B1 := Aside0.mk (HB0.out.trans (hb.mono HB0.out.size)); clear hb)
  go_ret2
  exact ⟨rfl, B1.out⟩
def post_EncodeReply.f (a0_0 : Int) (a0_1 : Int) (a0_2 : ByteArray) (a0_3 : ByteArray) (a0_4 : Int) (a0_5 : Int) (a0_6 : ByteArray) : Option (ByteArray × Int) := if a0_2.size ≤ 140737488351232 ∧ a0_3.size ≤ 140737488351232 ∧ a0_6.size ≤ 140737488351232 then some (encP ⟨a0_0, a0_1, a0_2, a0_3, a0_4, a0_5, a0_6⟩) else none
theorem post_EncodeReply.calls (a0_0 : Int) (a0_1 : Int) (a0_2 : ByteArray) (a0_3 : ByteArray) (a0_4 : Int) (a0_5 : Int) (a0_6 : ByteArray) (r1 : ByteArray) (r2 : Int) (w : World) (hT_ : Aside0 (Tabs_ w)) (h : post_EncodeReply.f a0_0 a0_1 a0_2 a0_3 a0_4 a0_5 a0_6 = some (r1, r2)) :
    Calls Tryd.prog 34 #[.agg #[.int .i64 a0_0, .int .i64 a0_1, .string a0_2, .string a0_3, .int .i64 a0_4, .int .i64 a0_5, .string a0_6]] w fun e w' => e = .returned (.tuple #[.string r1, .int .i64 r2]) ∧ Below w.heap.size w w' := by
  unfold post_EncodeReply.f at h
  by_cases c : a0_2.size ≤ 140737488351232 ∧ a0_3.size ≤ 140737488351232 ∧ a0_6.size ≤ 140737488351232
  · rw [if_pos c] at h
    have hw := EncodeReply_walk ⟨a0_0, a0_1, a0_2, a0_3, a0_4, a0_5, a0_6⟩ w hT_ c
    rw [Option.some.inj h] at hw
    exact hw
  · rw [if_neg c] at h; cases h
end Go.Proofs.YtgfigkfcmkdjdaaDoor.B
end
section
namespace Go.Proofs.YtgfigkfcmkdjdaaDoor.B
open Go.RowKit Go.Proofs.YtgfigkfcmkdjdaaDoorW.PrintWords Go.Proofs.YtgfigkfcmkdjdaaDoorW.PrintLast Go.Proofs.YtgfigkfcmkdjdaaDoorW.PrintMore
attribute [local go_sem] max2_int min2_int max_two min_two max_three min_three max_four min_four   -- for this text's walks alone
set_option linter.unusedVariables false
set_option linter.unusedSimpArgs false
theorem valsOf_none (l : List S78) (t : Int) (h : t ∉ tagsOf l) : valsOf l t = none := by
  unfold valsOf
  rw [List.find?_eq_none.2 (fun x hx => by
    intro e
    exact h (List.mem_map.2 ⟨x, hx, by simpa using e⟩))]
  rfl
theorem dupL_no : ∀ (l seen : List S78), (tagsOf (seen ++ l)).Nodup → dupL seen l = false
  | [], _, _ => rfl
  | x :: r, seen, h => by
    have hx : x.f0 ∉ tagsOf seen := by
      intro hm
      have h2 : (tagsOf seen ++ x.f0 :: tagsOf r).Nodup := by unfold tagsOf at h ⊢; simpa using h
      exact (List.nodup_append.1 h2).2.2 _ hm _ List.mem_cons_self rfl
    rw [dupL_cons, if_neg (by rw [valsOf_none seen _ hx]; decide)]
    exact dupL_no r (seen ++ [x]) (by rw [List.append_assoc]; exact h)
theorem readB_formed (L : List S78) (hn : (tagsOf L).Nodup) (h0 : 0 < L.length) (h35 : (rd_T78 L 0).f0 = 35) (hpos : ∀ x ∈ L, 0 ≤ x.f0) (he : (allFormsL (L.map pairF)).2 = 0) :
    readB ⟨(allFormsL (L.map pairF)).1.toArray⟩ = (some (formOf L), 0) := by
  unfold allFormsL at he ⊢
  by_cases c : 64 < (L.map pairF).length
  · rw [if_pos c] at he; simp at he
  rw [if_neg c] at he ⊢
  have hf := fieldsL_formed (L.map pairF) 0 0 he (by omega)
  have hb : fieldsB ⟨(formsL (L.map pairF)).1.toArray⟩ = L := by
    unfold fieldsB
    rw [show (⟨(formsL (L.map pairF)).1.toArray⟩ : ByteArray).data.toList = (formsL (L.map pairF)).1 by simp, hf]
    simp only [List.map_map]
    conv => rhs; rw [← List.map_id L]
    apply List.map_congr_left
    intro x hx
    show mkF (readF (pairF x)) = x
    have := hpos x hx
    unfold mkF readF pairF
    simp only
    rw [Int.toNat_of_nonneg this]
  unfold readB
  rw [hb, show (⟨(formsL (L.map pairF)).1.toArray⟩ : ByteArray).data.toList = (formsL (L.map pairF)).1 by simp, hf]
  simp only
  rw [if_neg (by simp), if_neg (fun h => h.elim (fun h => by omega) (fun h => h h35)), if_neg (by rw [dupL_no L [] (by simpa using hn)]; decide)]
theorem may_cons (b : UInt8) (h : b.toNat < 128) (hm : mayB b.toNat = true) (t : List UInt8) : allMay (b :: t) = allMay t := by
  rw [allMay_cons _ (by simp), dec_ascii _ _ h, hm]
  simp
theorem allMay_digs : ∀ (ds : List UInt8), (∀ x ∈ ds, isDig x) → allMay ds = true
  | [], _ => allMay_nil
  | b :: t, h => by
    have hb := h b List.mem_cons_self
    unfold isDig at hb
    rw [may_cons b (by omega) (by rw [mayB_eq]; omega)]
    exact allMay_digs t (fun x hx => h x (List.mem_cons_of_mem _ hx))
theorem nameL_may (n : Nat) : ∀ (l : List UInt8) (c : Nat), l.length ≤ n → c ≤ 20 → nameL l c = true → allMay l = true ∧ l.length ≤ 4 * (20 - c) := by
  induction n with
  | zero => intro l c h _ _; rw [List.eq_nil_of_length_eq_zero (show l.length = 0 by omega)]; exact ⟨allMay_nil, Nat.zero_le _⟩
  | succ n ih =>
    intro l c h hc hn
    by_cases hl : l = []
    · rw [hl]; exact ⟨allMay_nil, Nat.zero_le _⟩
    by_cases h20 : 20 ≤ c
    · rw [nameL_full l hl c h20] at hn; cases hn
    cases hm : mayN (dec l).1 with
    | false => rw [nameL_bad l hl c hm] at hn; cases hn
    | true =>
      rw [nameL_go l hl c (by omega) hm] at hn
      have hw := dec_width l
      have hw4 := dec_width4 l
      have hp := List.length_pos_iff.2 hl
      have h2 := ih (l.drop (dec l).2) (c + 1) (by rw [List.length_drop]; omega) (by omega) hn
      rw [List.length_drop] at h2
      rw [allMay_cons l hl, h2.1]
      have := (mayN_eq _).1 hm
      refine ⟨?_, by omega⟩
      rw [show mayB (dec l).1 = true from (mayB_eq _).2 (by omega)]; rfl
theorem nameL_value {l : List UInt8} (h : nameL l 0 = true) : valueL l = true ∧ l.length ≤ 80 := by
  obtain ⟨h1, h2⟩ := nameL_may l.length l 0 (Nat.le_refl _) (by omega) h
  have h3 : 1 ≤ l.length := by
    rcases Nat.eq_zero_or_pos l.length with g | g
    · rw [List.eq_nil_of_length_eq_zero g, nameL_nil] at h; simp at h
    · exact g
  refine ⟨?_, by omega⟩
  unfold valueL
  rw [h1, decide_eq_true h3, decide_eq_true (show l.length ≤ 512 by omega)]; rfl
theorem digs_value (n : Nat) (h : n ≤ 9223372036854775807) : valueL (digitsN n) = true := by
  unfold valueL
  rw [allMay_digs _ (digitsN_dig n), decide_eq_true (digitsN_pos n), decide_eq_true (show (digitsN n).length ≤ 512 by have := digitsN_len 19 n (by omega); omega)]; rfl
theorem formL_good (t : Int) (v : List UInt8) (h1 : 1 ≤ t) (h2 : t ≤ 99999) (hv : valueL v = true) : formL t v = (digitsN t.toNat ++ 61 :: (v ++ [1]), 0) := by
  unfold formL
  rw [if_neg (by omega), if_pos hv]
def fieldL (f : Int × List UInt8) : List UInt8 := digitsN f.1.toNat ++ 61 :: (f.2 ++ [1])
def goodF (f : Int × List UInt8) : Prop := 1 ≤ f.1 ∧ f.1 ≤ 99999 ∧ valueL f.2 = true
theorem formsL_good : ∀ l : List (Int × List UInt8), (∀ f ∈ l, goodF f) → formsL l = ((l.map fieldL).flatten, 0)
  | [], _ => rfl
  | f :: r, h => by
    obtain ⟨h1, h2, h3⟩ := h f List.mem_cons_self
    have ih := formsL_good r (fun x hx => h x (List.mem_cons_of_mem _ hx))
    unfold formsL
    rw [formL_good f.1 f.2 h1 h2 h3, ih, if_neg (by simp), if_neg (by simp)]
    rfl
theorem allFormsL_good (l : List (Int × List UInt8)) (hl : l.length ≤ 64) (h : ∀ f ∈ l, goodF f) : allFormsL l = ((l.map fieldL).flatten, 0) := by
  unfold allFormsL
  rw [if_neg (by omega)]
  exact formsL_good l h
theorem goodF_name (t : Int) (s : ByteArray) (h1 : 1 ≤ t) (h2 : t ≤ 99999) (h : nameL s.data.toList 0 = true) : goodF (t, s.data.toList) := ⟨h1, h2, (nameL_value h).1⟩
theorem goodF_num (t n : Int) (h1 : 1 ≤ t) (h2 : t ≤ 99999) (h3 : n ≤ 9223372036854775807) : goodF (t, (digitsB n).data.toList) := ⟨h1, h2, by rw [digitsB_list]; exact digs_value _ (by omega)⟩
theorem goodF_one (t : Int) (b : UInt8) (h1 : 1 ≤ t) (h2 : t ≤ 99999) (hb : b.toNat < 128) (hm : mayB b.toNat = true) : goodF (t, (⟨#[b]⟩ : ByteArray).data.toList) := ⟨h1, h2, by
  unfold valueL
  show (decide (1 ≤ [b].length) && (decide ([b].length ≤ 512) && allMay [b])) = true
  rw [may_cons b hb hm, allMay_nil]; rfl⟩
theorem numP_digs (n : Nat) (h : n ≤ 9223372036854775807) : numP (digitsN n) = (n, 0) := by
  have hne := digitsN_ne n
  have hv : valFrom 0 (digitsN n) = n := by rw [valFrom_zero, valOf_digitsN]
  unfold numP
  rw [if_neg (by
    rintro (g | ⟨g1, g2⟩)
    · exact hne g
    · by_cases c : n < 10
      · rw [digitsN_small c] at g2; simp at g2
      · match hd : digitsN n with
        | [] => exact hne hd
        | b :: t =>
          rw [hd] at g1
          have := digitsN_head n (by omega) b t hd
          simp at g1
          exact this (by rw [g1]; rfl))]
  have := noP_all (digitsN n) 0 (digitsN_dig n) (by omega)
  rw [hv] at this
  exact this
theorem ask_name_ok {F : FormS} {t : Int} {s : ByteArray} (he : F.e = 0) (hv : F.vals t = some s) (hn : nameL s.data.toList 0 = true) : askL takeName ⟨#[]⟩ F t = (s, F.mark t) := by
  rw [askL_some takeName _ F t he hv]
  have : takeName s = (s, 0) := by unfold takeName; rw [if_pos hn]
  rw [this, if_pos rfl]
theorem ask_int_ok {F : FormS} {t lo hi n : Int} (he : F.e = 0) (hv : F.vals t = some (digitsB n)) (h0 : 0 ≤ n) (h9 : n ≤ 9223372036854775807) (hl : lo ≤ n) (hh : n ≤ hi) : askL (fun s => takeInt s lo hi) 0 F t = (n, F.mark t) := by
  rw [askL_some (fun s => takeInt s lo hi) _ F t he hv]
  have : takeInt (digitsB n) lo hi = (n, 0) := by
    unfold takeInt
    rw [digitsB_list, numP_digs _ (by omega)]
    simp only
    rw [if_neg (by rintro ⟨_, h | h⟩ <;> omega), Int.toNat_of_nonneg h0]; rfl
  simp only [this]
  rw [if_pos trivial]
theorem doneL_ok {F : FormS} (h0 : F.e = 0) (h : spareL F.asked F.order = (0, 0)) : doneL F = (0, 0) := by
  unfold doneL
  rw [if_neg (by simpa using h0), h]
theorem dg35 : digitsN 35 = [51, 53] := by rw [digitsN_step (n := 35) (by decide), digitsN_small (n := 35 / 10) (by decide)]; rfl
theorem dg11 : digitsN 11 = [49, 49] := by rw [digitsN_step (n := 11) (by decide), digitsN_small (n := 11 / 10) (by decide)]; rfl
theorem dg17 : digitsN 17 = [49, 55] := by rw [digitsN_step (n := 17) (by decide), digitsN_small (n := 17 / 10) (by decide)]; rfl
theorem dg32 : digitsN 32 = [51, 50] := by rw [digitsN_step (n := 32) (by decide), digitsN_small (n := 32 / 10) (by decide)]; rfl
theorem dg31 : digitsN 31 = [51, 49] := by rw [digitsN_step (n := 31) (by decide), digitsN_small (n := 31 / 10) (by decide)]; rfl
theorem dg34 : digitsN 34 = [51, 52] := by rw [digitsN_step (n := 34) (by decide), digitsN_small (n := 34 / 10) (by decide)]; rfl
theorem dg150 : digitsN 150 = [49, 53, 48] := by rw [digitsN_step (n := 150) (by decide), digitsN_step (n := 150 / 10) (by decide), digitsN_small (n := 150 / 10 / 10) (by decide)]; rfl
theorem dg19 : digitsN 19 = [49, 57] := by rw [digitsN_step (n := 19) (by decide), digitsN_small (n := 19 / 10) (by decide)]; rfl
end Go.Proofs.YtgfigkfcmkdjdaaDoor.B
end
