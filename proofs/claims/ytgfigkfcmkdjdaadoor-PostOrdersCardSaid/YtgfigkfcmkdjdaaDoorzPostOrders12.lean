/- The functions that the law reaches, as plain Lean functions, and their contracts: texts merged. -/
import Derived.Laws.StructEq
import Derived.Test.YtgfigkfcmkdjdaaDoorzPostOrders3
import Derived.Test.YtgfigkfcmkdjdaaDoorzPostOrders0
import Derived.Test.YtgfigkfcmkdjdaaDoorzPostOrders1
import Derived.Test.YtgfigkfcmkdjdaaDoorzPostOrders2
import Derived.Test.YtgfigkfcmkdjdaaDoorzPostOrders4
import Derived.Test.YtgfigkfcmkdjdaaDoorzPostOrders5
import Derived.Test.YtgfigkfcmkdjdaaDoorzPostOrders7
import Derived.Test.YtgfigkfcmkdjdaaDoorzPostOrders8
import Derived.Test.YtgfigkfcmkdjdaaDoorzPostOrders9
import Derived.Test.YtgfigkfcmkdjdaaDoorzPostOrders10
import Derived.Test.YtgfigkfcmkdjdaaDoorzPostOrders11
import Derived.Test.YtgfigkfcmkdjdaaDoorzPostOrders6
section
namespace Go.Proofs.YtgfigkfcmkdjdaaDoor.B
open Go.RowKit Go.Proofs.YtgfigkfcmkdjdaaDoorW.PrintWords Go.Proofs.YtgfigkfcmkdjdaaDoorW.PrintLast Go.Proofs.YtgfigkfcmkdjdaaDoorW.PrintMore
attribute [local go_sem] max2_int min2_int max_two min_two max_three min_three max_four min_four   -- for this text's walks alone
set_option linter.unusedVariables false
set_option linter.unusedSimpArgs false
set_option maxRecDepth 100000 in
theorem sheet_number (S : Nat → Prop) (g : Nat) (L : List S78) (w : World) (hT_ : Aside0 (Tabs_ w)) (t n : Int) (h : SheetIs S g L w) (hl : L.length ≤ 1000) (h0 : 0 ≤ n) (h9 : n ≤ 9223372036854775807) :
    Calls Tryd.prog 72 #[.pointer (some ⟨g, 0, none⟩), .int .i64 t, .int .i64 n] w (SheetTo S g (L ++ [⟨t, digitsB n⟩]) w) := by
  have H := Aside0.mk h
  have HI : Aside0 (Calls Tryd.prog 49 #[.int .i64 n] w fun e w' => e = .returned (.string (digitsB n)) ∧ Below w.heap.size w w') := ⟨strconv_Itoa.calls n _ w hT_ (by unfold strconv_Itoa.f; rw [if_pos ⟨h0, h9⟩])⟩
  clear h h0 h9
  go_enter Tryd.func72, Tryd.ntmps72
  go_wp2_with (first
    | (go_at_call 49; ((with_reducible refine HI.out.mono ?_)); rintro en w1 ⟨rfl, hb⟩; have H1 := Aside0.mk (H.out.below hb); have HB := Aside0.mk hb; clear hb)
    | (go_at_call 70; ((with_reducible refine (sheet_text S g L _ t (digitsB n) H1.out hl).mono ?_)); rintro en w2 ⟨rfl, hs, ht⟩; have H2 := Aside0.mk hs; have HT := Aside0.mk ht; clear hs ht))
  go_end0
  exact ⟨rfl, H2.out, (Turned.of_below HB.out).trans HT.out⟩
structure FillAt (N g b : Nat) (cs : Array Value) (T : TypeId) (L : List S78) (W w : World) : Prop where
  sheet : SheetIs (fun k => N ≤ k ∧ k ≠ b) g L w
  box : w.heap[b]? = some (.cells cs T (0, 0))
  low : Turned (fun k => N ≤ k) W w
theorem FillAt.start {N g : Nat} {W : World} (h : SheetIs (fun k => N ≤ k) g [] W) (cs : Array Value) (T : TypeId) : FillAt N g W.heap.size cs T [] W (W.alloc (.cells cs T)) := by
  have hb : Below W.heap.size W (W.alloc (.cells cs T)) := (Below.refl _ _).alloc (Nat.le_refl _) _
  have hN : N ≤ g := h.sg
  have hlt := h.lt
  refine ⟨?_, blk_new _ _, Turned.of_below hb⟩
  obtain ⟨⟨A, c, hc, hR⟩, hz, hg, hfr⟩ := h
  exact ⟨⟨A, c, (World.cell?_of_block (hb.block g hlt)).trans hc, Kd.R_below (Kd.R_mono (Kd.R_bound hR) (fun k hk => ⟨⟨hk.1.1, by have := hk.2.2.1; omega⟩, hk.1.2⟩)) hb⟩, (World.frozen?_of_block (w := W) (a := ⟨g, 0, none⟩) (hb.block g hlt)).trans hz, ⟨hN, by omega⟩, fun k hk => by
    rw [World.size_alloc] at hk
    exact ⟨hfr k (by omega), by omega⟩⟩
section
variable {N g b : Nat} {cs : Array Value} {T : TypeId} {L : List S78} {W w w' : World}
theorem FillAt.to {L' : List S78} (h : FillAt N g b cs T L W w) (hs : SheetIs (fun k => N ≤ k ∧ k ≠ b) g L' w') (ht : Turned (fun k => N ≤ k ∧ k ≠ b) w w') : FillAt N g b cs T L' W w' :=
  ⟨hs, (ht.block b (blk_lt h.box) (fun e => e.2 rfl)).trans h.box, h.low.trans (ht.imp (fun _ e => e.1))⟩
theorem FillAt.below (h : FillAt N g b cs T L W w) (hb : Below w.heap.size w w') : FillAt N g b cs T L W w' := h.to (h.sheet.below hb) (Turned.of_below hb)
theorem FillAt.text (h : FillAt N g b cs T L W w) (t : Int) (v : ByteArray) (hl : L.length ≤ 1000) :
    Calls Tryd.prog 70 #[.pointer (some ⟨g, 0, none⟩), .int .i64 t, .string v] w fun e w' => e = .returned (.tuple #[]) ∧ FillAt N g b cs T (L ++ [⟨t, v⟩]) W w' :=
  (sheet_text _ g L w t v h.sheet hl).mono fun _ _ hh => ⟨hh.1, h.to hh.2.1 hh.2.2⟩
theorem FillAt.number (h : FillAt N g b cs T L W w) (hT_ : Aside0 (Tabs_ w)) (t n : Int) (hl : L.length ≤ 1000) (hn : 0 ≤ n ∧ n ≤ 9223372036854775807) :
    Calls Tryd.prog 72 #[.pointer (some ⟨g, 0, none⟩), .int .i64 t, .int .i64 n] w fun e w' => e = .returned (.tuple #[]) ∧ FillAt N g b cs T (L ++ [⟨t, digitsB n⟩]) W w' :=
  (sheet_number _ g L w hT_ t n h.sheet hl hn.1 hn.2).mono fun _ _ hh => ⟨hh.1, h.to hh.2.1 hh.2.2⟩
theorem FillAt.end_ {S : List S78} (h : FillAt N g b cs T L W w) (hg : g < W.heap.size) (hN : N ≤ g) (hb : N ≤ b) (e : L = S) : SheetTo (fun k => N ≤ k) g S W (.returned (.tuple #[])) w := by
  subst e
  exact ⟨rfl, h.sheet.imp (fun _ _ e => e.1) (fun k hk => (h.sheet.fresh k hk).1), h.low⟩
theorem FillAt.tab (h : FillAt N g b cs T L W w) (hT : Aside0 (Tabs_ W)) (hN : Tabs_ W → ∀ X, Turned (fun k => N ≤ k) W X → Tabs_ X) : Aside0 (Tabs_ w) := ⟨hN hT.out w h.low⟩
end
end Go.Proofs.YtgfigkfcmkdjdaaDoor.B
end
section
namespace Go.Proofs.YtgfigkfcmkdjdaaDoor.B
open Go.RowKit Go.Proofs.YtgfigkfcmkdjdaaDoorW.PrintWords Go.Proofs.YtgfigkfcmkdjdaaDoorW.PrintLast Go.Proofs.YtgfigkfcmkdjdaaDoorW.PrintMore
attribute [local go_sem] max2_int min2_int max_two min_two max_three min_three max_four min_four   -- for this text's walks alone
set_option linter.unusedVariables false
set_option linter.unusedSimpArgs false
structure OrdV where
  f0 : Int
  f1 : Int
  f2 : ByteArray
  f3 : ByteArray
  f4 : Int
  f5 : Int
  f6 : Int
def ordW (k : Int) : ByteArray := if k = 1 then ⟨#[68]⟩ else if k = 2 then ⟨#[70]⟩ else ⟨#[71]⟩
def ordF (a : OrdV) : List S78 :=
  [⟨35, ordW a.f0⟩, ⟨34, digitsB a.f1⟩, ⟨11, a.f2⟩] ++ (if a.f0 = 1 then [⟨55, a.f3⟩, ⟨54, digitsB a.f4⟩] else []) ++ (if a.f0 = 2 then [] else [⟨38, digitsB a.f5⟩, ⟨44, digitsB a.f6⟩])
set_option maxRecDepth 100000 in
set_option maxHeartbeats 4000000 in
theorem fill_order_1 (N g : Nat) (q d z p : Int) (i y : ByteArray) (W : World) (h : SheetIs (fun k => N ≤ k) g [] W) (hTN : ∀ X, Turned (fun k => N ≤ k) W X → Tabs_ X) (hq : 0 ≤ q ∧ q ≤ 9223372036854775807) (hd : 0 ≤ d ∧ d ≤ 9223372036854775807) (hz : 0 ≤ z ∧ z ≤ 9223372036854775807) (hp : 0 ≤ p ∧ p ≤ 9223372036854775807) :
    Calls Tryd.prog 69 #[.pointer (some ⟨g, 0, none⟩), .agg #[.int .i64 1, .int .i64 q, .string i, .string y, .int .i64 d, .int .i64 z, .int .i64 p]] W (SheetTo (fun k => N ≤ k) g (ordF ⟨1, q, i, y, d, z, p⟩) W) := by
  have H0 := Aside0.mk (FillAt.start h #[.int .i64 1, .int .i64 q, .string i, .string y, .int .i64 d, .int .i64 z, .int .i64 p] 41)
  have HT := Aside0.mk hTN
  have HLt := Aside0.mk h.lt
  have HNg : Aside0 (N ≤ g) := ⟨h.sg⟩
  have HW : Aside0 (∀ X, Calls Tryd.prog 71 #[.int .i64 1] X fun e w' => e = .returned (.string ⟨#[68]⟩) ∧ Drawn0 X w') := ⟨fun X => post_orderWord.calls _ _ X rfl⟩
  have HNq := Aside0.mk hq
  have HNd := Aside0.mk hd
  have HNz := Aside0.mk hz
  have HNp := Aside0.mk hp
  clear h hTN hq hd hz hp
  go_enter Tryd.func69, Tryd.ntmps69
  go_wp2_with (first
    | (go_at_call 71; ((with_reducible refine (HW.out _).mono ?_)); rintro en w1 ⟨rfl, hd⟩; have H1 := Aside0.mk (H0.out.below hd.below); have hc := fun i => blk_cell H1.out.box i; clear hd)
    | (go_at_call 70; ((with_reducible refine (H1.out.text 35 ⟨#[68]⟩ (by simp)).mono ?_)); rintro en w2 ⟨rfl, h⟩; have H2 := Aside0.mk h; clear h hc; have hc := fun i => blk_cell H2.out.box i)
    | (go_at_call 72; ((with_reducible refine (H2.out.number ⟨HT.out _ H2.out.low⟩ 34 q (by simp) HNq.out).mono ?_)); rintro en w3 ⟨rfl, h⟩; have H3 := Aside0.mk h; clear h hc; have hc := fun i => blk_cell H3.out.box i)
    | (go_at_call 70; ((with_reducible refine (H3.out.text 11 i (by simp)).mono ?_)); rintro en w4 ⟨rfl, h⟩; have H4 := Aside0.mk h; clear h hc; have hc := fun i => blk_cell H4.out.box i)
    | (go_at_call 70; ((with_reducible refine (H4.out.text 55 y (by simp)).mono ?_)); rintro en w5 ⟨rfl, h⟩; have H5 := Aside0.mk h; clear h hc; have hc := fun i => blk_cell H5.out.box i)
    | (go_at_call 72; ((with_reducible refine (H5.out.number ⟨HT.out _ H5.out.low⟩ 54 d (by simp) HNd.out).mono ?_)); rintro en w6 ⟨rfl, h⟩; have H6 := Aside0.mk h; clear h hc; have hc := fun i => blk_cell H6.out.box i)
    | (go_at_call 72; ((with_reducible refine (H6.out.number ⟨HT.out _ H6.out.low⟩ 38 z (by simp) HNz.out).mono ?_)); rintro en w7 ⟨rfl, h⟩; have H7 := Aside0.mk h; clear h hc; have hc := fun i => blk_cell H7.out.box i)
    | (go_at_call 72; ((with_reducible refine (H7.out.number ⟨HT.out _ H7.out.low⟩ 44 p (by simp) HNp.out).mono ?_)); rintro en w8 ⟨rfl, h⟩; have H8 := Aside0.mk h; clear h hc; have hc := fun i => blk_cell H8.out.box i))
  go_end0
  exact H8.out.end_ HLt.out HNg.out (by have := HLt.out; have := HNg.out; omega) rfl
set_option maxRecDepth 100000 in
set_option maxHeartbeats 4000000 in
theorem fill_order_2 (N g : Nat) (q d z p : Int) (i y : ByteArray) (W : World) (h : SheetIs (fun k => N ≤ k) g [] W) (hTN : ∀ X, Turned (fun k => N ≤ k) W X → Tabs_ X) (hq : 0 ≤ q ∧ q ≤ 9223372036854775807) :
    Calls Tryd.prog 69 #[.pointer (some ⟨g, 0, none⟩), .agg #[.int .i64 2, .int .i64 q, .string i, .string y, .int .i64 d, .int .i64 z, .int .i64 p]] W (SheetTo (fun k => N ≤ k) g (ordF ⟨2, q, i, y, d, z, p⟩) W) := by
  have H0 := Aside0.mk (FillAt.start h #[.int .i64 2, .int .i64 q, .string i, .string y, .int .i64 d, .int .i64 z, .int .i64 p] 41)
  have HT := Aside0.mk hTN
  have HLt := Aside0.mk h.lt
  have HNg : Aside0 (N ≤ g) := ⟨h.sg⟩
  have HW : Aside0 (∀ X, Calls Tryd.prog 71 #[.int .i64 2] X fun e w' => e = .returned (.string ⟨#[70]⟩) ∧ Drawn0 X w') := ⟨fun X => post_orderWord.calls _ _ X rfl⟩
  have HNq := Aside0.mk hq
  clear h hTN hq
  go_enter Tryd.func69, Tryd.ntmps69
  go_wp2_with (first
    | (go_at_call 71; ((with_reducible refine (HW.out _).mono ?_)); rintro en w1 ⟨rfl, hd⟩; have H1 := Aside0.mk (H0.out.below hd.below); have hc := fun i => blk_cell H1.out.box i; clear hd)
    | (go_at_call 70; ((with_reducible refine (H1.out.text 35 ⟨#[70]⟩ (by simp)).mono ?_)); rintro en w2 ⟨rfl, h⟩; have H2 := Aside0.mk h; clear h hc; have hc := fun i => blk_cell H2.out.box i)
    | (go_at_call 72; ((with_reducible refine (H2.out.number ⟨HT.out _ H2.out.low⟩ 34 q (by simp) HNq.out).mono ?_)); rintro en w3 ⟨rfl, h⟩; have H3 := Aside0.mk h; clear h hc; have hc := fun i => blk_cell H3.out.box i)
    | (go_at_call 70; ((with_reducible refine (H3.out.text 11 i (by simp)).mono ?_)); rintro en w4 ⟨rfl, h⟩; have H4 := Aside0.mk h; clear h hc; have hc := fun i => blk_cell H4.out.box i))
  go_end0
  exact H4.out.end_ HLt.out HNg.out (by have := HLt.out; have := HNg.out; omega) rfl
set_option maxRecDepth 100000 in
set_option maxHeartbeats 4000000 in
theorem fill_order_3 (N g : Nat) (q d z p : Int) (i y : ByteArray) (W : World) (h : SheetIs (fun k => N ≤ k) g [] W) (hTN : ∀ X, Turned (fun k => N ≤ k) W X → Tabs_ X) (hq : 0 ≤ q ∧ q ≤ 9223372036854775807) (hz : 0 ≤ z ∧ z ≤ 9223372036854775807) (hp : 0 ≤ p ∧ p ≤ 9223372036854775807) :
    Calls Tryd.prog 69 #[.pointer (some ⟨g, 0, none⟩), .agg #[.int .i64 3, .int .i64 q, .string i, .string y, .int .i64 d, .int .i64 z, .int .i64 p]] W (SheetTo (fun k => N ≤ k) g (ordF ⟨3, q, i, y, d, z, p⟩) W) := by
  have H0 := Aside0.mk (FillAt.start h #[.int .i64 3, .int .i64 q, .string i, .string y, .int .i64 d, .int .i64 z, .int .i64 p] 41)
  have HT := Aside0.mk hTN
  have HLt := Aside0.mk h.lt
  have HNg : Aside0 (N ≤ g) := ⟨h.sg⟩
  have HW : Aside0 (∀ X, Calls Tryd.prog 71 #[.int .i64 3] X fun e w' => e = .returned (.string ⟨#[71]⟩) ∧ Drawn0 X w') := ⟨fun X => post_orderWord.calls _ _ X rfl⟩
  have HNq := Aside0.mk hq
  have HNz := Aside0.mk hz
  have HNp := Aside0.mk hp
  clear h hTN hq hz hp
  go_enter Tryd.func69, Tryd.ntmps69
  go_wp2_with (first
    | (go_at_call 71; ((with_reducible refine (HW.out _).mono ?_)); rintro en w1 ⟨rfl, hd⟩; have H1 := Aside0.mk (H0.out.below hd.below); have hc := fun i => blk_cell H1.out.box i; clear hd)
    | (go_at_call 70; ((with_reducible refine (H1.out.text 35 ⟨#[71]⟩ (by simp)).mono ?_)); rintro en w2 ⟨rfl, h⟩; have H2 := Aside0.mk h; clear h hc; have hc := fun i => blk_cell H2.out.box i)
    | (go_at_call 72; ((with_reducible refine (H2.out.number ⟨HT.out _ H2.out.low⟩ 34 q (by simp) HNq.out).mono ?_)); rintro en w3 ⟨rfl, h⟩; have H3 := Aside0.mk h; clear h hc; have hc := fun i => blk_cell H3.out.box i)
    | (go_at_call 70; ((with_reducible refine (H3.out.text 11 i (by simp)).mono ?_)); rintro en w4 ⟨rfl, h⟩; have H4 := Aside0.mk h; clear h hc; have hc := fun i => blk_cell H4.out.box i)
    | (go_at_call 72; ((with_reducible refine (H4.out.number ⟨HT.out _ H4.out.low⟩ 38 z (by simp) HNz.out).mono ?_)); rintro en w5 ⟨rfl, h⟩; have H5 := Aside0.mk h; clear h hc; have hc := fun i => blk_cell H5.out.box i)
    | (go_at_call 72; ((with_reducible refine (H5.out.number ⟨HT.out _ H5.out.low⟩ 44 p (by simp) HNp.out).mono ?_)); rintro en w6 ⟨rfl, h⟩; have H6 := Aside0.mk h; clear h hc; have hc := fun i => blk_cell H6.out.box i))
  go_end0
  exact H6.out.end_ HLt.out HNg.out (by have := HLt.out; have := HNg.out; omega) rfl
def rightO (a : OrdV) : Bool := decide (1 ≤ a.f0 ∧ a.f0 ≤ 3) && (decide (1 ≤ a.f1 ∧ a.f1 ≤ 1099511627776) && (nameL a.f2.data.toList 0 &&
  (if a.f0 = 1 then nameL a.f3.data.toList 0 && (decide (1 ≤ a.f4 ∧ a.f4 ≤ 2) && (decide (1 ≤ a.f5 ∧ a.f5 ≤ 1099511627776) && decide (1 ≤ a.f6 ∧ a.f6 ≤ 1099511627776)))
   else if a.f0 = 2 then decide (a.f3 = ⟨#[]⟩) && (decide (a.f4 = 0) && (decide (a.f5 = 0) && decide (a.f6 = 0)))
   else decide (a.f3 = ⟨#[]⟩) && (decide (a.f4 = 0) && (decide (1 ≤ a.f5 ∧ a.f5 ≤ 1099511627776) && decide (1 ≤ a.f6 ∧ a.f6 ≤ 1099511627776))))))
theorem rightO_iff (a : OrdV) : rightO a = true ↔ (1 ≤ a.f0 ∧ a.f0 ≤ 3) ∧ (1 ≤ a.f1 ∧ a.f1 ≤ 1099511627776) ∧ nameL a.f2.data.toList 0 = true ∧
    ((a.f0 = 1 ∧ nameL a.f3.data.toList 0 = true ∧ (1 ≤ a.f4 ∧ a.f4 ≤ 2) ∧ (1 ≤ a.f5 ∧ a.f5 ≤ 1099511627776) ∧ (1 ≤ a.f6 ∧ a.f6 ≤ 1099511627776)) ∨
     (a.f0 = 2 ∧ a.f3 = ⟨#[]⟩ ∧ a.f4 = 0 ∧ a.f5 = 0 ∧ a.f6 = 0) ∨
     (a.f0 = 3 ∧ a.f3 = ⟨#[]⟩ ∧ a.f4 = 0 ∧ (1 ≤ a.f5 ∧ a.f5 ≤ 1099511627776) ∧ (1 ≤ a.f6 ∧ a.f6 ≤ 1099511627776))) := by
  obtain ⟨f0, f1, f2, f3, f4, f5, f6⟩ := a
  unfold rightO
  simp only [Bool.and_eq_true, decide_eq_true_eq]
  by_cases c1 : f0 = 1
  · subst c1; simp
  by_cases c2 : f0 = 2
  · subst c2; simp
  by_cases c3 : f0 = 3
  · subst c3; simp
  · simp only [c1, c2, c3, if_false, false_and, or_false]
    constructor
    · rintro ⟨h, _⟩; omega
    · rintro ⟨_, _, _, h⟩; exact h.elim
theorem within_f (x l h : Int) : post_within.f x l h = some (decide (l ≤ x ∧ x ≤ h)) := by
  unfold post_within.f
  by_cases c : x ≥ l
  · rw [if_pos c]; simp [show l ≤ x from c]
  · rw [if_neg c]; simp [show ¬ l ≤ x from c]
theorem rname_f (s : ByteArray) (h : s.size ≤ 140737488351232) : roster_Valid.f s = some (nameL s.data.toList 0) := by
  unfold roster_Valid.f; rw [if_pos (by omega)]
theorem empty_iff (s : ByteArray) : s.toList = ([] : List UInt8) ↔ s = ⟨#[]⟩ := by
  rw [ByteArray.toList_eq]
  exact ⟨fun h => ba_ext h, fun h => by rw [h]⟩
theorem rightO_f (a : OrdV) (hz : a.f2.size ≤ 140737488351232 ∧ a.f3.size ≤ 140737488351232) : post_RightOrder.f 3 a.f0 a.f1 a.f2 a.f3 a.f4 a.f5 a.f6 = some (rightO a) := by
  obtain ⟨f0, f1, f2, f3, f4, f5, f6⟩ := a
  simp only at hz
  have n2 := rname_f f2 hz.1
  have n3 := rname_f f3 hz.2
  simp only [post_RightOrder.f, post_RightOrder.j0, post_RightOrder.j1, within_f, n2, n3, Option.bind_some, empty_iff, rightO]
  generalize nameL f2.data.toList 0 = b2
  generalize nameL f3.data.toList 0 = b3
  by_cases c1 : f0 = 1
  · subst c1
    rw [show post_orderWord.f 1 = some ⟨#[68]⟩ from rfl]
    by_cases q1 : 1 ≤ f1 ∧ f1 ≤ 1099511627776 <;> by_cases q5 : 1 ≤ f5 ∧ f5 ≤ 1099511627776 <;> by_cases q6 : 1 ≤ f6 ∧ f6 ≤ 1099511627776 <;> by_cases q4 : 1 ≤ f4 ∧ f4 ≤ 2 <;> cases b2 <;> cases b3 <;> simp [q1, q4, q5, q6]
  by_cases c2 : f0 = 2
  · subst c2
    rw [show post_orderWord.f 2 = some ⟨#[70]⟩ from rfl]
    by_cases q1 : 1 ≤ f1 ∧ f1 ≤ 1099511627776 <;> by_cases q5 : 1 ≤ f5 ∧ f5 ≤ 1099511627776 <;> by_cases q6 : 1 ≤ f6 ∧ f6 ≤ 1099511627776 <;> by_cases q3 : f3 = ⟨#[]⟩ <;> by_cases q4 : f4 = 0 <;> by_cases z5 : f5 = 0 <;> cases b2 <;> simp [q1, q3, q4, q5, q6, z5] <;> rfl
  by_cases c3 : f0 = 3
  · subst c3
    rw [show post_orderWord.f 3 = some ⟨#[71]⟩ from rfl]
    by_cases q1 : 1 ≤ f1 ∧ f1 ≤ 1099511627776 <;> by_cases q5 : 1 ≤ f5 ∧ f5 ≤ 1099511627776 <;> by_cases q6 : 1 ≤ f6 ∧ f6 ≤ 1099511627776 <;> by_cases q3 : f3 = ⟨#[]⟩ <;> by_cases q4 : f4 = 0 <;> cases b2 <;> simp [q1, q3, q4, q5, q6]
  · have e : post_orderWord.f f0 = some ⟨#[]⟩ := by unfold post_orderWord.f; rw [if_neg c1, if_neg c2, if_neg c3]
    rw [e]
    have q : ¬ (1 ≤ f0 ∧ f0 ≤ 3) := by omega
    simp [q]
theorem rightO_calls (a : OrdV) (W : World) (hz : a.f2.size ≤ 140737488351232 ∧ a.f3.size ≤ 140737488351232) : Calls Tryd.prog 27 #[.agg #[.int .i64 a.f0, .int .i64 a.f1, .string a.f2, .string a.f3, .int .i64 a.f4, .int .i64 a.f5, .int .i64 a.f6]] W (RtIs (rightO a) W) :=
  post_RightOrder.calls 3 _ _ _ _ _ _ _ _ W (rightO_f a hz)
theorem ordF_len (a : OrdV) : (ordF a).length ≤ 1000 := by
  unfold ordF
  split <;> split <;> simp
theorem small_of (l : List S78) (h : ∀ y ∈ l, y.f1.size ≤ 9223372036854775807) : smallF l = true := by
  unfold smallF
  rw [List.all_eq_true]
  intro y hy
  rw [decide_eq_true_eq]
  exact h y hy
theorem dsmall (n : Int) (h : n ≤ 1099511627776) : (digitsB n).size ≤ 9223372036854775807 := by have := digitsB_20 n (by omega); omega
theorem ordF_small (a : OrdV) (hr : rightO a = true) (hz : a.f2.size ≤ 140737488351232 ∧ a.f3.size ≤ 140737488351232) : smallF (ordF a) = true := by
  obtain ⟨f0, f1, f2, f3, f4, f5, f6⟩ := a
  obtain ⟨hk, hq, hi, hs⟩ := (rightO_iff _).1 hr
  simp only at hk hq hi hs hz
  have s2 : f2.size ≤ 9223372036854775807 := by omega
  have s3 : f3.size ≤ 9223372036854775807 := by omega
  have d1 := dsmall f1 (by omega)
  refine small_of _ fun y hy => ?_
  rcases hs with ⟨rfl, _, h4, h5, h6⟩ | ⟨rfl, _⟩ | ⟨rfl, _, _, h5, h6⟩
  · have d4 := dsmall f4 (by omega)
    have d5 := dsmall f5 (by omega)
    have d6 := dsmall f6 (by omega)
    rw [show ordF ⟨1, f1, f2, f3, f4, f5, f6⟩ = [⟨35, ⟨#[68]⟩⟩, ⟨34, digitsB f1⟩, ⟨11, f2⟩, ⟨55, f3⟩, ⟨54, digitsB f4⟩, ⟨38, digitsB f5⟩, ⟨44, digitsB f6⟩] from rfl] at hy
    simp only [List.mem_cons, List.not_mem_nil, or_false] at hy
    rcases hy with rfl | rfl | rfl | rfl | rfl | rfl | rfl
    · show (1 : Nat) ≤ 9223372036854775807; decide
    all_goals assumption
  · rw [show ordF ⟨2, f1, f2, f3, f4, f5, f6⟩ = [⟨35, ⟨#[70]⟩⟩, ⟨34, digitsB f1⟩, ⟨11, f2⟩] from rfl] at hy
    simp only [List.mem_cons, List.not_mem_nil, or_false] at hy
    rcases hy with rfl | rfl | rfl
    · show (1 : Nat) ≤ 9223372036854775807; decide
    all_goals assumption
  · have d5 := dsmall f5 (by omega)
    have d6 := dsmall f6 (by omega)
    rw [show ordF ⟨3, f1, f2, f3, f4, f5, f6⟩ = [⟨35, ⟨#[71]⟩⟩, ⟨34, digitsB f1⟩, ⟨11, f2⟩, ⟨38, digitsB f5⟩, ⟨44, digitsB f6⟩] from rfl] at hy
    simp only [List.mem_cons, List.not_mem_nil, or_false] at hy
    rcases hy with rfl | rfl | rfl | rfl | rfl
    · show (1 : Nat) ≤ 9223372036854775807; decide
    all_goals assumption
def encO (a : OrdV) : ByteArray × Int := if rightO a = true then (⟨(allFormsL ((ordF a).map pairF)).1.toArray⟩, ((allFormsL ((ordF a).map pairF)).2 : Int)) else (⟨#[]⟩, 2)
theorem fill_order (N g : Nat) (a : OrdV) (W : World) (h : SheetIs (fun k => N ≤ k) g [] W) (hTN : ∀ X, Turned (fun k => N ≤ k) W X → Tabs_ X) (hr : rightO a = true) :
    Calls Tryd.prog 69 #[.pointer (some ⟨g, 0, none⟩), .agg #[.int .i64 a.f0, .int .i64 a.f1, .string a.f2, .string a.f3, .int .i64 a.f4, .int .i64 a.f5, .int .i64 a.f6]] W (SheetTo (fun k => N ≤ k) g (ordF a) W) := by
  obtain ⟨f0, f1, f2, f3, f4, f5, f6⟩ := a
  rw [rightO_iff] at hr
  rcases hr with ⟨hk, hq, hi, hs⟩
  simp only at hk hq hi hs
  rcases hs with ⟨h0, hy, hd, hz, hp⟩ | ⟨h0, _⟩ | ⟨h0, _, _, hz, hp⟩
  · subst h0
    exact fill_order_1 N g f1 f4 f5 f6 f2 f3 W h hTN (by omega) (by omega) (by omega) (by omega)
  · subst h0
    exact fill_order_2 N g f1 f4 f5 f6 f2 f3 W h hTN (by omega)
  · subst h0
    exact fill_order_3 N g f1 f4 f5 f6 f2 f3 W h hTN (by omega) (by omega) (by omega)
theorem new_sheet (w W : World) (hb : Below w.heap.size w W) : SheetIs (fun k => w.heap.size ≤ k) W.heap.size [] (W.alloc (.cells #[.slice none 0 0] 162)) :=
  ⟨⟨none, 0, blk_cell (blk_new W (.cells #[.slice none 0 0] 162)) 0, Kd.R_nil _ _ _ _ _⟩, blk_frozen (blk_new W (.cells #[.slice none 0 0] 162)) 0, hb.size, fun k hk => by
    rw [World.size_alloc] at hk
    have := hb.size
    omega⟩
set_option maxRecDepth 100000 in
set_option maxHeartbeats 8000000 in
theorem encode_order (a : OrdV) (w : World) (hT_ : Aside0 (Tabs_ w)) (hz : (a.f2.size ≤ 140737488351232 ∧ a.f3.size ≤ 140737488351232)) :
    Calls Tryd.prog 68 #[.agg #[.int .i64 a.f0, .int .i64 a.f1, .string a.f2, .string a.f3, .int .i64 a.f4, .int .i64 a.f5, .int .i64 a.f6], .func (.func 27) #[] #[], .func (.func 69) #[] #[]] w (EncIs (encO a) w) := by
  have HB0 : Aside0 (Below w.heap.size w (w.alloc (.cells #[.int .i64 a.f0, .int .i64 a.f1, .string a.f2, .string a.f3, .int .i64 a.f4, .int .i64 a.f5, .int .i64 a.f6] 41))) := ⟨(Below.refl _ _).alloc (Nat.le_refl _) _⟩
  have BK0 := Aside0.mk (blk_new w (.cells #[.int .i64 a.f0, .int .i64 a.f1, .string a.f2, .string a.f3, .int .i64 a.f4, .int .i64 a.f5, .int .i64 a.f6] 41))
  have HRt : Aside0 (∀ W, Calls Tryd.prog 27 #[.agg #[.int .i64 a.f0, .int .i64 a.f1, .string a.f2, .string a.f3, .int .i64 a.f4, .int .i64 a.f5, .int .i64 a.f6]] W (RtIs (rightO a) W)) := ⟨fun W => rightO_calls a W hz⟩
  have HRt2 : Aside0 (∀ W, Calls Tryd.prog 27 (#[.agg #[.int .i64 a.f0, .int .i64 a.f1, .string a.f2, .string a.f3, .int .i64 a.f4, .int .i64 a.f5, .int .i64 a.f6]] ++ #[]) W (RtIs (rightO a) W)) := ⟨fun W => rightO_calls a W hz⟩
  cases hrt : rightO a with
  | false =>
    have HE : Aside0 (encO a = (⟨#[]⟩, 2)) := ⟨by unfold encO; rw [if_neg (by rw [hrt]; decide)]⟩
    rw [hrt] at HRt HRt2
    clear hrt
    go_enter Tryd.func68, Tryd.ntmps68
    go_wp2_with (go_at_call 27; (first | ((with_reducible refine (HRt.out _).mono ?_)) | ((with_reducible refine (HRt2.out _).mono ?_))); rintro en w1 ⟨rfl, hb⟩; have B1 := Aside0.mk (HB0.out.trans (hb.mono HB0.out.size)); clear hb)
    go_ret2
    exact EncIs.mk_ HE.out B1.out
  | true =>
    have HE : Aside0 (encO a = (⟨(allFormsL ((ordF a).map pairF)).1.toArray⟩, ((allFormsL ((ordF a).map pairF)).2 : Int))) := ⟨by unfold encO; rw [if_pos hrt]⟩
    have HFl : Aside0 (∀ W, Below w.heap.size w W → Calls Tryd.prog 69 #[.pointer (some ⟨W.heap.size, 0, none⟩), .agg #[.int .i64 a.f0, .int .i64 a.f1, .string a.f2, .string a.f3, .int .i64 a.f4, .int .i64 a.f5, .int .i64 a.f6]] (W.alloc (.cells #[.slice none 0 0] 162)) (SheetTo (fun k => w.heap.size ≤ k) W.heap.size (ordF a) (W.alloc (.cells #[.slice none 0 0] 162)))) :=
      ⟨fun W hb => fill_order w.heap.size W.heap.size a _ (new_sheet w W hb) (fun X ht => hT_.out.below ((hb.alloc hb.size _).trans (ht.below (fun _ e => e) (hb.alloc hb.size _).size))) hrt⟩
    have HSm : Aside0 (smallF (ordF a) = true) := ⟨ordF_small a hrt hz⟩
    have HLn : (ordF a).length ≤ 1000 := ordF_len a
    rw [hrt] at HRt HRt2
    clear hrt
    generalize encO a = res at *
    go_enter Tryd.func68, Tryd.ntmps68
    go_wp2_with (first
      | (go_at_call 27; (first | ((with_reducible refine (HRt.out _).mono ?_)) | ((with_reducible refine (HRt2.out _).mono ?_))); rintro en w1 ⟨rfl, hb⟩; have B1 := Aside0.mk (HB0.out.trans (hb.mono HB0.out.size)); have BK1 := Aside0.mk (blk_alloc (blk_below BK0.out hb) (.cells #[.slice none 0 0] 162)); have hc := fun i => blk_cell BK1.out i; clear hb)
      | (go_at_call 69; ((with_reducible refine (HFl.out _ B1.out).mono ?_)); rintro en w2 ⟨rfl, hs, ht⟩; have B2 := Aside0.mk ((B1.out.alloc B1.out.size _).trans (ht.below (fun _ e => e) (B1.out.alloc B1.out.size _).size)); have HS := Aside0.mk hs.row; have hz0 := hs.free; obtain ⟨A, c, hc0, hR⟩ := HS.out; have HR := Aside0.mk hR; clear hc hs ht hR)
      | (go_at_call 51; refine (tag_Forms.calls A c (ordF a) res.1 res.2 _ ⟨hT_.out.below B2.out⟩ (Kd.R_reads' HR.out).2.2 (Kd.R_reads' HR.out).2.1 (by rw [HE.out]; unfold tag_Forms.f; rw [if_pos HSm.out])).mono ?_; rintro en w3 ⟨rfl, hb⟩; have B3 := Aside0.mk (B2.out.trans (hb.mono B2.out.size)); clear hb))
    go_ret2
    exact ⟨rfl, B3.out⟩
set_option maxRecDepth 100000 in
theorem EncodeOrder_walk (a : OrdV) (w : World) (hT_ : Aside0 (Tabs_ w)) (hz : (a.f2.size ≤ 140737488351232 ∧ a.f3.size ≤ 140737488351232)) : Calls Tryd.prog 24 #[.agg #[.int .i64 a.f0, .int .i64 a.f1, .string a.f2, .string a.f3, .int .i64 a.f4, .int .i64 a.f5, .int .i64 a.f6]] w (EncIs (encO a) w) := by
  have HB0 : Aside0 (Below w.heap.size w (w.alloc (.cells #[.int .i64 a.f0, .int .i64 a.f1, .string a.f2, .string a.f3, .int .i64 a.f4, .int .i64 a.f5, .int .i64 a.f6] 41))) := ⟨(Below.refl _ _).alloc (Nat.le_refl _) _⟩
  have HEn : Aside0 (Calls Tryd.prog 68 #[.agg #[.int .i64 a.f0, .int .i64 a.f1, .string a.f2, .string a.f3, .int .i64 a.f4, .int .i64 a.f5, .int .i64 a.f6], .func (.func 27) #[] #[], .func (.func 69) #[] #[]] (w.alloc (.cells #[.int .i64 a.f0, .int .i64 a.f1, .string a.f2, .string a.f3, .int .i64 a.f4, .int .i64 a.f5, .int .i64 a.f6] 41)) (EncIs (encO a) (w.alloc (.cells #[.int .i64 a.f0, .int .i64 a.f1, .string a.f2, .string a.f3, .int .i64 a.f4, .int .i64 a.f5, .int .i64 a.f6] 41)))) := ⟨encode_order a _ ⟨hT_.out.below HB0.out⟩ hz⟩
  go_enter Tryd.func24, Tryd.ntmps24
  go_wp2_with (go_at_call 68; ((with_reducible refine HEn.out.mono ?_)); rintro en w1 ⟨rfl, hb⟩; have B1 := Aside0.mk (HB0.out.trans (hb.mono HB0.out.size)); clear hb)
  go_ret2
  exact ⟨rfl, B1.out⟩
def post_EncodeOrder.f (a0_0 : Int) (a0_1 : Int) (a0_2 : ByteArray) (a0_3 : ByteArray) (a0_4 : Int) (a0_5 : Int) (a0_6 : Int) : Option (ByteArray × Int) := if a0_2.size ≤ 140737488351232 ∧ a0_3.size ≤ 140737488351232 then some (encO ⟨a0_0, a0_1, a0_2, a0_3, a0_4, a0_5, a0_6⟩) else none
theorem post_EncodeOrder.calls (a0_0 : Int) (a0_1 : Int) (a0_2 : ByteArray) (a0_3 : ByteArray) (a0_4 : Int) (a0_5 : Int) (a0_6 : Int) (r1 : ByteArray) (r2 : Int) (w : World) (hT_ : Aside0 (Tabs_ w)) (h : post_EncodeOrder.f a0_0 a0_1 a0_2 a0_3 a0_4 a0_5 a0_6 = some (r1, r2)) :
    Calls Tryd.prog 24 #[.agg #[.int .i64 a0_0, .int .i64 a0_1, .string a0_2, .string a0_3, .int .i64 a0_4, .int .i64 a0_5, .int .i64 a0_6]] w fun e w' => e = .returned (.tuple #[.string r1, .int .i64 r2]) ∧ Below w.heap.size w w' := by
  unfold post_EncodeOrder.f at h
  by_cases c : a0_2.size ≤ 140737488351232 ∧ a0_3.size ≤ 140737488351232
  · rw [if_pos c] at h
    have hw := EncodeOrder_walk ⟨a0_0, a0_1, a0_2, a0_3, a0_4, a0_5, a0_6⟩ w hT_ c
    rw [Option.some.inj h] at hw
    exact hw
  · rw [if_neg c] at h; cases h
end Go.Proofs.YtgfigkfcmkdjdaaDoor.B
end
section
namespace Go.Proofs.YtgfigkfcmkdjdaaDoor.B
open Go.RowKit Go.Proofs.YtgfigkfcmkdjdaaDoorW.PrintWords Go.Proofs.YtgfigkfcmkdjdaaDoorW.PrintLast Go.Proofs.YtgfigkfcmkdjdaaDoorW.PrintMore
attribute [local go_sem] max2_int min2_int max_two min_two max_three min_three max_four min_four   -- for this text's walks alone
set_option linter.unusedVariables false
set_option linter.unusedSimpArgs false
theorem valsOf_none (l : List S78) (t : Int) (h : t ∉ tagsOf l) : valsOf l t = none := by
  unfold valsOf
  rw [List.find?_eq_none.2 (fun x hx => by
    intro e
    exact h (List.mem_map.2 ⟨x, hx, by simpa using e⟩))]
  rfl
theorem dupL_no : ∀ (l seen : List S78), (tagsOf (seen ++ l)).Nodup → dupL seen l = false
  | [], _, _ => rfl
  | x :: r, seen, h => by
    have hx : x.f0 ∉ tagsOf seen := by
      intro hm
      have h2 : (tagsOf seen ++ x.f0 :: tagsOf r).Nodup := by unfold tagsOf at h ⊢; simpa using h
      exact (List.nodup_append.1 h2).2.2 _ hm _ List.mem_cons_self rfl
    rw [dupL_cons, if_neg (by rw [valsOf_none seen _ hx]; decide)]
    exact dupL_no r (seen ++ [x]) (by rw [List.append_assoc]; exact h)
theorem readB_formed (L : List S78) (hn : (tagsOf L).Nodup) (h0 : 0 < L.length) (h35 : (rd_T78 L 0).f0 = 35) (hpos : ∀ x ∈ L, 0 ≤ x.f0) (he : (allFormsL (L.map pairF)).2 = 0) :
    readB ⟨(allFormsL (L.map pairF)).1.toArray⟩ = (some (formOf L), 0) := by
  unfold allFormsL at he ⊢
  by_cases c : 64 < (L.map pairF).length
  · rw [if_pos c] at he; simp at he
  rw [if_neg c] at he ⊢
  have hf := fieldsL_formed (L.map pairF) 0 0 he (by omega)
  have hb : fieldsB ⟨(formsL (L.map pairF)).1.toArray⟩ = L := by
    unfold fieldsB
    rw [show (⟨(formsL (L.map pairF)).1.toArray⟩ : ByteArray).data.toList = (formsL (L.map pairF)).1 by simp, hf]
    simp only [List.map_map]
    conv => rhs; rw [← List.map_id L]
    apply List.map_congr_left
    intro x hx
    show mkF (readF (pairF x)) = x
    have := hpos x hx
    unfold mkF readF pairF
    simp only
    rw [Int.toNat_of_nonneg this]
  unfold readB
  rw [hb, show (⟨(formsL (L.map pairF)).1.toArray⟩ : ByteArray).data.toList = (formsL (L.map pairF)).1 by simp, hf]
  simp only
  rw [if_neg (by simp), if_neg (fun h => h.elim (fun h => by omega) (fun h => h h35)), if_neg (by rw [dupL_no L [] (by simpa using hn)]; decide)]
theorem may_cons (b : UInt8) (h : b.toNat < 128) (hm : mayB b.toNat = true) (t : List UInt8) : allMay (b :: t) = allMay t := by
  rw [allMay_cons _ (by simp), dec_ascii _ _ h, hm]
  simp
theorem allMay_digs : ∀ (ds : List UInt8), (∀ x ∈ ds, isDig x) → allMay ds = true
  | [], _ => allMay_nil
  | b :: t, h => by
    have hb := h b List.mem_cons_self
    unfold isDig at hb
    rw [may_cons b (by omega) (by rw [mayB_eq]; omega)]
    exact allMay_digs t (fun x hx => h x (List.mem_cons_of_mem _ hx))
theorem nameL_may (n : Nat) : ∀ (l : List UInt8) (c : Nat), l.length ≤ n → c ≤ 20 → nameL l c = true → allMay l = true ∧ l.length ≤ 4 * (20 - c) := by
  induction n with
  | zero => intro l c h _ _; rw [List.eq_nil_of_length_eq_zero (show l.length = 0 by omega)]; exact ⟨allMay_nil, Nat.zero_le _⟩
  | succ n ih =>
    intro l c h hc hn
    by_cases hl : l = []
    · rw [hl]; exact ⟨allMay_nil, Nat.zero_le _⟩
    by_cases h20 : 20 ≤ c
    · rw [nameL_full l hl c h20] at hn; cases hn
    cases hm : mayN (dec l).1 with
    | false => rw [nameL_bad l hl c hm] at hn; cases hn
    | true =>
      rw [nameL_go l hl c (by omega) hm] at hn
      have hw := dec_width l
      have hw4 := dec_width4 l
      have hp := List.length_pos_iff.2 hl
      have h2 := ih (l.drop (dec l).2) (c + 1) (by rw [List.length_drop]; omega) (by omega) hn
      rw [List.length_drop] at h2
      rw [allMay_cons l hl, h2.1]
      have := (mayN_eq _).1 hm
      refine ⟨?_, by omega⟩
      rw [show mayB (dec l).1 = true from (mayB_eq _).2 (by omega)]; rfl
theorem nameL_value {l : List UInt8} (h : nameL l 0 = true) : valueL l = true ∧ l.length ≤ 80 := by
  obtain ⟨h1, h2⟩ := nameL_may l.length l 0 (Nat.le_refl _) (by omega) h
  have h3 : 1 ≤ l.length := by
    rcases Nat.eq_zero_or_pos l.length with g | g
    · rw [List.eq_nil_of_length_eq_zero g, nameL_nil] at h; simp at h
    · exact g
  refine ⟨?_, by omega⟩
  unfold valueL
  rw [h1, decide_eq_true h3, decide_eq_true (show l.length ≤ 512 by omega)]; rfl
theorem digs_value (n : Nat) (h : n ≤ 9223372036854775807) : valueL (digitsN n) = true := by
  unfold valueL
  rw [allMay_digs _ (digitsN_dig n), decide_eq_true (digitsN_pos n), decide_eq_true (show (digitsN n).length ≤ 512 by have := digitsN_len 19 n (by omega); omega)]; rfl
theorem formL_good (t : Int) (v : List UInt8) (h1 : 1 ≤ t) (h2 : t ≤ 99999) (hv : valueL v = true) : formL t v = (digitsN t.toNat ++ 61 :: (v ++ [1]), 0) := by
  unfold formL
  rw [if_neg (by omega), if_pos hv]
def fieldL (f : Int × List UInt8) : List UInt8 := digitsN f.1.toNat ++ 61 :: (f.2 ++ [1])
def goodF (f : Int × List UInt8) : Prop := 1 ≤ f.1 ∧ f.1 ≤ 99999 ∧ valueL f.2 = true
theorem formsL_good : ∀ l : List (Int × List UInt8), (∀ f ∈ l, goodF f) → formsL l = ((l.map fieldL).flatten, 0)
  | [], _ => rfl
  | f :: r, h => by
    obtain ⟨h1, h2, h3⟩ := h f List.mem_cons_self
    have ih := formsL_good r (fun x hx => h x (List.mem_cons_of_mem _ hx))
    unfold formsL
    rw [formL_good f.1 f.2 h1 h2 h3, ih, if_neg (by simp), if_neg (by simp)]
    rfl
theorem allFormsL_good (l : List (Int × List UInt8)) (hl : l.length ≤ 64) (h : ∀ f ∈ l, goodF f) : allFormsL l = ((l.map fieldL).flatten, 0) := by
  unfold allFormsL
  rw [if_neg (by omega)]
  exact formsL_good l h
theorem goodF_name (t : Int) (s : ByteArray) (h1 : 1 ≤ t) (h2 : t ≤ 99999) (h : nameL s.data.toList 0 = true) : goodF (t, s.data.toList) := ⟨h1, h2, (nameL_value h).1⟩
theorem goodF_num (t n : Int) (h1 : 1 ≤ t) (h2 : t ≤ 99999) (h3 : n ≤ 9223372036854775807) : goodF (t, (digitsB n).data.toList) := ⟨h1, h2, by rw [digitsB_list]; exact digs_value _ (by omega)⟩
theorem goodF_one (t : Int) (b : UInt8) (h1 : 1 ≤ t) (h2 : t ≤ 99999) (hb : b.toNat < 128) (hm : mayB b.toNat = true) : goodF (t, (⟨#[b]⟩ : ByteArray).data.toList) := ⟨h1, h2, by
  unfold valueL
  show (decide (1 ≤ [b].length) && (decide ([b].length ≤ 512) && allMay [b])) = true
  rw [may_cons b hb hm, allMay_nil]; rfl⟩
theorem numP_digs (n : Nat) (h : n ≤ 9223372036854775807) : numP (digitsN n) = (n, 0) := by
  have hne := digitsN_ne n
  have hv : valFrom 0 (digitsN n) = n := by rw [valFrom_zero, valOf_digitsN]
  unfold numP
  rw [if_neg (by
    rintro (g | ⟨g1, g2⟩)
    · exact hne g
    · by_cases c : n < 10
      · rw [digitsN_small c] at g2; simp at g2
      · match hd : digitsN n with
        | [] => exact hne hd
        | b :: t =>
          rw [hd] at g1
          have := digitsN_head n (by omega) b t hd
          simp at g1
          exact this (by rw [g1]; rfl))]
  have := noP_all (digitsN n) 0 (digitsN_dig n) (by omega)
  rw [hv] at this
  exact this
theorem ask_name_ok {F : FormS} {t : Int} {s : ByteArray} (he : F.e = 0) (hv : F.vals t = some s) (hn : nameL s.data.toList 0 = true) : askL takeName ⟨#[]⟩ F t = (s, F.mark t) := by
  rw [askL_some takeName _ F t he hv]
  have : takeName s = (s, 0) := by unfold takeName; rw [if_pos hn]
  rw [this, if_pos rfl]
theorem ask_int_ok {F : FormS} {t lo hi n : Int} (he : F.e = 0) (hv : F.vals t = some (digitsB n)) (h0 : 0 ≤ n) (h9 : n ≤ 9223372036854775807) (hl : lo ≤ n) (hh : n ≤ hi) : askL (fun s => takeInt s lo hi) 0 F t = (n, F.mark t) := by
  rw [askL_some (fun s => takeInt s lo hi) _ F t he hv]
  have : takeInt (digitsB n) lo hi = (n, 0) := by
    unfold takeInt
    rw [digitsB_list, numP_digs _ (by omega)]
    simp only
    rw [if_neg (by rintro ⟨_, h | h⟩ <;> omega), Int.toNat_of_nonneg h0]; rfl
  simp only [this]
  rw [if_pos trivial]
theorem doneL_ok {F : FormS} (h0 : F.e = 0) (h : spareL F.asked F.order = (0, 0)) : doneL F = (0, 0) := by
  unfold doneL
  rw [if_neg (by simpa using h0), h]
theorem dg35 : digitsN 35 = [51, 53] := by rw [digitsN_step (n := 35) (by decide), digitsN_small (n := 35 / 10) (by decide)]; rfl
theorem dg11 : digitsN 11 = [49, 49] := by rw [digitsN_step (n := 11) (by decide), digitsN_small (n := 11 / 10) (by decide)]; rfl
theorem dg34 : digitsN 34 = [51, 52] := by rw [digitsN_step (n := 34) (by decide), digitsN_small (n := 34 / 10) (by decide)]; rfl
theorem dg55 : digitsN 55 = [53, 53] := by rw [digitsN_step (n := 55) (by decide), digitsN_small (n := 55 / 10) (by decide)]; rfl
theorem dg54 : digitsN 54 = [53, 52] := by rw [digitsN_step (n := 54) (by decide), digitsN_small (n := 54 / 10) (by decide)]; rfl
theorem dg38 : digitsN 38 = [51, 56] := by rw [digitsN_step (n := 38) (by decide), digitsN_small (n := 38 / 10) (by decide)]; rfl
theorem dg44 : digitsN 44 = [52, 52] := by rw [digitsN_step (n := 44) (by decide), digitsN_small (n := 44 / 10) (by decide)]; rfl
end Go.Proofs.YtgfigkfcmkdjdaaDoor.B
end
