/- The functions that the law reaches, as plain Lean functions, and their contracts: texts merged. -/
import Derived.Laws.StructEq
import Derived.Test.YtgfigkfcmkdjdaaDoorzAskBack2
import Derived.Test.YtgfigkfcmkdjdaaDoorzAskBack0
import Derived.Test.YtgfigkfcmkdjdaaDoorzAskBack1
import Derived.Test.YtgfigkfcmkdjdaaDoorzAskBack3
import Derived.Test.YtgfigkfcmkdjdaaDoorzAskBack4
import Derived.Test.YtgfigkfcmkdjdaaDoorzAskBack5
import Derived.Test.YtgfigkfcmkdjdaaDoorzAskBack6
import Derived.Test.YtgfigkfcmkdjdaaDoorzAskBack7
import Derived.Test.YtgfigkfcmkdjdaaDoorzAskBack8
import Derived.Test.YtgfigkfcmkdjdaaDoorzAskBack9
import Derived.Test.YtgfigkfcmkdjdaaDoorzAskBack10
import Derived.Test.YtgfigkfcmkdjdaaDoorzAskBack11
import Derived.Test.YtgfigkfcmkdjdaaDoorzAskBack12
import Derived.Test.YtgfigkfcmkdjdaaDoorzAskBack13
import Derived.Test.YtgfigkfcmkdjdaaDoorzAskBack14
import Derived.Test.YtgfigkfcmkdjdaaDoorzAskBack15
import Derived.Test.YtgfigkfcmkdjdaaDoorzAskBack16
import Derived.Test.YtgfigkfcmkdjdaaDoorzAskBack17
import Derived.Test.YtgfigkfcmkdjdaaDoorzAskBack18
import Derived.Test.YtgfigkfcmkdjdaaDoorzAskBack19
import Derived.Test.YtgfigkfcmkdjdaaDoorzAskBack20
section
namespace Go.Proofs.YtgfigkfcmkdjdaaDoor.B
open Go.RowKit Go.Proofs.YtgfigkfcmkdjdaaDoorW.PrintWords Go.Proofs.YtgfigkfcmkdjdaaDoorW.PrintLast Go.Proofs.YtgfigkfcmkdjdaaDoorW.PrintMore
attribute [local go_sem] max2_int min2_int max_two min_two max_three min_three max_four min_four   -- for this text's walks alone
set_option linter.unusedVariables false
set_option linter.unusedSimpArgs false
theorem few_f (a : AskV) : spigotlaw12_few.f a.f0 a.f1 a.f2 a.f3 a.f4 a.f5 a.f6 a.f7 a.f8 a.f9 a.f10 a.f11 a.f12 a.f13 = some (decide (((a.f1.size : Int) ≤ 200 ∧ (a.f2.size : Int) ≤ 200 ∧ (a.f3.size : Int) ≤ 200 ∧ (a.f4.size : Int) ≤ 200) ∧ (a.f13.length : Int) ≤ 100)) := by
  unfold spigotlaw12_few.f
  by_cases c1 : (a.f1.size : Int) ≤ 200
  case neg => rw [if_neg c1, decide_eq_false (fun h => c1 h.1.1)]
  rw [if_pos c1]
  by_cases c2 : (a.f2.size : Int) ≤ 200
  case neg => rw [if_neg c2, decide_eq_false (fun h => c2 h.1.2.1)]
  rw [if_pos c2]
  by_cases c3 : (a.f3.size : Int) ≤ 200
  case neg => rw [if_neg c3, decide_eq_false (fun h => c3 h.1.2.2.1)]
  rw [if_pos c3]
  by_cases c4 : (a.f4.size : Int) ≤ 200
  case neg => rw [if_neg c4, decide_eq_false (fun h => c4 h.1.2.2.2)]
  rw [if_pos c4]
  congr 1
  rw [decide_eq_decide]
  exact ⟨fun h => ⟨⟨c1, c2, c3, c4⟩, h⟩, fun h => h.2⟩
set_option maxRecDepth 100000 in
set_option maxHeartbeats 8000000 in
theorem askBack_walk (a : AskV) (A : Option Addr) (c : Nat) (w : World) (hT_ : Aside0 (Tabs_ w)) (hr0 : Kd.C (Kd.int .i64) w A a.f13.length a.f13) (hc0 : a.f13.length ≤ c) : Calls Tryd.prog 11 #[.agg #[.int .i64 a.f0, .string a.f1, .string a.f2, .string a.f3, .string a.f4, .int .i64 a.f5, .int .i64 a.f6, .int .i64 a.f7, .int .i64 a.f8, .int .i64 a.f9, .int .i64 a.f10, .int .i64 a.f11, .int .i64 a.f12, .slice A a.f13.length c]] w (TrueW w) := by
  have HXa0 := Aside0.mk (blk_new w (.cells #[.int .i64 a.f0, .string a.f1, .string a.f2, .string a.f3, .string a.f4, .int .i64 a.f5, .int .i64 a.f6, .int .i64 a.f7, .int .i64 a.f8, .int .i64 a.f9, .int .i64 a.f10, .int .i64 a.f11, .int .i64 a.f12, .slice A a.f13.length c] 68))
  have HL0 : Aside0 (Below w.heap.size w (w.alloc (.cells #[.int .i64 a.f0, .string a.f1, .string a.f2, .string a.f3, .string a.f4, .int .i64 a.f5, .int .i64 a.f6, .int .i64 a.f7, .int .i64 a.f8, .int .i64 a.f9, .int .i64 a.f10, .int .i64 a.f11, .int .i64 a.f12, .slice A a.f13.length c] 68))) := ⟨(Below.refl _ _).alloc (Nat.le_refl _) _⟩
  have HCa := Aside0.mk hr0
  have HTb : Aside0 (∀ W, Below w.heap.size w W → Aside0 (Tabs_ W)) := ⟨fun W h => ⟨hT_.out.below h⟩⟩
  have HAw : Aside0 (∀ W, Below w.heap.size w W → Calls Tryd.prog 38 #[] W fun e w' => e = .returned (.bool true) ∧ Below W.heap.size W w') := ⟨fun W h => spigotlaw12_awake.calls true W (HTb.out W h) rfl⟩
  obtain ⟨fw, hfw⟩ : ∃ b, decide (((a.f1.size : Int) ≤ 200 ∧ (a.f2.size : Int) ≤ 200 ∧ (a.f3.size : Int) ≤ 200 ∧ (a.f4.size : Int) ≤ 200) ∧ (a.f13.length : Int) ≤ 100) = b := ⟨_, rfl⟩
  have HFw : Aside0 (∀ W, Below w.heap.size w W → Calls Tryd.prog 39 #[.agg #[.int .i64 a.f0, .string a.f1, .string a.f2, .string a.f3, .string a.f4, .int .i64 a.f5, .int .i64 a.f6, .int .i64 a.f7, .int .i64 a.f8, .int .i64 a.f9, .int .i64 a.f10, .int .i64 a.f11, .int .i64 a.f12, .slice A a.f13.length c]] W fun e w' => e = .returned (.bool fw) ∧ Below W.heap.size W w') := ⟨fun W h => spigotlaw12_few.calls a.f0 a.f1 a.f2 a.f3 a.f4 a.f5 a.f6 a.f7 a.f8 a.f9 a.f10 a.f11 a.f12 A c a.f13 fw W (Kd.C_below HCa.out h) hc0 (by rw [few_f, hfw])⟩
  cases fw with
  | false =>
    clear hr0 hc0 hfw HCa
    go_enter Tryd.func11, Tryd.ntmps11
    go_wp2_with (first
      | (go_at_call 38; ((with_reducible refine (HAw.out _ HL0.out).mono ?_)); rintro e w1 ⟨rfl, hb⟩; have HL1 := Aside0.mk (HL0.out.trans (hb.mono HL0.out.size)); have HXa := Aside0.mk (blk_below HXa0.out hb); have hca := fun i => blk_cell HXa.out i; clear hb HAw)
      | (go_at_call 39; ((with_reducible refine (HFw.out _ HL1.out).mono ?_)); rintro e w2 ⟨rfl, hb⟩; have HL2 := Aside0.mk (HL1.out.trans (hb.mono HL1.out.size)); clear hb HFw))
    go_ret
    exact ⟨rfl, HL2.out⟩
  | true =>
    obtain ⟨⟨s1, s2, s3, s4⟩, s5⟩ := of_decide_eq_true hfw
    have HEn : Aside0 (∀ W, Below w.heap.size w W → Calls Tryd.prog 40 #[.agg #[.int .i64 a.f0, .string a.f1, .string a.f2, .string a.f3, .string a.f4, .int .i64 a.f5, .int .i64 a.f6, .int .i64 a.f7, .int .i64 a.f8, .int .i64 a.f9, .int .i64 a.f10, .int .i64 a.f11, .int .i64 a.f12, .slice A a.f13.length c]] W fun e w' => e = .returned (.tuple #[.string (encA a).1, .int .i64 (encA a).2]) ∧ Below W.heap.size W w') := ⟨fun W h => ask_Encode.calls 68 a.f0 a.f1 a.f2 a.f3 a.f4 a.f5 a.f6 a.f7 a.f8 a.f9 a.f10 a.f11 a.f12 A c a.f13 _ _ W (HTb.out W h) (Kd.C_below HCa.out h) hc0 (encode_f a (by omega) (by omega) (by omega) (by omega))⟩
    by_cases hr : RightA a
    · have he := encA_right a hr
      have hl := (rightA_sizes a hr).2.2.2.2
      have HRt : Aside0 (∀ W, Below w.heap.size w W → Calls Tryd.prog 42 #[.agg #[.int .i64 a.f0, .string a.f1, .string a.f2, .string a.f3, .string a.f4, .int .i64 a.f5, .int .i64 a.f6, .int .i64 a.f7, .int .i64 a.f8, .int .i64 a.f9, .int .i64 a.f10, .int .i64 a.f11, .int .i64 a.f12, .slice A a.f13.length c]] W fun e w' => e = .returned (.bool true) ∧ Below W.heap.size W w') := ⟨fun W h => ask_Right.calls 68 a.f0 a.f1 a.f2 a.f3 a.f4 a.f5 a.f6 a.f7 a.f8 a.f9 a.f10 a.f11 a.f12 A c a.f13 true W (Kd.C_below HCa.out h) hc0 (by rw [right_f a (by omega) (by omega) (by omega) (by omega), decide_eq_true hr])⟩
      have HDe : Aside0 (∀ W, Below w.heap.size w W → Calls Tryd.prog 41 #[.string (encA a).1] W (AskIs (a, 0, 0) W)) := ⟨fun W h => by
        have := ask_Decode_walk (encA a).1 W (HTb.out W h) (by have := encA_size a; omega)
        rwa [encA_back a hr] at this⟩
      have HSm : Aside0 (∀ W B d, Kd.C (Kd.int .i64) W A a.f13.length a.f13 → Kd.C (Kd.int .i64) W B a.f13.length a.f13 → a.f13.length ≤ d → Calls Tryd.prog 43 #[.agg #[.int .i64 a.f0, .string a.f1, .string a.f2, .string a.f3, .string a.f4, .int .i64 a.f5, .int .i64 a.f6, .int .i64 a.f7, .int .i64 a.f8, .int .i64 a.f9, .int .i64 a.f10, .int .i64 a.f11, .int .i64 a.f12, .slice B a.f13.length d], .agg #[.int .i64 a.f0, .string a.f1, .string a.f2, .string a.f3, .string a.f4, .int .i64 a.f5, .int .i64 a.f6, .int .i64 a.f7, .int .i64 a.f8, .int .i64 a.f9, .int .i64 a.f10, .int .i64 a.f11, .int .i64 a.f12, .slice A a.f13.length c]] W fun e w' => e = .returned (.bool true) ∧ Below W.heap.size W w') := ⟨fun W B d h1 h2 h3 => same12_walk a B d A c W hl h2 h3 h1 hc0⟩
      have he2 : (encA a).2 = 0 := by rw [he]
      rw [he2] at HEn
      generalize (encA a).1 = bs at *
      clear hr0 hc0 hfw s1 s2 s3 s4 s5 hr he hl he2
      go_enter Tryd.func11, Tryd.ntmps11
      go_wp2_with (first
        | (go_at_call 38; ((with_reducible refine (HAw.out _ HL0.out).mono ?_)); rintro e w1 ⟨rfl, hb⟩; have HL1 := Aside0.mk (HL0.out.trans (hb.mono HL0.out.size)); have HX1 := Aside0.mk (blk_below HXa0.out hb); have hca := fun i => blk_cell HX1.out i; clear hb HAw)
        | (go_at_call 39; ((with_reducible refine (HFw.out _ HL1.out).mono ?_)); rintro e w2 ⟨rfl, hb⟩; have HL2 := Aside0.mk (HL1.out.trans (hb.mono HL1.out.size)); clear hca; have HX2 := Aside0.mk (blk_below HX1.out hb); have hca := fun i => blk_cell HX2.out i; clear hb HFw)
        | (go_at_call 40; ((with_reducible refine (HEn.out _ HL2.out).mono ?_)); rintro e w3 ⟨rfl, hb⟩; have HL3 := Aside0.mk (HL2.out.trans (hb.mono HL2.out.size)); clear hca; have HX3 := Aside0.mk (blk_below HX2.out hb); clear hb HEn)
        | (go_at_call 41; ((with_reducible refine (HDe.out _ HL3.out).mono ?_)); rintro e w5 ⟨v_, rfl, hR, hb⟩; obtain ⟨B, d, rfl, hd, hCb⟩ := Kd.R_reads hR; have HL5 := Aside0.mk (HL3.out.trans (hb.mono HL3.out.size)); have HX5 := Aside0.mk (blk_below HX3.out hb); have HCb := Aside0.mk hCb; have HD5 := Aside0.mk hd; clear hb hR hCb hd HDe))
      have hal : Below w5.heap.size w5 (w5.alloc (.cells #[.int .i64 a.f0, .string a.f1, .string a.f2, .string a.f3, .string a.f4, .int .i64 a.f5, .int .i64 a.f6, .int .i64 a.f7, .int .i64 a.f8, .int .i64 a.f9, .int .i64 a.f10, .int .i64 a.f11, .int .i64 a.f12, .slice B a.f13.length d] 68)) := (Below.refl _ _).alloc (Nat.le_refl _) _
      have HXa := Aside0.mk (blk_below HX5.out hal)
      have HXb := Aside0.mk (blk_new w5 (.cells #[.int .i64 a.f0, .string a.f1, .string a.f2, .string a.f3, .string a.f4, .int .i64 a.f5, .int .i64 a.f6, .int .i64 a.f7, .int .i64 a.f8, .int .i64 a.f9, .int .i64 a.f10, .int .i64 a.f11, .int .i64 a.f12, .slice B a.f13.length d] 68))
      have HL6 : Aside0 (Below w.heap.size w (w5.alloc (.cells #[.int .i64 a.f0, .string a.f1, .string a.f2, .string a.f3, .string a.f4, .int .i64 a.f5, .int .i64 a.f6, .int .i64 a.f7, .int .i64 a.f8, .int .i64 a.f9, .int .i64 a.f10, .int .i64 a.f11, .int .i64 a.f12, .slice B a.f13.length d] 68)).drew) := ⟨(HL5.out.trans (hal.mono HL5.out.size)).drew⟩
      have HM6 : Aside0 (Below w5.heap.size w5 (w5.alloc (.cells #[.int .i64 a.f0, .string a.f1, .string a.f2, .string a.f3, .string a.f4, .int .i64 a.f5, .int .i64 a.f6, .int .i64 a.f7, .int .i64 a.f8, .int .i64 a.f9, .int .i64 a.f10, .int .i64 a.f11, .int .i64 a.f12, .slice B a.f13.length d] 68)).drew) := ⟨hal.drew⟩
      clear hal
      refine start_ (n := 18) (S := fun w' => (∀ i, w'.cell? ⟨w.heap.size, i, none⟩ = (#[.int .i64 a.f0, .string a.f1, .string a.f2, .string a.f3, .string a.f4, .int .i64 a.f5, .int .i64 a.f6, .int .i64 a.f7, .int .i64 a.f8, .int .i64 a.f9, .int .i64 a.f10, .int .i64 a.f11, .int .i64 a.f12, .slice A a.f13.length c] : Array Value)[i]?) ∧ (∀ i, w'.cell? ⟨w5.heap.size, i, none⟩ = (#[.int .i64 a.f0, .string a.f1, .string a.f2, .string a.f3, .string a.f4, .int .i64 a.f5, .int .i64 a.f6, .int .i64 a.f7, .int .i64 a.f8, .int .i64 a.f9, .int .i64 a.f10, .int .i64 a.f11, .int .i64 a.f12, .slice B a.f13.length d] : Array Value)[i]?) ∧ (w.heap.size < w'.heap.size) ∧ (w5.heap.size < w'.heap.size)) (ds := []) #[false, false, false, false, false, false, false, false, false, false, false, false, false, false, false, false, false, false] (by kernel_rfl) rfl rfl ⟨(fun i => blk_cell HXa.out i), (fun i => blk_cell HXb.out i), blk_lt HXa.out, blk_lt HXb.out⟩ (fun hHeld => ?_)
      refine take_ (i := 0) (N := some 28) (v := ?_) (a' := ?_) #[true, false, false, false, false, false, false, false, false, false, false, false, false, false, false, false, false, false] rfl rfl (by kernel_rfl) (fun _ _ _ h => h) (Or.inl ⟨by rfl, ?_⟩) hHeld ?_ ?_
      rotate_left
      · rintro w' ⟨s0, s1, s2, s3⟩
        go_simp
        with_reducible rfl
      rotate_left
      · simp only [Act.put, List.setIfInBounds_toArray, List.set_cons_zero, List.set_cons_succ, i64_w, i32_w]
        rfl
      refine one_ (i := 1) (N := some 29) #[true, true, false, false, false, false, false, false, false, false, false, false, false, false, false, false, false, false] rfl rfl (by kernel_rfl) (by decide) (fun K hK => ?_)
      refine goes_ Tryd.func42 (by kernel_rfl) rfl #[.agg #[.int .i64 a.f0, .string a.f1, .string a.f2, .string a.f3, .string a.f4, .int .i64 a.f5, .int .i64 a.f6, .int .i64 a.f7, .int .i64 a.f8, .int .i64 a.f9, .int .i64 a.f10, .int .i64 a.f11, .int .i64 a.f12, .slice A a.f13.length c]] (by rfl) rfl rfl (by simp only [List.map_toArray, List.map_cons, List.map_nil]; rfl) ?_
      with_reducible refine (HRt.out _ HL6.out).mono ?_
      rintro e w7 ⟨rfl, hb7⟩
      refine ⟨_, rfl, ?_⟩
      have HL7 := Aside0.mk (HL6.out.trans (hb7.mono HL6.out.size))
      have HM7 := Aside0.mk (HM6.out.trans (hb7.mono HM6.out.size))
      refine hK.out _ _ ⟨(fun i => (hb7.cell (p := ⟨w.heap.size, i, none⟩) hHeld.2.2.1).trans (hHeld.1 i)), (fun i => (hb7.cell (p := ⟨w5.heap.size, i, none⟩) hHeld.2.2.2).trans (hHeld.2.1 i)), (Nat.lt_of_lt_of_le hHeld.2.2.1 hb7.size), (Nat.lt_of_lt_of_le hHeld.2.2.2 hb7.size)⟩ (fun hHeld => ?_)
      clear hK K
      refine norm_ (a' := ?_) ?_ ?_
      rotate_left
      · show Act.put _ (some 29) _ = _
        simp only [Act.put, List.setIfInBounds_toArray, List.set_cons_zero, List.set_cons_succ, i64_w, i32_w]
        rfl
      refine pure_ (i := 2) (N := some 30) (v := ?_) (a' := ?_) #[true, true, true, false, false, false, false, false, false, false, false, false, false, false, false, false, false, false] rfl rfl (by kernel_rfl) (fun _ _ _ h => h) (Or.inl ⟨by rfl, ?_⟩) ?_ ?_
      rotate_left
      · intro w'
        go_simp
        with_reducible rfl
      rotate_left
      · simp only [Act.put, List.setIfInBounds_toArray, List.set_cons_zero, List.set_cons_succ, i64_w, i32_w]
        rfl
      refine pure_ (i := 3) (N := some 31) (v := ?_) (a' := ?_) #[true, true, true, true, false, false, false, false, false, false, false, false, false, false, false, false, false, false] rfl rfl (by kernel_rfl) (fun _ _ _ h => h) (Or.inl ⟨by rfl, ?_⟩) ?_ ?_
      rotate_left
      · intro w'
        go_simp
        with_reducible rfl
      rotate_left
      · simp only [Act.put, List.setIfInBounds_toArray, List.set_cons_zero, List.set_cons_succ, i64_w, i32_w]
        rfl
      refine pure_ (i := 4) (N := some 32) (v := ?_) (a' := ?_) #[true, true, true, true, true, false, false, false, false, false, false, false, false, false, false, false, false, false] rfl rfl (by kernel_rfl) (fun _ _ _ h => h) (Or.inl ⟨by rfl, ?_⟩) ?_ ?_
      rotate_left
      · intro w'
        go_simp
        with_reducible rfl
      rotate_left
      · simp only [Act.put, List.setIfInBounds_toArray, List.set_cons_zero, List.set_cons_succ, i64_w, i32_w]
        rfl
      refine pure_ (i := 5) (N := some 33) (v := ?_) (a' := ?_) #[true, true, true, true, true, true, false, false, false, false, false, false, false, false, false, false, false, false] rfl rfl (by kernel_rfl) (fun _ _ _ h => h) (Or.inl ⟨by rfl, ?_⟩) ?_ ?_
      rotate_left
      · intro w'
        go_simp
        with_reducible rfl
      rotate_left
      · simp only [Act.put, List.setIfInBounds_toArray, List.set_cons_zero, List.set_cons_succ, i64_w, i32_w]
        rfl
      refine pure_ (i := 6) (N := some 34) (v := ?_) (a' := ?_) #[true, true, true, true, true, true, true, false, false, false, false, false, false, false, false, false, false, false] rfl rfl (by kernel_rfl) (fun _ _ _ h => h) (Or.inl ⟨by rfl, ?_⟩) ?_ ?_
      rotate_left
      · intro w'
        go_simp
        with_reducible rfl
      rotate_left
      · simp only [Act.put, List.setIfInBounds_toArray, List.set_cons_zero, List.set_cons_succ, i64_w, i32_w]
        rfl
      refine pure_ (i := 7) (N := some 35) (v := ?_) (a' := ?_) #[true, true, true, true, true, true, true, true, false, false, false, false, false, false, false, false, false, false] rfl rfl (by kernel_rfl) (fun _ _ _ h => h) (Or.inl ⟨by rfl, ?_⟩) ?_ ?_
      rotate_left
      · intro w'
        go_simp
        with_reducible rfl
      rotate_left
      · simp only [Act.put, List.setIfInBounds_toArray, List.set_cons_zero, List.set_cons_succ, i64_w, i32_w]
        rfl
      refine pure_ (i := 8) (N := some 36) (v := ?_) (a' := ?_) #[true, true, true, true, true, true, true, true, true, false, false, false, false, false, false, false, false, false] rfl rfl (by kernel_rfl) (fun _ _ _ h => h) (Or.inl ⟨by rfl, ?_⟩) ?_ ?_
      rotate_left
      · intro w'
        go_simp
        with_reducible rfl
      rotate_left
      · simp only [Act.put, List.setIfInBounds_toArray, List.set_cons_zero, List.set_cons_succ, i64_w, i32_w]
        rfl
      refine pure_ (i := 9) (N := some 37) (v := ?_) (a' := ?_) #[true, true, true, true, true, true, true, true, true, true, false, false, false, false, false, false, false, false] rfl rfl (by kernel_rfl) (fun _ _ _ h => h) (Or.inl ⟨by rfl, ?_⟩) ?_ ?_
      rotate_left
      · intro w'
        go_simp
        with_reducible rfl
      rotate_left
      · simp only [Act.put, List.setIfInBounds_toArray, List.set_cons_zero, List.set_cons_succ, i64_w, i32_w]
        rfl
      refine pure_ (i := 10) (N := some 38) (v := ?_) (a' := ?_) #[true, true, true, true, true, true, true, true, true, true, true, false, false, false, false, false, false, false] rfl rfl (by kernel_rfl) (fun _ _ _ h => h) (Or.inl ⟨by rfl, ?_⟩) ?_ ?_
      rotate_left
      · intro w'
        go_simp
        with_reducible rfl
      rotate_left
      · simp only [Act.put, List.setIfInBounds_toArray, List.set_cons_zero, List.set_cons_succ, i64_w, i32_w]
        rfl
      refine take_ (i := 11) (N := some 39) (v := ?_) (a' := ?_) #[true, true, true, true, true, true, true, true, true, true, true, true, false, false, false, false, false, false] rfl rfl (by kernel_rfl) (fun _ _ _ h => h) (Or.inl ⟨by rfl, ?_⟩) hHeld ?_ ?_
      rotate_left
      · rintro w' ⟨s0, s1, s2, s3⟩
        go_simp
        with_reducible rfl
      rotate_left
      · simp only [Act.put, List.setIfInBounds_toArray, List.set_cons_zero, List.set_cons_succ, i64_w, i32_w]
        rfl
      refine take_ (i := 13) (N := some 41) (v := ?_) (a' := ?_) #[true, true, true, true, true, true, true, true, true, true, true, true, false, true, false, false, false, false] rfl rfl (by kernel_rfl) (fun _ _ _ h => h) (Or.inl ⟨by rfl, ?_⟩) hHeld ?_ ?_
      rotate_left
      · rintro w' ⟨s0, s1, s2, s3⟩
        go_simp
        with_reducible rfl
      rotate_left
      · simp only [Act.put, List.setIfInBounds_toArray, List.set_cons_zero, List.set_cons_succ, i64_w, i32_w]
        rfl
      refine one_ (i := 12) (N := some 40) #[true, true, true, true, true, true, true, true, true, true, true, true, true, true, false, false, false, false] rfl rfl (by kernel_rfl) (by decide) (fun K hK => ?_)
      refine goes_ Tryd.func44 (by kernel_rfl) rfl #[.agg #[.int .i64 a.f0, .string a.f1, .string a.f2, .string a.f3, .string a.f4, .int .i64 a.f5, .int .i64 a.f6, .int .i64 a.f7, .int .i64 a.f8, .int .i64 a.f9, .int .i64 a.f10, .int .i64 a.f11, .int .i64 a.f12, .slice B a.f13.length d]] (by rfl) rfl rfl (by simp only [List.map_toArray, List.map_cons, List.map_nil]; rfl) ?_
      with_reducible refine (plain_any a B d _).mono ?_
      rintro e w8 ⟨rfl, hb8⟩
      refine ⟨_, rfl, ?_⟩
      have HL8 := Aside0.mk (HL7.out.trans (hb8.mono HL7.out.size))
      have HM8 := Aside0.mk (HM7.out.trans (hb8.mono HM7.out.size))
      refine hK.out _ _ ⟨(fun i => (hb8.cell (p := ⟨w.heap.size, i, none⟩) hHeld.2.2.1).trans (hHeld.1 i)), (fun i => (hb8.cell (p := ⟨w5.heap.size, i, none⟩) hHeld.2.2.2).trans (hHeld.2.1 i)), (Nat.lt_of_lt_of_le hHeld.2.2.1 hb8.size), (Nat.lt_of_lt_of_le hHeld.2.2.2 hb8.size)⟩ (fun hHeld => ?_)
      clear hK K
      refine norm_ (a' := ?_) ?_ ?_
      rotate_left
      · show Act.put _ (some 40) _ = _
        simp only [Act.put, List.setIfInBounds_toArray, List.set_cons_zero, List.set_cons_succ, i64_w, i32_w]
        rfl
      refine one_ (i := 14) (N := some 42) #[true, true, true, true, true, true, true, true, true, true, true, true, true, true, true, false, false, false] rfl rfl (by kernel_rfl) (by decide) (fun K hK => ?_)
      refine goes_ Tryd.func44 (by kernel_rfl) rfl #[.agg #[.int .i64 a.f0, .string a.f1, .string a.f2, .string a.f3, .string a.f4, .int .i64 a.f5, .int .i64 a.f6, .int .i64 a.f7, .int .i64 a.f8, .int .i64 a.f9, .int .i64 a.f10, .int .i64 a.f11, .int .i64 a.f12, .slice A a.f13.length c]] (by rfl) rfl rfl (by simp only [List.map_toArray, List.map_cons, List.map_nil]; rfl) ?_
      with_reducible refine (plain_any a A c _).mono ?_
      rintro e w9 ⟨rfl, hb9⟩
      refine ⟨_, rfl, ?_⟩
      have HL9 := Aside0.mk (HL8.out.trans (hb9.mono HL8.out.size))
      have HM9 := Aside0.mk (HM8.out.trans (hb9.mono HM8.out.size))
      refine hK.out _ _ ⟨(fun i => (hb9.cell (p := ⟨w.heap.size, i, none⟩) hHeld.2.2.1).trans (hHeld.1 i)), (fun i => (hb9.cell (p := ⟨w5.heap.size, i, none⟩) hHeld.2.2.2).trans (hHeld.2.1 i)), (Nat.lt_of_lt_of_le hHeld.2.2.1 hb9.size), (Nat.lt_of_lt_of_le hHeld.2.2.2 hb9.size)⟩ (fun hHeld => ?_)
      clear hK K
      refine norm_ (a' := ?_) ?_ ?_
      rotate_left
      · show Act.put _ (some 42) _ = _
        simp only [Act.put, List.setIfInBounds_toArray, List.set_cons_zero, List.set_cons_succ, i64_w, i32_w]
        rfl
      refine one_ (i := 15) (N := some 43) #[true, true, true, true, true, true, true, true, true, true, true, true, true, true, true, true, false, false] rfl rfl (by kernel_rfl) (by decide) (fun K hK => ?_)
      refine goes_ Tryd.func43 (by kernel_rfl) rfl #[.agg #[.int .i64 a.f0, .string a.f1, .string a.f2, .string a.f3, .string a.f4, .int .i64 a.f5, .int .i64 a.f6, .int .i64 a.f7, .int .i64 a.f8, .int .i64 a.f9, .int .i64 a.f10, .int .i64 a.f11, .int .i64 a.f12, .slice B a.f13.length d], .agg #[.int .i64 a.f0, .string a.f1, .string a.f2, .string a.f3, .string a.f4, .int .i64 a.f5, .int .i64 a.f6, .int .i64 a.f7, .int .i64 a.f8, .int .i64 a.f9, .int .i64 a.f10, .int .i64 a.f11, .int .i64 a.f12, .slice A a.f13.length c]] (by rfl) rfl rfl (by simp only [List.map_toArray, List.map_cons, List.map_nil]; rfl) ?_
      with_reducible refine (HSm.out _ B d (Kd.C_below HCa.out HL9.out) (Kd.C_below HCb.out HM9.out) HD5.out).mono ?_
      rintro e w10 ⟨rfl, hb10⟩
      refine ⟨_, rfl, ?_⟩
      have HL10 := Aside0.mk (HL9.out.trans (hb10.mono HL9.out.size))
      have HM10 := Aside0.mk (HM9.out.trans (hb10.mono HM9.out.size))
      refine hK.out _ _ ⟨(fun i => (hb10.cell (p := ⟨w.heap.size, i, none⟩) hHeld.2.2.1).trans (hHeld.1 i)), (fun i => (hb10.cell (p := ⟨w5.heap.size, i, none⟩) hHeld.2.2.2).trans (hHeld.2.1 i)), (Nat.lt_of_lt_of_le hHeld.2.2.1 hb10.size), (Nat.lt_of_lt_of_le hHeld.2.2.2 hb10.size)⟩ (fun hHeld => ?_)
      clear hK K
      refine norm_ (a' := ?_) ?_ ?_
      rotate_left
      · show Act.put _ (some 43) _ = _
        simp only [Act.put, List.setIfInBounds_toArray, List.set_cons_zero, List.set_cons_succ, i64_w, i32_w]
        rfl
      refine pure_ (i := 16) (N := some 44) (v := ?_) (a' := ?_) #[true, true, true, true, true, true, true, true, true, true, true, true, true, true, true, true, true, false] rfl rfl (by kernel_rfl) (fun _ _ _ h => h) (Or.inl ⟨by rfl, ?_⟩) ?_ ?_
      rotate_left
      · intro w'
        go_simp
        with_reducible rfl
      rotate_left
      · simp only [Act.put, List.setIfInBounds_toArray, List.set_cons_zero, List.set_cons_succ, i64_w, i32_w]
        rfl
      refine pure_ (i := 17) (N := some 2) (v := ?_) (a' := ?_) #[true, true, true, true, true, true, true, true, true, true, true, true, true, true, true, true, true, true] rfl rfl (by kernel_rfl) (fun _ _ _ h => h) (Or.inl ⟨by rfl, ?_⟩) ?_ ?_
      rotate_left
      · intro w'
        go_simp
        with_reducible rfl
      rotate_left
      · simp only [Act.put, List.setIfInBounds_toArray, List.set_cons_zero, List.set_cons_succ, i64_w, i32_w]
        rfl
      refine done_ (by kernel_rfl) ?_
      go_wp2
      go_ret
      exact ⟨rfl, HL10.out⟩
    · have he := encA_wrong a hr
      rw [he] at HEn
      clear hr0 hc0 hfw s1 s2 s3 s4 s5 hr he
      go_enter Tryd.func11, Tryd.ntmps11
      go_wp2_with (first
        | (go_at_call 38; ((with_reducible refine (HAw.out _ HL0.out).mono ?_)); rintro e w1 ⟨rfl, hb⟩; have HL1 := Aside0.mk (HL0.out.trans (hb.mono HL0.out.size)); have HX1 := Aside0.mk (blk_below HXa0.out hb); have hca := fun i => blk_cell HX1.out i; clear hb HAw)
        | (go_at_call 39; ((with_reducible refine (HFw.out _ HL1.out).mono ?_)); rintro e w2 ⟨rfl, hb⟩; have HL2 := Aside0.mk (HL1.out.trans (hb.mono HL1.out.size)); clear hca; have HX2 := Aside0.mk (blk_below HX1.out hb); have hca := fun i => blk_cell HX2.out i; clear hb HFw)
        | (go_at_call 40; ((with_reducible refine (HEn.out _ HL2.out).mono ?_)); rintro e w3 ⟨rfl, hb⟩; have HL3 := Aside0.mk (HL2.out.trans (hb.mono HL2.out.size)); clear hb HEn))
      go_ret
      exact ⟨rfl, HL3.out⟩
def spigotlaw12_AskBack.f (a0_0 : Int) (a0_1 a0_2 a0_3 a0_4 : ByteArray) (a0_5 a0_6 a0_7 a0_8 a0_9 a0_10 a0_11 a0_12 : Int) (l0_13 : List Int) : Option Bool := some true
theorem spigotlaw12_AskBack.calls (a0_0 : Int) (a0_1 a0_2 a0_3 a0_4 : ByteArray) (a0_5 a0_6 a0_7 a0_8 a0_9 a0_10 a0_11 a0_12 : Int) (A0_13 : Option Addr) (c0_13 : Nat) (l0_13 : List Int) (r : Bool) (w : World) (hT_ : Aside0 (Tabs_ w)) (hr0_13 : Kd.C (Kd.int .i64) w A0_13 l0_13.length l0_13) (hc0_13 : l0_13.length ≤ c0_13) (h : spigotlaw12_AskBack.f a0_0 a0_1 a0_2 a0_3 a0_4 a0_5 a0_6 a0_7 a0_8 a0_9 a0_10 a0_11 a0_12 l0_13 = some r) :
    Calls Tryd.prog 11 #[.agg #[.int .i64 a0_0, .string a0_1, .string a0_2, .string a0_3, .string a0_4, .int .i64 a0_5, .int .i64 a0_6, .int .i64 a0_7, .int .i64 a0_8, .int .i64 a0_9, .int .i64 a0_10, .int .i64 a0_11, .int .i64 a0_12, .slice A0_13 l0_13.length c0_13]] w fun e w' => e = .returned (.bool r) ∧ Below w.heap.size w w' := by
  obtain rfl := Option.some.inj h
  exact askBack_walk ⟨a0_0, a0_1, a0_2, a0_3, a0_4, a0_5, a0_6, a0_7, a0_8, a0_9, a0_10, a0_11, a0_12, l0_13⟩ A0_13 c0_13 w hT_ hr0_13 hc0_13
end Go.Proofs.YtgfigkfcmkdjdaaDoor.B
end
section
namespace Go.Proofs.YtgfigkfcmkdjdaaDoor.B
open Go.RowKit Go.Proofs.YtgfigkfcmkdjdaaDoorW.PrintWords Go.Proofs.YtgfigkfcmkdjdaaDoorW.PrintLast Go.Proofs.YtgfigkfcmkdjdaaDoorW.PrintMore
attribute [local go_sem] max2_int min2_int max_two min_two max_three min_three max_four min_four   -- for this text's walks alone
set_option linter.unusedVariables false
set_option linter.unusedSimpArgs false
set_option maxRecDepth 100000 in
set_option maxHeartbeats 8000000 in
theorem askSound_walk (s : ByteArray) (w : World) (hT_ : Aside0 (Tabs_ w)) (hs : s.size ≤ 140737488351232) : Calls Tryd.prog 12 #[.string s] w (TrueW w) := by
  have HTb : Aside0 (∀ W, Below w.heap.size w W → Aside0 (Tabs_ W)) := ⟨fun W h => ⟨hT_.out.below h⟩⟩
  have HL0 := Aside0.mk (Below.refl w.heap.size w)
  have HAw : Aside0 (∀ W, Below w.heap.size w W → Calls Tryd.prog 38 #[] W fun e w' => e = .returned (.bool true) ∧ Below W.heap.size W w') := ⟨fun W h => spigotlaw12_awake.calls true W (HTb.out W h) rfl⟩
  have HDe : Aside0 (∀ W, Below w.heap.size w W → Calls Tryd.prog 41 #[.string s] W (AskIs (askD s) W)) := ⟨fun W h => ask_Decode_walk s W (HTb.out W h) hs⟩
  obtain ⟨g1, g2⟩ := askD_right s
  generalize askD s = r at *
  obtain ⟨v, t, e⟩ := r
  simp only at g1 g2
  by_cases c5 : 5000 < s.size
  · have t1 : decide ((5000 : Int) < (s.size : Int)) = true := by rw [decide_eq_true_eq]; omega
    have t2 : decide (5000 < s.size) = true := decide_eq_true c5
    clear c5 g1 g2 hs
    go_enter Tryd.func12, Tryd.ntmps12
    go_wp2_with (go_at_call 38; ((with_reducible refine (HAw.out _ HL0.out).mono ?_)); rintro en w1 ⟨rfl, hb⟩)
    go_ret
    exact ⟨rfl, hb⟩
  have t1 : decide ((5000 : Int) < (s.size : Int)) = false := by rw [decide_eq_false_iff_not]; omega
  have t2 : decide (5000 < s.size) = false := decide_eq_false c5
  by_cases he : e = 0
  · subst he
    have hr := g1 rfl
    obtain ⟨z1, z2, z3, z4, z5⟩ := rightA_sizes v hr
    have HZ := Aside0.mk z5
    have HRt : Aside0 (∀ W A c, Kd.C (Kd.int .i64) W A v.f13.length v.f13 → v.f13.length ≤ c → Calls Tryd.prog 42 #[.agg #[.int .i64 v.f0, .string v.f1, .string v.f2, .string v.f3, .string v.f4, .int .i64 v.f5, .int .i64 v.f6, .int .i64 v.f7, .int .i64 v.f8, .int .i64 v.f9, .int .i64 v.f10, .int .i64 v.f11, .int .i64 v.f12, .slice A v.f13.length c]] W fun e w' => e = .returned (.bool true) ∧ Below W.heap.size W w') := ⟨fun W A c h1 h2 => ask_Right.calls 68 v.f0 v.f1 v.f2 v.f3 v.f4 v.f5 v.f6 v.f7 v.f8 v.f9 v.f10 v.f11 v.f12 A c v.f13 true W h1 h2 (by rw [right_f v (by omega) (by omega) (by omega) (by omega), decide_eq_true hr])⟩
    have HEn : Aside0 (∀ W A c, Below w.heap.size w W → Kd.C (Kd.int .i64) W A v.f13.length v.f13 → v.f13.length ≤ c → Calls Tryd.prog 40 #[.agg #[.int .i64 v.f0, .string v.f1, .string v.f2, .string v.f3, .string v.f4, .int .i64 v.f5, .int .i64 v.f6, .int .i64 v.f7, .int .i64 v.f8, .int .i64 v.f9, .int .i64 v.f10, .int .i64 v.f11, .int .i64 v.f12, .slice A v.f13.length c]] W fun e w' => e = .returned (.tuple #[.string (encA v).1, .int .i64 0]) ∧ Below W.heap.size W w') := ⟨fun W A c h h1 h2 => ask_Encode.calls 68 v.f0 v.f1 v.f2 v.f3 v.f4 v.f5 v.f6 v.f7 v.f8 v.f9 v.f10 v.f11 v.f12 A c v.f13 _ _ W (HTb.out W h) h1 h2 (by rw [encode_f v (by omega) (by omega) (by omega) (by omega), encA_right v hr])⟩
    have HDb : Aside0 (∀ W, Below w.heap.size w W → Calls Tryd.prog 41 #[.string (encA v).1] W (AskIs (v, 0, 0) W)) := ⟨fun W h => by
      have := ask_Decode_walk (encA v).1 W (HTb.out W h) (by have := encA_size v; omega)
      rwa [encA_back v hr] at this⟩
    generalize (encA v).1 = bs at *
    clear c5 g1 g2 hs hr z1 z2 z3 z4 z5
    go_enter Tryd.func12, Tryd.ntmps12
    go_wp2_with (first
      | (go_at_call 38; ((with_reducible refine (HAw.out _ HL0.out).mono ?_)); rintro en w1 ⟨rfl, hb⟩; have HL1 := Aside0.mk (HL0.out.trans (hb.mono HL0.out.size)); clear hb HAw)
      | (go_at_call 41; ((with_reducible refine (HDe.out _ HL1.out).mono ?_)); rintro en w2 ⟨v_, rfl, hR, hb⟩; obtain ⟨A, c, rfl, hd, hC⟩ := Kd.R_reads hR; have hal : Below w2.heap.size w2 (w2.alloc (.cells #[.int .i64 v.f0, .string v.f1, .string v.f2, .string v.f3, .string v.f4, .int .i64 v.f5, .int .i64 v.f6, .int .i64 v.f7, .int .i64 v.f8, .int .i64 v.f9, .int .i64 v.f10, .int .i64 v.f11, .int .i64 v.f12, .slice A v.f13.length c] 68)) := (Below.refl _ _).alloc (Nat.le_refl _) _; have HCa := Aside0.mk hC; have HDa := Aside0.mk hd; have HL2 := Aside0.mk ((HL1.out.trans (hb.mono HL1.out.size)).trans (hal.mono (HL1.out.trans (hb.mono HL1.out.size)).size)); have HN2 := Aside0.mk hal; have HX2 := Aside0.mk (blk_new w2 (.cells #[.int .i64 v.f0, .string v.f1, .string v.f2, .string v.f3, .string v.f4, .int .i64 v.f5, .int .i64 v.f6, .int .i64 v.f7, .int .i64 v.f8, .int .i64 v.f9, .int .i64 v.f10, .int .i64 v.f11, .int .i64 v.f12, .slice A v.f13.length c] 68)); have hca := fun i => blk_cell HX2.out i; clear hb hR hC hd hal HDe)
      | (go_at_call 42; ((with_reducible refine (HRt.out _ A c (Kd.C_below HCa.out HN2.out) HDa.out).mono ?_)); rintro en w3 ⟨rfl, hb⟩; have HL3 := Aside0.mk (HL2.out.trans (hb.mono HL2.out.size)); have HN3 := Aside0.mk (HN2.out.trans (hb.mono HN2.out.size)); have HX3 := Aside0.mk (blk_below HX2.out hb); clear hca; have hca := fun i => blk_cell HX3.out i; clear hb HRt)
      | (go_at_call 40; ((with_reducible refine (HEn.out _ A c HL3.out (Kd.C_below HCa.out HN3.out) HDa.out).mono ?_)); rintro en w4 ⟨rfl, hb⟩; have HL4 := Aside0.mk (HL3.out.trans (hb.mono HL3.out.size)); have HN4 := Aside0.mk (HN3.out.trans (hb.mono HN3.out.size)); have HX4 := Aside0.mk (blk_below HX3.out hb); clear hca hb HEn)
      | (go_at_call 41; ((with_reducible refine (HDb.out _ HL4.out).mono ?_)); rintro en w5 ⟨v2_, rfl, hR, hb⟩; obtain ⟨B, d, rfl, hd, hC⟩ := Kd.R_reads hR; have HL5 := Aside0.mk (HL4.out.trans (hb.mono HL4.out.size)); have HN5 := Aside0.mk (HN4.out.trans (hb.mono HN4.out.size)); have HX5 := Aside0.mk (blk_below HX4.out hb); have HCb := Aside0.mk hC; have HD5 := Aside0.mk hd; clear hb hR hC hd HDb))
    have hal : Below w5.heap.size w5 (w5.alloc (.cells #[.int .i64 v.f0, .string v.f1, .string v.f2, .string v.f3, .string v.f4, .int .i64 v.f5, .int .i64 v.f6, .int .i64 v.f7, .int .i64 v.f8, .int .i64 v.f9, .int .i64 v.f10, .int .i64 v.f11, .int .i64 v.f12, .slice B v.f13.length d] 68)) := (Below.refl _ _).alloc (Nat.le_refl _) _
    have HXa := Aside0.mk (blk_below HX5.out hal)
    have HXb := Aside0.mk (blk_new w5 (.cells #[.int .i64 v.f0, .string v.f1, .string v.f2, .string v.f3, .string v.f4, .int .i64 v.f5, .int .i64 v.f6, .int .i64 v.f7, .int .i64 v.f8, .int .i64 v.f9, .int .i64 v.f10, .int .i64 v.f11, .int .i64 v.f12, .slice B v.f13.length d] 68))
    have HL7 : Aside0 (Below w.heap.size w (w5.alloc (.cells #[.int .i64 v.f0, .string v.f1, .string v.f2, .string v.f3, .string v.f4, .int .i64 v.f5, .int .i64 v.f6, .int .i64 v.f7, .int .i64 v.f8, .int .i64 v.f9, .int .i64 v.f10, .int .i64 v.f11, .int .i64 v.f12, .slice B v.f13.length d] 68)).drew) := ⟨(HL5.out.trans (hal.mono HL5.out.size)).drew⟩
    have HM7 : Aside0 (Below w5.heap.size w5 (w5.alloc (.cells #[.int .i64 v.f0, .string v.f1, .string v.f2, .string v.f3, .string v.f4, .int .i64 v.f5, .int .i64 v.f6, .int .i64 v.f7, .int .i64 v.f8, .int .i64 v.f9, .int .i64 v.f10, .int .i64 v.f11, .int .i64 v.f12, .slice B v.f13.length d] 68)).drew) := ⟨hal.drew⟩
    have HN7 : Aside0 (Below w2.heap.size w2 (w5.alloc (.cells #[.int .i64 v.f0, .string v.f1, .string v.f2, .string v.f3, .string v.f4, .int .i64 v.f5, .int .i64 v.f6, .int .i64 v.f7, .int .i64 v.f8, .int .i64 v.f9, .int .i64 v.f10, .int .i64 v.f11, .int .i64 v.f12, .slice B v.f13.length d] 68)).drew) := ⟨(HN5.out.trans (hal.mono HN5.out.size)).drew⟩
    clear hal
    refine start_ (n := 10) (S := fun w' => (∀ i, w'.cell? ⟨w2.heap.size, i, none⟩ = (#[.int .i64 v.f0, .string v.f1, .string v.f2, .string v.f3, .string v.f4, .int .i64 v.f5, .int .i64 v.f6, .int .i64 v.f7, .int .i64 v.f8, .int .i64 v.f9, .int .i64 v.f10, .int .i64 v.f11, .int .i64 v.f12, .slice A v.f13.length c] : Array Value)[i]?) ∧ (∀ i, w'.cell? ⟨w5.heap.size, i, none⟩ = (#[.int .i64 v.f0, .string v.f1, .string v.f2, .string v.f3, .string v.f4, .int .i64 v.f5, .int .i64 v.f6, .int .i64 v.f7, .int .i64 v.f8, .int .i64 v.f9, .int .i64 v.f10, .int .i64 v.f11, .int .i64 v.f12, .slice B v.f13.length d] : Array Value)[i]?) ∧ (w2.heap.size < w'.heap.size) ∧ (w5.heap.size < w'.heap.size)) (ds := []) #[false, false, false, false, false, false, false, false, false, false] (by kernel_rfl) rfl rfl ⟨(fun i => blk_cell HXa.out i), (fun i => blk_cell HXb.out i), blk_lt HXa.out, blk_lt HXb.out⟩ (fun hHeld => ?_)
    refine pure_ (i := 0) (N := some 44) (v := ?_) (a' := ?_) #[true, false, false, false, false, false, false, false, false, false] rfl rfl (by kernel_rfl) (fun _ _ _ h => h) (Or.inl ⟨by rfl, ?_⟩) ?_ ?_
    rotate_left
    · intro w'
      go_simp
      with_reducible rfl
    rotate_left
    · simp only [Act.put, List.setIfInBounds_toArray, List.set_cons_zero, List.set_cons_succ, i64_w, i32_w]
      rfl
    refine pure_ (i := 1) (N := some 45) (v := ?_) (a' := ?_) #[true, true, false, false, false, false, false, false, false, false] rfl rfl (by kernel_rfl) (fun _ _ _ h => h) (Or.inl ⟨by rfl, ?_⟩) ?_ ?_
    rotate_left
    · intro w'
      go_simp
      with_reducible rfl
    rotate_left
    · simp only [Act.put, List.setIfInBounds_toArray, List.set_cons_zero, List.set_cons_succ, i64_w, i32_w]
      rfl
    refine pure_ (i := 2) (N := some 46) (v := ?_) (a' := ?_) #[true, true, true, false, false, false, false, false, false, false] rfl rfl (by kernel_rfl) (fun _ _ _ h => h) (Or.inl ⟨by rfl, ?_⟩) ?_ ?_
    rotate_left
    · intro w'
      go_simp
      with_reducible rfl
    rotate_left
    · simp only [Act.put, List.setIfInBounds_toArray, List.set_cons_zero, List.set_cons_succ, i64_w, i32_w]
      rfl
    refine take_ (i := 3) (N := some 47) (v := ?_) (a' := ?_) #[true, true, true, true, false, false, false, false, false, false] rfl rfl (by kernel_rfl) (fun _ _ _ h => h) (Or.inl ⟨by rfl, ?_⟩) hHeld ?_ ?_
    rotate_left
    · rintro w' ⟨s0, s1, s2, s3⟩
      go_simp
      with_reducible rfl
    rotate_left
    · simp only [Act.put, List.setIfInBounds_toArray, List.set_cons_zero, List.set_cons_succ, i64_w, i32_w]
      rfl
    refine take_ (i := 5) (N := some 49) (v := ?_) (a' := ?_) #[true, true, true, true, false, true, false, false, false, false] rfl rfl (by kernel_rfl) (fun _ _ _ h => h) (Or.inl ⟨by rfl, ?_⟩) hHeld ?_ ?_
    rotate_left
    · rintro w' ⟨s0, s1, s2, s3⟩
      go_simp
      with_reducible rfl
    rotate_left
    · simp only [Act.put, List.setIfInBounds_toArray, List.set_cons_zero, List.set_cons_succ, i64_w, i32_w]
      rfl
    refine one_ (i := 4) (N := some 48) #[true, true, true, true, true, true, false, false, false, false] rfl rfl (by kernel_rfl) (by decide) (fun K hK => ?_)
    refine goes_ Tryd.func44 (by kernel_rfl) rfl #[.agg #[.int .i64 v.f0, .string v.f1, .string v.f2, .string v.f3, .string v.f4, .int .i64 v.f5, .int .i64 v.f6, .int .i64 v.f7, .int .i64 v.f8, .int .i64 v.f9, .int .i64 v.f10, .int .i64 v.f11, .int .i64 v.f12, .slice A v.f13.length c]] (by rfl) rfl rfl (by simp only [List.map_toArray, List.map_cons, List.map_nil]; rfl) ?_
    with_reducible refine (plain_any v A c _).mono ?_
    rintro e w8 ⟨rfl, hb8⟩
    refine ⟨_, rfl, ?_⟩
    have HL8 := Aside0.mk (HL7.out.trans (hb8.mono HL7.out.size))
    have HM8 := Aside0.mk (HM7.out.trans (hb8.mono HM7.out.size))
    have HN8 := Aside0.mk (HN7.out.trans (hb8.mono HN7.out.size))
    refine hK.out _ _ ⟨(fun i => (hb8.cell (p := ⟨w2.heap.size, i, none⟩) hHeld.2.2.1).trans (hHeld.1 i)), (fun i => (hb8.cell (p := ⟨w5.heap.size, i, none⟩) hHeld.2.2.2).trans (hHeld.2.1 i)), (Nat.lt_of_lt_of_le hHeld.2.2.1 hb8.size), (Nat.lt_of_lt_of_le hHeld.2.2.2 hb8.size)⟩ (fun hHeld => ?_)
    clear hK K
    refine norm_ (a' := ?_) ?_ ?_
    rotate_left
    · show Act.put _ (some 48) _ = _
      simp only [Act.put, List.setIfInBounds_toArray, List.set_cons_zero, List.set_cons_succ, i64_w, i32_w]
      rfl
    refine one_ (i := 6) (N := some 50) #[true, true, true, true, true, true, true, false, false, false] rfl rfl (by kernel_rfl) (by decide) (fun K hK => ?_)
    refine goes_ Tryd.func44 (by kernel_rfl) rfl #[.agg #[.int .i64 v.f0, .string v.f1, .string v.f2, .string v.f3, .string v.f4, .int .i64 v.f5, .int .i64 v.f6, .int .i64 v.f7, .int .i64 v.f8, .int .i64 v.f9, .int .i64 v.f10, .int .i64 v.f11, .int .i64 v.f12, .slice B v.f13.length d]] (by rfl) rfl rfl (by simp only [List.map_toArray, List.map_cons, List.map_nil]; rfl) ?_
    with_reducible refine (plain_any v B d _).mono ?_
    rintro e w9 ⟨rfl, hb9⟩
    refine ⟨_, rfl, ?_⟩
    have HL9 := Aside0.mk (HL8.out.trans (hb9.mono HL8.out.size))
    have HM9 := Aside0.mk (HM8.out.trans (hb9.mono HM8.out.size))
    have HN9 := Aside0.mk (HN8.out.trans (hb9.mono HN8.out.size))
    refine hK.out _ _ ⟨(fun i => (hb9.cell (p := ⟨w2.heap.size, i, none⟩) hHeld.2.2.1).trans (hHeld.1 i)), (fun i => (hb9.cell (p := ⟨w5.heap.size, i, none⟩) hHeld.2.2.2).trans (hHeld.2.1 i)), (Nat.lt_of_lt_of_le hHeld.2.2.1 hb9.size), (Nat.lt_of_lt_of_le hHeld.2.2.2 hb9.size)⟩ (fun hHeld => ?_)
    clear hK K
    refine norm_ (a' := ?_) ?_ ?_
    rotate_left
    · show Act.put _ (some 50) _ = _
      simp only [Act.put, List.setIfInBounds_toArray, List.set_cons_zero, List.set_cons_succ, i64_w, i32_w]
      rfl
    refine one_ (i := 7) (N := some 51) #[true, true, true, true, true, true, true, true, false, false] rfl rfl (by kernel_rfl) (by decide) (fun K hK => ?_)
    refine goes_ Tryd.func43 (by kernel_rfl) rfl #[.agg #[.int .i64 v.f0, .string v.f1, .string v.f2, .string v.f3, .string v.f4, .int .i64 v.f5, .int .i64 v.f6, .int .i64 v.f7, .int .i64 v.f8, .int .i64 v.f9, .int .i64 v.f10, .int .i64 v.f11, .int .i64 v.f12, .slice A v.f13.length c], .agg #[.int .i64 v.f0, .string v.f1, .string v.f2, .string v.f3, .string v.f4, .int .i64 v.f5, .int .i64 v.f6, .int .i64 v.f7, .int .i64 v.f8, .int .i64 v.f9, .int .i64 v.f10, .int .i64 v.f11, .int .i64 v.f12, .slice B v.f13.length d]] (by rfl) rfl rfl (by simp only [List.map_toArray, List.map_cons, List.map_nil]; rfl) ?_
    with_reducible refine (same12_walk v A c B d _ HZ.out (Kd.C_below HCa.out HN9.out) HDa.out (Kd.C_below HCb.out HM9.out) HD5.out).mono ?_
    rintro e w10 ⟨rfl, hb10⟩
    refine ⟨_, rfl, ?_⟩
    have HL10 := Aside0.mk (HL9.out.trans (hb10.mono HL9.out.size))
    have HM10 := Aside0.mk (HM9.out.trans (hb10.mono HM9.out.size))
    have HN10 := Aside0.mk (HN9.out.trans (hb10.mono HN9.out.size))
    refine hK.out _ _ ⟨(fun i => (hb10.cell (p := ⟨w2.heap.size, i, none⟩) hHeld.2.2.1).trans (hHeld.1 i)), (fun i => (hb10.cell (p := ⟨w5.heap.size, i, none⟩) hHeld.2.2.2).trans (hHeld.2.1 i)), (Nat.lt_of_lt_of_le hHeld.2.2.1 hb10.size), (Nat.lt_of_lt_of_le hHeld.2.2.2 hb10.size)⟩ (fun hHeld => ?_)
    clear hK K
    refine norm_ (a' := ?_) ?_ ?_
    rotate_left
    · show Act.put _ (some 51) _ = _
      simp only [Act.put, List.setIfInBounds_toArray, List.set_cons_zero, List.set_cons_succ, i64_w, i32_w]
      rfl
    refine pure_ (i := 8) (N := some 52) (v := ?_) (a' := ?_) #[true, true, true, true, true, true, true, true, true, false] rfl rfl (by kernel_rfl) (fun _ _ _ h => h) (Or.inl ⟨by rfl, ?_⟩) ?_ ?_
    rotate_left
    · intro w'
      go_simp
      with_reducible rfl
    rotate_left
    · simp only [Act.put, List.setIfInBounds_toArray, List.set_cons_zero, List.set_cons_succ, i64_w, i32_w]
      rfl
    refine pure_ (i := 9) (N := some 2) (v := ?_) (a' := ?_) #[true, true, true, true, true, true, true, true, true, true] rfl rfl (by kernel_rfl) (fun _ _ _ h => h) (Or.inl ⟨by rfl, ?_⟩) ?_ ?_
    rotate_left
    · intro w'
      go_simp
      with_reducible rfl
    rotate_left
    · simp only [Act.put, List.setIfInBounds_toArray, List.set_cons_zero, List.set_cons_succ, i64_w, i32_w]
      rfl
    refine done_ (by kernel_rfl) ?_
    go_wp2
    go_ret
    exact ⟨rfl, HL10.out⟩
  · have hv := g2 he
    subst hv
    have t3 : (e != 0) = true := by rw [bne_iff_ne]; exact he
    have HSm : Aside0 (∀ W A c, Kd.C (Kd.int .i64) W A zAsk.f13.length zAsk.f13 → Calls Tryd.prog 43 #[.agg #[.int .i64 0, .string ⟨#[]⟩, .string ⟨#[]⟩, .string ⟨#[]⟩, .string ⟨#[]⟩, .int .i64 0, .int .i64 0, .int .i64 0, .int .i64 0, .int .i64 0, .int .i64 0, .int .i64 0, .int .i64 0, .slice A 0 c], .agg #[.int .i64 0, .string ⟨#[]⟩, .string ⟨#[]⟩, .string ⟨#[]⟩, .string ⟨#[]⟩, .int .i64 0, .int .i64 0, .int .i64 0, .int .i64 0, .int .i64 0, .int .i64 0, .int .i64 0, .int .i64 0, .slice none 0 0]] W fun e w' => e = .returned (.bool true) ∧ Below W.heap.size W w') := ⟨fun W A c hC => same12_walk zAsk A c none 0 W (by decide) hC (Nat.zero_le _) (Kd.R_reads' (Kd.R_nil (Kd.int .i64) 0 W 0 (fun _ => True))).2.2 (Nat.zero_le _)⟩
    have HDz : Aside0 (∀ W, Below w.heap.size w W → Calls Tryd.prog 41 #[.string s] W fun e' w' => ∃ v_ : Value, e' = .returned (.tuple #[.agg #[.int .i64 0, .string ⟨#[]⟩, .string ⟨#[]⟩, .string ⟨#[]⟩, .string ⟨#[]⟩, .int .i64 0, .int .i64 0, .int .i64 0, .int .i64 0, .int .i64 0, .int .i64 0, .int .i64 0, .int .i64 0, v_], .int .i64 t, .int .i64 e]) ∧ Kd.R (Kd.int .i64) 3 w' W.heap.size (fun _ => True) v_ zAsk.f13 ∧ Below W.heap.size W w') := ⟨fun W h => HDe.out W h⟩
    have HPl : Aside0 (∀ W A c, Calls Tryd.prog 44 #[.agg #[.int .i64 0, .string ⟨#[]⟩, .string ⟨#[]⟩, .string ⟨#[]⟩, .string ⟨#[]⟩, .int .i64 0, .int .i64 0, .int .i64 0, .int .i64 0, .int .i64 0, .int .i64 0, .int .i64 0, .int .i64 0, .slice A 0 c]] W fun e w' => e = .returned (.agg #[.int .i64 0, .string ⟨#[]⟩, .string ⟨#[]⟩, .string ⟨#[]⟩, .string ⟨#[]⟩, .int .i64 0, .int .i64 0, .int .i64 0, .int .i64 0, .int .i64 0, .int .i64 0, .int .i64 0, .int .i64 0, .slice A 0 c]) ∧ Below W.heap.size W w') := ⟨fun W A c => plain_any zAsk A c W⟩
    clear c5 g1 g2 hs he HDe
    go_enter Tryd.func12, Tryd.ntmps12
    go_wp2_with (first
      | (go_at_call 38; ((with_reducible refine (HAw.out _ HL0.out).mono ?_)); rintro en w1 ⟨rfl, hb⟩; have HL1 := Aside0.mk (HL0.out.trans (hb.mono HL0.out.size)); clear hb HAw)
      | (go_at_call 41; ((with_reducible refine (HDz.out _ HL1.out).mono ?_)); rintro en w2 ⟨v_, rfl, hR, hb⟩; obtain ⟨A, c, ev, -, hC⟩ := Kd.R_reads hR; obtain rfl : v_ = .slice A 0 c := ev; have HC0 := Aside0.mk hC; clear hC; have HL2 := Aside0.mk ((HL1.out.trans (hb.mono HL1.out.size)).alloc (HL1.out.trans (hb.mono HL1.out.size)).size (.cells #[.int .i64 0, .string ⟨#[]⟩, .string ⟨#[]⟩, .string ⟨#[]⟩, .string ⟨#[]⟩, .int .i64 0, .int .i64 0, .int .i64 0, .int .i64 0, .int .i64 0, .int .i64 0, .int .i64 0, .int .i64 0, .slice A 0 c] 68)); have HN2 : Aside0 (Below w2.heap.size w2 (w2.alloc (.cells #[.int .i64 0, .string ⟨#[]⟩, .string ⟨#[]⟩, .string ⟨#[]⟩, .string ⟨#[]⟩, .int .i64 0, .int .i64 0, .int .i64 0, .int .i64 0, .int .i64 0, .int .i64 0, .int .i64 0, .int .i64 0, .slice A 0 c] 68))) := ⟨(Below.refl _ _).alloc (Nat.le_refl _) _⟩; have HX2 := Aside0.mk (blk_new w2 (.cells #[.int .i64 0, .string ⟨#[]⟩, .string ⟨#[]⟩, .string ⟨#[]⟩, .string ⟨#[]⟩, .int .i64 0, .int .i64 0, .int .i64 0, .int .i64 0, .int .i64 0, .int .i64 0, .int .i64 0, .int .i64 0, .slice A 0 c] 68)); have hca := fun i => blk_cell HX2.out i; clear hb hR HDz)
      | (go_at_call 44; ((with_reducible refine (HPl.out _ A c).mono ?_)); rintro en w3 ⟨rfl, hb⟩; have HL3 := Aside0.mk (HL2.out.trans (hb.mono HL2.out.size)); have HN3 := Aside0.mk (HN2.out.trans (hb.mono HN2.out.size)); clear hb hca)
      | (go_at_call 43; ((with_reducible refine (HSm.out _ A c (Kd.C_below HC0.out HN3.out)).mono ?_)); rintro en w4 ⟨rfl, hb⟩; have HL4 := Aside0.mk (HL3.out.trans (hb.mono HL3.out.size)); clear hb))
    go_ret
    exact ⟨rfl, HL4.out⟩
def spigotlaw12_AskSound.f (a0 : ByteArray) : Option Bool := if a0.size ≤ 140737488351232 then some true else none
theorem spigotlaw12_AskSound.calls (a0 : ByteArray) (r : Bool) (w : World) (hT_ : Aside0 (Tabs_ w)) (h : spigotlaw12_AskSound.f a0 = some r) : Calls Tryd.prog 12 #[.string a0] w fun e w' => e = .returned (.bool r) ∧ Below w.heap.size w w' := by
  unfold spigotlaw12_AskSound.f at h
  by_cases c : a0.size ≤ 140737488351232
  · rw [if_pos c] at h
    obtain rfl := Option.some.inj h
    exact askSound_walk a0 w hT_ c
  · rw [if_neg c] at h; cases h
end Go.Proofs.YtgfigkfcmkdjdaaDoor.B
end
