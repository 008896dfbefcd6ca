/- The functions that the law reaches, as plain Lean functions, and their contracts: texts merged. -/
import Derived.Laws.StructEq
import Derived.Test.YtgfigkfcmkdjdaaGreatDoorzAskEncodes2
import Derived.Test.YtgfigkfcmkdjdaaGreatDoorzAskEncodes0
import Derived.Test.YtgfigkfcmkdjdaaGreatDoorzAskEncodes1
import Derived.Test.YtgfigkfcmkdjdaaGreatDoorzAskEncodes3
import Derived.Test.YtgfigkfcmkdjdaaGreatDoorzAskEncodes6
import Derived.Test.YtgfigkfcmkdjdaaGreatDoorzAskEncodes15
section
namespace Go.Proofs.YtgfigkfcmkdjdaaGreatDoor.B
open Go.RowKit Go.Proofs.YtgfigkfcmkdjdaaGreatDoorW.PrintWords Go.Proofs.YtgfigkfcmkdjdaaGreatDoorW.PrintLast Go.Proofs.YtgfigkfcmkdjdaaGreatDoorW.PrintMore
attribute [local go_sem] max2_int min2_int max_two min_two max_three min_three max_four min_four   -- for this text's walks alone
set_option linter.unusedVariables false
set_option linter.unusedSimpArgs false
theorem nameL_runes (m : Nat) : ∀ (l : List UInt8) (n : Nat), l.length ≤ m → n ≤ 20 → nameL l n = (decide (0 < n + (runesL l).length ∧ n + (runesL l).length ≤ 20) && (runesL l).all mayN) := by
  induction m with
  | zero =>
    intro l n h hn
    rw [List.eq_nil_of_length_eq_zero (show l.length = 0 by omega), runesL_nil, nameL_nil]
    simp; omega
  | succ m ih =>
    intro l n h hn
    by_cases hl : l = []
    · rw [hl, runesL_nil, nameL_nil]; simp; omega
    · have hp := List.length_pos_iff.2 hl
      have hw := dec_width l
      rw [runesL_cons l hl, List.length_cons, List.all_cons]
      by_cases c20 : 20 ≤ n
      · rw [nameL_full l hl n c20, decide_eq_false (by omega)]; rfl
      · cases hm : mayN (dec l).1 with
        | false => rw [nameL_bad l hl n hm]; simp
        | true =>
          rw [nameL_go l hl n (by omega) hm, ih _ (n + 1) (by rw [List.length_drop]; omega) (by omega), Bool.true_and]
          congr 1
          rw [decide_eq_decide]; omega
theorem nameL_all (s : ByteArray) : nameL s.data.toList 0 = (decide (0 < (runesL s.data.toList).length ∧ (runesL s.data.toList).length ≤ 20) && (runesL s.data.toList).all mayN) := by
  have := nameL_runes _ s.data.toList 0 (Nat.le_refl _) (by omega)
  simpa using this
theorem runesL_small (n : Nat) : ∀ l : List UInt8, l.length ≤ n → ∀ r ∈ runesL l, r ≤ 2147483647 := by
  induction n with
  | zero => intro l h r hr; rw [List.eq_nil_of_length_eq_zero (show l.length = 0 by omega), runesL_nil] at hr; simp at hr
  | succ n ih =>
    intro l h r hr
    by_cases hl : l = []
    · rw [hl, runesL_nil] at hr; simp at hr
    · have hp := List.length_pos_iff.2 hl
      have hw := dec_width l
      rw [runesL_cons l hl] at hr
      rcases List.mem_cons.1 hr with rfl | hr
      · have := dec_rune l; omega
      · exact ih _ (by rw [List.length_drop]; omega) r hr
set_option maxRecDepth 100000 in
set_option maxHeartbeats 2000000 in
theorem ref_Valid_walk (s : ByteArray) (w : World) (hs : s.size ≤ 70368744177664) :
    Calls Tryz.prog 26 #[.string s] w (NameIs (nameL s.data.toList 0) w) := by
  rw [nameL_all]
  obtain ⟨cap, C, hcv, hcap, hCs, hC⟩ := runes_conv (P := Tryz.prog) w 9 89 21 s Tryz.underlying9 Tryz.underlying89 Tryz.underlying21 hs
  have hsm := runesL_small _ s.data.toList (Nat.le_refl _)
  generalize runesL s.data.toList = R at *
  have HC := Aside0.mk hC
  have HSm := Aside0.mk hsm
  clear hC hsm
  have HB2 : Aside0 (Below w.heap.size w (w.drew.alloc (.cells C 21))) := ⟨(Below.refl _ _).drew.alloc (Nat.le_refl _) _⟩
  have HCs := Aside0.mk hCs
  clear hCs
  generalize hv : (decide (0 < R.length ∧ R.length ≤ 20) && R.all mayN) = V
  have HV0 := Aside0.mk hv
  clear hv
  by_cases c1 : R.length < 1
  · have HV : Aside0 (false = V) := ⟨by rw [← HV0.out, decide_eq_false (by omega)]; rfl⟩
    have t1 : decide ((R.length : Int) < 1) = true := by rw [decide_eq_true_eq]; omega
    have t2 : decide (R.length < 1) = true := by rw [decide_eq_true_eq]; omega
    clear c1
    go_enter Tryz.func26, Tryz.ntmps26
    go_wp2
    go_ret
    exact NameIs.mk_ HV.out HB2.out
  have t1 : decide ((R.length : Int) < 1) = false := by rw [decide_eq_false_iff_not]; omega
  have t2 : decide (R.length < 1) = false := by rw [decide_eq_false_iff_not]; omega
  by_cases c2 : 20 < R.length
  · have HV : Aside0 (false = V) := ⟨by rw [← HV0.out, decide_eq_false (by omega)]; rfl⟩
    have t3 : decide ((20 : Int) < (R.length : Int)) = true := by rw [decide_eq_true_eq]; omega
    have t4 : decide (20 < R.length) = true := by rw [decide_eq_true_eq]; omega
    clear c1 c2
    go_enter Tryz.func26, Tryz.ntmps26
    go_wp2
    go_ret
    exact NameIs.mk_ HV.out HB2.out
  have t3 : decide ((20 : Int) < (R.length : Int)) = false := by rw [decide_eq_false_iff_not]; omega
  have t4 : decide (20 < R.length) = false := by rw [decide_eq_false_iff_not]; omega
  have HV : Aside0 (R.all mayN = V) := ⟨by rw [← HV0.out, decide_eq_true (by omega)]; rfl⟩
  have hR20 : R.length ≤ 20 := by omega
  clear c1 c2
  go_enter Tryz.func26, Tryz.ntmps26
  go_wp2
  go_loop [4] (fun v4 => ∃ i : Nat, v4 = .int .i64 (i : Int) ∧ i ≤ R.length ∧ Aside0 ((R.drop i).all mayN = R.all mayN)) (fun v4 => R.length - (intOf v4).toNat)
  case atStart => exact ⟨0, rfl, Nat.zero_le _, ⟨rfl⟩⟩
  case round =>
    obtain ⟨i, rfl, hi, HA⟩ := hrel
    by_cases hlt : i < R.length
    · have k1 : decide ((i : Int) < (R.length : Int)) = true := by rw [decide_eq_true_eq]; omega
      have k2 : (0 : Int) ≤ (i : Int) ∧ (i : Int) < (R.length : Int) := by omega
      have hti : ((i : Int)).toNat = i := Int.toNat_natCast i
      have hci := HC.out i hlt
      rw [show R.getD i 0 = R[i] by rw [List.getD_eq_getElem?_getD, List.getElem?_eq_getElem hlt]; rfl] at hci
      have hsmi := HSm.out _ (List.getElem_mem hlt)
      rw [List.drop_eq_getElem_cons hlt, List.all_cons] at HA
      generalize R[i] = r at *
      have fin : mayN r = false → Aside0 (false = R.all mayN) := fun e => ⟨by have := HA.out; rw [e] at this; exact this⟩
      by_cases c33 : r < 33
      · have HF := fin (by unfold mayN; simp; omega)
        have q1 : decide ((r : Int) < 33) = true := by rw [decide_eq_true_eq]; omega
        have q2 : decide (r < 33) = true := by rw [decide_eq_true_eq]; omega
        clear HA c33 fin
        go_wp2
        go_ret
        exact NameIs.mk_ (HF.out.trans HV.out) HB2.out
      have q1 : decide ((r : Int) < 33) = false := by rw [decide_eq_false_iff_not]; omega
      have q2 : decide (r < 33) = false := by rw [decide_eq_false_iff_not]; omega
      by_cases c127 : r = 127
      · have HF := fin (by rw [c127]; decide)
        subst c127
        clear HA fin
        go_wp2
        go_ret
        exact NameIs.mk_ (HF.out.trans HV.out) HB2.out
      by_cases c61 : r = 61
      · have HF := fin (by rw [c61]; decide)
        subst c61
        clear HA fin
        go_wp2
        go_ret
        exact NameIs.mk_ (HF.out.trans HV.out) HB2.out
      by_cases c65 : r = 65533
      · have HF := fin (by rw [c65]; decide)
        subst c65
        clear HA fin
        go_wp2
        go_ret
        exact NameIs.mk_ (HF.out.trans HV.out) HB2.out
      have HN : Aside0 ((R.drop (i + 1)).all mayN = R.all mayN) := ⟨by have := HA.out; rw [(mayN_eq r).2 ⟨by omega, c127, c61, c65⟩, Bool.true_and] at this; exact this⟩
      have q3 : ((r : Int) == 127) = false := by rw [beq_eq_false_iff_ne]; omega
      have q4 : ((r : Int) == 61) = false := by rw [beq_eq_false_iff_ne]; omega
      have q5 : ((r : Int) == 65533) = false := by rw [beq_eq_false_iff_ne]; omega
      clear HA fin c33 c127 c61 c65
      go_wp2
      go_round
      case rel => exact ⟨i + 1, by rw [show ((i + 1 : Nat) : Int) = (i : Int) + 1 by omega], by omega, HN⟩
      case measure => simp [intOf]; omega
    · have k1 : decide ((i : Int) < (R.length : Int)) = false := by rw [decide_eq_false_iff_not]; omega
      have HF : Aside0 (true = R.all mayN) := ⟨by have := HA.out; rw [List.drop_eq_nil_of_le (by omega)] at this; exact this⟩
      clear HA
      go_wp2
      go_ret
      exact NameIs.mk_ (HF.out.trans HV.out) HB2.out
def spigotref04_Valid.f (a0 : ByteArray) : Option Bool := if a0.size ≤ 70368744177664 then some (nameL a0.data.toList 0) else none
theorem spigotref04_Valid.calls (a0 : ByteArray) (r : Bool) (w : World) (h : spigotref04_Valid.f a0 = some r) :
    Calls Tryz.prog 26 #[.string a0] w fun e w' => e = .returned (.bool r) ∧ Below w.heap.size w w' := by
  unfold spigotref04_Valid.f at h
  by_cases c : a0.size ≤ 70368744177664
  · rw [if_pos c] at h
    obtain rfl := Option.some.inj h
    exact ref_Valid_walk a0 w c
  · rw [if_neg c] at h; cases h
end Go.Proofs.YtgfigkfcmkdjdaaGreatDoor.B
end
section
namespace Go.Proofs.YtgfigkfcmkdjdaaGreatDoor.B
open Go.RowKit Go.Proofs.YtgfigkfcmkdjdaaGreatDoorW.PrintWords Go.Proofs.YtgfigkfcmkdjdaaGreatDoorW.PrintLast Go.Proofs.YtgfigkfcmkdjdaaGreatDoorW.PrintMore
attribute [local go_sem] max2_int min2_int max_two min_two max_three min_three max_four min_four   -- for this text's walks alone
set_option linter.unusedVariables false
set_option linter.unusedSimpArgs false
mutual
def spigotref03_Right.j0 : Nat → List Int → Bool → Option (Bool)
  | 0, _, _ => none
  | k + 1, x0, x12 => if x12 = true then (some false) else (spigotref03_Right.l0 k x0 0 0)
def spigotref03_Right.l0 : Nat → List Int → Int → Int → Option (Bool)
  | 0, _, _, _ => none
  | k + 1, x0, x3, x4 => if x4 < (x0.length : Int) then (if 0 ≤ x4 then (if (rd x0 x4) < 0 then (some false) else (if (rd x0 x4) > 1048576 then (some false) else (spigotref03_Right.l0 k x0 (wrap64 (x3 + (rd x0 x4))) (wrap64 (x4 + 1))))) else (none)) else (some (decide (x3 > 0)))
end
def spigotref03_Right.f (k : Nat) (l0 : List Int) : Option (Bool) := if (l0.length : Int) < 1 then (spigotref03_Right.j0 k l0 true) else (spigotref03_Right.j0 k l0 (decide ((l0.length : Int) > 64)))
theorem spigotref03_Right.mono_l : ∀ k, (∀ y0 y1, LeO (spigotref03_Right.j0 k y0 y1) (spigotref03_Right.j0 (k + 1) y0 y1)) ∧ (∀ y0 y1 y2, LeO (spigotref03_Right.l0 k y0 y1 y2) (spigotref03_Right.l0 (k + 1) y0 y1 y2))
  | 0 => ⟨fun _ _ r h => by simp [spigotref03_Right.j0] at h, fun _ _ _ r h => by simp [spigotref03_Right.l0] at h⟩
  | k + 1 => by
    obtain ⟨ih0, ih1⟩ := spigotref03_Right.mono_l k
    refine ⟨?_, ?_⟩
    · intro y0 y1
      unfold spigotref03_Right.j0
      repeat' first
      | (with_reducible exact ih0 _ _)
      | (with_reducible exact ih1 _ _ _)
      | (with_reducible exact LeO.refl _)
      | (with_reducible exact LeO.none _)
      | (with_reducible refine LeO.ite ?_ ?_)
      | (with_reducible refine LeO.bind ?_ (fun _ => ?_))
      | exact ih0 _ _
      | exact ih1 _ _ _
      | exact LeO.none _
      | refine LeO.ite ?_ ?_
      | refine LeO.bind ?_ (fun _ => ?_)
    · intro y0 y1 y2
      unfold spigotref03_Right.l0
      repeat' first
      | (with_reducible exact ih0 _ _)
      | (with_reducible exact ih1 _ _ _)
      | (with_reducible exact LeO.refl _)
      | (with_reducible exact LeO.none _)
      | (with_reducible refine LeO.ite ?_ ?_)
      | (with_reducible refine LeO.bind ?_ (fun _ => ?_))
      | exact ih0 _ _
      | exact ih1 _ _ _
      | exact LeO.none _
      | refine LeO.ite ?_ ?_
      | refine LeO.bind ?_ (fun _ => ?_)
theorem spigotref03_Right.mono : ∀ a0 k, LeO (spigotref03_Right.f k a0) (spigotref03_Right.f (k + 1) a0) := by
  intro a0 k
  obtain ⟨ih0, ih1⟩ := spigotref03_Right.mono_l k
  unfold spigotref03_Right.f
  repeat' first
      | (with_reducible exact ih0 _ _)
      | (with_reducible exact ih1 _ _ _)
      | (with_reducible exact LeO.refl _)
      | (with_reducible exact LeO.none _)
      | (with_reducible refine LeO.ite ?_ ?_)
      | (with_reducible refine LeO.bind ?_ (fun _ => ?_))
      | exact ih0 _ _
      | exact ih1 _ _ _
      | exact LeO.none _
      | refine LeO.ite ?_ ?_
      | refine LeO.bind ?_ (fun _ => ?_)
set_option maxHeartbeats 8000000 in
set_option maxRecDepth 100000 in
theorem spigotref03_Right.calls (k : Nat) (A0 : Option Addr) (c0 : Nat) (l0 : List Int) (r : Bool) (w : World) (hr0 : Kd.C (Kd.int .i64) w A0 l0.length l0) (hc0 : l0.length ≤ c0) (h : spigotref03_Right.f k l0 = some r) :
    Calls Tryz.prog 54 #[.slice A0 l0.length c0] w fun e w' => e = .returned (.bool r) ∧ Drawn0 w w' := by
  have HR0 := Aside0.mk hr0
  have HC0 := Aside0.mk hc0
  clear hr0 hc0
  have H : (if (l0.length : Int) < 1 then (spigotref03_Right.j0 k l0 true) else (spigotref03_Right.j0 k l0 (decide ((l0.length : Int) > 64)))) = some r := h
  clear h
  have HC2 := Aside0.mk H
  clear H
  go_enter Tryz.func54, Tryz.ntmps54
  go_upto_region 1 with (fail)
  go_cut [12] (fun v12 wc => ∃ (kq : Nat) (x12_1 : Bool), v12 = .bool x12_1 ∧ Aside0 (spigotref03_Right.j0 kq l0 x12_1 = some r) ∧ Aside0 (kq ≤ k) ∧ Drawn0 w wc)
  case first =>
    have H := HC2.out
    clear HC2
    by_cases c3 : (l0.length : Int) < 1
    · rw [if_pos c3] at H
      have c3b0 : decide ((l0.length : Int) < 1) = true := decide_eq_true c3
      have c3b1 : decide (l0.length < 1) = true := decide_eq_true (by omega)
      clear c3
      (first | rw [c3b0] | (simp only [i64_w, i32_w]; rw [c3b0]) | skip)
      have H' := Aside0.mk H
      clear H
      go_wp2
      go_meet
      case rel => exact ⟨_, (true), (by first | rfl | (simp; done) | (simp [*]; done)), H', ⟨by first | omega | exact Nat.le_refl _⟩, by repeat (first | exact Drawn0.refl _ | apply Drawn0.step)⟩
    · rw [if_neg c3] at H
      have c3b0 : decide ((l0.length : Int) < 1) = false := decide_eq_false c3
      have c3b1 : decide (l0.length < 1) = false := decide_eq_false (by omega)
      clear c3
      (first | rw [c3b0] | (simp only [i64_w, i32_w]; rw [c3b0]) | skip)
      have H' := Aside0.mk H
      clear H
      go_wp2
      go_meet
      case rel => exact ⟨_, (decide ((l0.length : Int) > 64)), (by first | rfl | (simp; done) | (simp [*]; done)), H', ⟨by first | omega | exact Nat.le_refl _⟩, by repeat (first | exact Drawn0.refl _ | apply Drawn0.step)⟩
  case rest =>
    clear HC2
    try clear p2
    try clear c3
    try clear c3b0
    try clear c3b1
    obtain ⟨kq, x12_1, rfl, HA, HJ1, ⟨mc1, rfl⟩⟩ := hcut
    cases kq with
    | zero => exact absurd HA.out (by simp [spigotref03_Right.j0])
    | succ kj1 =>
      have H := HA.out
      clear HA
      simp only [spigotref03_Right.j0] at H
      by_cases c4 : x12_1 = true
      · subst c4
        have H1 : (some false) = some r := by rw [if_pos rfl] at H; exact H
        clear H
        have H := H1
        clear H1
        obtain rfl := Option.some.inj H
        go_wp2
        go_ret
        exact ⟨by first | rfl | (simp; done) | (simp [*]; done), by repeat (first | exact Drawn0.refl _ | apply Drawn0.step)⟩
      · replace c4 := Bool.eq_false_iff.mpr c4
        subst c4
        have H1 : (spigotref03_Right.l0 kj1 l0 0 0) = some r := by rw [if_neg (show ¬ (false = true) by decide)] at H; exact H
        clear H
        have H := H1
        clear H1
        have H' := Aside0.mk H
        clear H
        go_wp2
        go_loopg [3, 4] kj1 (fun kq v3 v4 w' => ∃ (x3_2 : Int) (x4_2 : Int), v3 = .int .i64 x3_2 ∧ v4 = .int .i64 x4_2 ∧ Aside0 (spigotref03_Right.l0 kq l0 x3_2 x4_2 = some r) ∧ Aside0 (kq ≤ kj1) ∧ Drawn0 w w')
        case atStart => exact ⟨(0), (0), (by first | rfl | (simp; done) | (simp [*]; done)), (by first | rfl | (simp; done) | (simp [*]; done)), H', ⟨Nat.le_refl _⟩, by repeat (first | exact Drawn0.refl _ | apply Drawn0.step)⟩
        case round =>
          clear H'
          try clear c1
          try clear p2
          try clear c3
          try clear c3b0
          try clear c3b1
          try clear c4
          try clear p2
          obtain ⟨x3_2, x4_2, rfl, rfl, HA, HK2, ⟨m2, rfl⟩⟩ := hrel
          cases gk with
          | zero => exact absurd HA.out (by simp [spigotref03_Right.l0])
          | succ k2 =>
            have H := HA.out
            clear HA
            simp only [spigotref03_Right.l0] at H
            by_cases c5 : x4_2 < (l0.length : Int)
            · rw [if_pos c5] at H
              have c5b0 : decide (x4_2 < (l0.length : Int)) = true := decide_eq_true c5
              clear c5
              by_cases c6 : 0 ≤ x4_2
              · rw [if_pos c6] at H
                have c6b0 : decide (0 ≤ x4_2) = true := decide_eq_true c6
                clear c6
                by_cases c7 : (rd l0 x4_2) < 0
                · rw [if_pos c7] at H
                  have c7b0 : decide ((rd l0 x4_2) < 0) = true := decide_eq_true c7
                  clear c7
                  obtain rfl := Option.some.inj H
                  have p186 : 0 ≤ (x4_2 : Int) := of_decide_eq_true (by first | (with_reducible assumption) | assumption)
                  have q186 : x4_2 < (l0.length : Int) := of_decide_eq_true (by first | (with_reducible assumption) | assumption)
                  obtain ⟨ad186, e186, hx186_0⟩ := Kd.at_int HR0.out x4_2 p186 q186
                  cases e186
                  replace p186 := eq_true p186
                  replace q186 := eq_true q186
                  go_wp2
                  go_ret
                  exact ⟨by first | rfl | (simp; done) | (simp [*]; done), by repeat (first | exact Drawn0.refl _ | apply Drawn0.step)⟩
                · rw [if_neg c7] at H
                  have c7b0 : decide ((rd l0 x4_2) < 0) = false := decide_eq_false c7
                  clear c7
                  by_cases c8 : (rd l0 x4_2) > 1048576
                  · rw [if_pos c8] at H
                    have c8b0 : decide (1048576 < (rd l0 x4_2)) = true := decide_eq_true c8
                    clear c8
                    obtain rfl := Option.some.inj H
                    have p186 : 0 ≤ (x4_2 : Int) := of_decide_eq_true (by first | (with_reducible assumption) | assumption)
                    have q186 : x4_2 < (l0.length : Int) := of_decide_eq_true (by first | (with_reducible assumption) | assumption)
                    obtain ⟨ad186, e186, hx186_0⟩ := Kd.at_int HR0.out x4_2 p186 q186
                    cases e186
                    replace p186 := eq_true p186
                    replace q186 := eq_true q186
                    have p187 : 0 ≤ (x4_2 : Int) := of_decide_eq_true (by first | (with_reducible assumption) | assumption)
                    have q187 : x4_2 < (l0.length : Int) := of_decide_eq_true (by first | (with_reducible assumption) | assumption)
                    obtain ⟨ad187, e187, hx187_0⟩ := Kd.at_int HR0.out x4_2 p187 q187
                    obtain rfl : ad186 = ad187 := (by injection e187)
                    replace p187 := eq_true p187
                    replace q187 := eq_true q187
                    go_wp2
                    go_ret
                    exact ⟨by first | rfl | (simp; done) | (simp [*]; done), by repeat (first | exact Drawn0.refl _ | apply Drawn0.step)⟩
                  · rw [if_neg c8] at H
                    have c8b0 : decide (1048576 < (rd l0 x4_2)) = false := decide_eq_false c8
                    clear c8
                    have H' := Aside0.mk H
                    clear H
                    have p186 : 0 ≤ (x4_2 : Int) := of_decide_eq_true (by first | (with_reducible assumption) | assumption)
                    have q186 : x4_2 < (l0.length : Int) := of_decide_eq_true (by first | (with_reducible assumption) | assumption)
                    obtain ⟨ad186, e186, hx186_0⟩ := Kd.at_int HR0.out x4_2 p186 q186
                    cases e186
                    replace p186 := eq_true p186
                    replace q186 := eq_true q186
                    have p187 : 0 ≤ (x4_2 : Int) := of_decide_eq_true (by first | (with_reducible assumption) | assumption)
                    have q187 : x4_2 < (l0.length : Int) := of_decide_eq_true (by first | (with_reducible assumption) | assumption)
                    obtain ⟨ad187, e187, hx187_0⟩ := Kd.at_int HR0.out x4_2 p187 q187
                    obtain rfl : ad186 = ad187 := (by injection e187)
                    replace p187 := eq_true p187
                    replace q187 := eq_true q187
                    have p188 : 0 ≤ (x4_2 : Int) := of_decide_eq_true (by first | (with_reducible assumption) | assumption)
                    have q188 : x4_2 < (l0.length : Int) := of_decide_eq_true (by first | (with_reducible assumption) | assumption)
                    obtain ⟨ad188, e188, hx188_0⟩ := Kd.at_int HR0.out x4_2 p188 q188
                    obtain rfl : ad186 = ad188 := (by injection e188)
                    replace p188 := eq_true p188
                    replace q188 := eq_true q188
                    go_wp2
                    go_roundg k2
                    case measure => have := HJ1.out; have := HK2.out; omega
                    case rel => exact ⟨(wrap64 (x3_2 + (rd l0 x4_2))), (wrap64 (x4_2 + 1)), (by first | rfl | (simp; done) | (simp [*]; done)), (by first | rfl | (simp; done) | (simp [*]; done)), H', ⟨by have := HJ1.out; have := HK2.out; omega⟩, by repeat (first | exact Drawn0.refl _ | apply Drawn0.step)⟩
              · rw [if_neg c6] at H
                exact absurd H (by simp)
            · rw [if_neg c5] at H
              have c5b0 : decide (x4_2 < (l0.length : Int)) = false := decide_eq_false c5
              clear c5
              obtain rfl := Option.some.inj H
              go_wp2
              go_ret
              exact ⟨by first | rfl | (simp; done) | (simp [*]; done), by repeat (first | exact Drawn0.refl _ | apply Drawn0.step)⟩
def spigotref12_Whole.j0 : Nat → Bool → Int → ByteArray → ByteArray → ByteArray → ByteArray → Int → Int → Int → Int → Int → Int → Int → Int → List Int → Option (Int × Int)
  | 0, _, _, _, _, _, _, _, _, _, _, _, _, _, _, _ => none
  | k + 1, x15, x190000, x190001, x190002, x190003, x190004, x190005, x190006, x190007, x190008, x190009, x190010, x190011, x190012, x190013 => if x15 = true then (some (5003, 282)) else (if x190000 = 1 then (if x190008 = 2 then ((spigotref03_Right.f k x190013).bind fun t191 => (if t191 = true then (some (0, 0)) else (some (5006, 30)))) else (some (0, 0))) else (some (0, 0)))
def spigotref12_Whole.f (k : Nat) (a0_0 : Int) (a0_1 : ByteArray) (a0_2 : ByteArray) (a0_3 : ByteArray) (a0_4 : ByteArray) (a0_5 : Int) (a0_6 : Int) (a0_7 : Int) (a0_8 : Int) (a0_9 : Int) (a0_10 : Int) (a0_11 : Int) (a0_12 : Int) (l0_13 : List Int) : Option (Int × Int) := if a0_0 = 1 then ((spigotref12_in.f (wrap64 (a0_10 - a0_9)) 1 1073741824).bind fun t190 => (spigotref12_Whole.j0 k (!t190) a0_0 a0_1 a0_2 a0_3 a0_4 a0_5 a0_6 a0_7 a0_8 a0_9 a0_10 a0_11 a0_12 l0_13)) else (spigotref12_Whole.j0 k false a0_0 a0_1 a0_2 a0_3 a0_4 a0_5 a0_6 a0_7 a0_8 a0_9 a0_10 a0_11 a0_12 l0_13)
theorem spigotref12_Whole.mono_l : ∀ k, (∀ y0 y1 y2 y3 y4 y5 y6 y7 y8 y9 y10 y11 y12 y13 y14, LeO (spigotref12_Whole.j0 k y0 y1 y2 y3 y4 y5 y6 y7 y8 y9 y10 y11 y12 y13 y14) (spigotref12_Whole.j0 (k + 1) y0 y1 y2 y3 y4 y5 y6 y7 y8 y9 y10 y11 y12 y13 y14))
  | 0 => fun _ _ _ _ _ _ _ _ _ _ _ _ _ _ _ r h => by simp [spigotref12_Whole.j0] at h
  | k + 1 => by
    have ih0 := spigotref12_Whole.mono_l k
    · intro y0 y1 y2 y3 y4 y5 y6 y7 y8 y9 y10 y11 y12 y13 y14
      unfold spigotref12_Whole.j0
      repeat' first
      | (with_reducible exact ih0 _ _ _ _ _ _ _ _ _ _ _ _ _ _ _)
      | (with_reducible exact spigotref03_Right.mono _ _)
      | (with_reducible exact LeO.refl _)
      | (with_reducible exact LeO.none _)
      | (with_reducible refine LeO.ite ?_ ?_)
      | (with_reducible refine LeO.bind ?_ (fun _ => ?_))
      | exact ih0 _ _ _ _ _ _ _ _ _ _ _ _ _ _ _
      | exact spigotref03_Right.mono _ _
      | exact LeO.none _
      | refine LeO.ite ?_ ?_
      | refine LeO.bind ?_ (fun _ => ?_)
theorem spigotref12_Whole.mono : ∀ a0 a1 a2 a3 a4 a5 a6 a7 a8 a9 a10 a11 a12 a13 k, LeO (spigotref12_Whole.f k a0 a1 a2 a3 a4 a5 a6 a7 a8 a9 a10 a11 a12 a13) (spigotref12_Whole.f (k + 1) a0 a1 a2 a3 a4 a5 a6 a7 a8 a9 a10 a11 a12 a13) := by
  intro a0 a1 a2 a3 a4 a5 a6 a7 a8 a9 a10 a11 a12 a13 k
  have ih0 := spigotref12_Whole.mono_l k
  unfold spigotref12_Whole.f
  repeat' first
      | (with_reducible exact ih0 _ _ _ _ _ _ _ _ _ _ _ _ _ _ _)
      | (with_reducible exact spigotref03_Right.mono _ _)
      | (with_reducible exact LeO.refl _)
      | (with_reducible exact LeO.none _)
      | (with_reducible refine LeO.ite ?_ ?_)
      | (with_reducible refine LeO.bind ?_ (fun _ => ?_))
      | exact ih0 _ _ _ _ _ _ _ _ _ _ _ _ _ _ _
      | exact spigotref03_Right.mono _ _
      | exact LeO.none _
      | refine LeO.ite ?_ ?_
      | refine LeO.bind ?_ (fun _ => ?_)
set_option maxHeartbeats 8000000 in
set_option maxRecDepth 100000 in
theorem spigotref12_Whole.calls (k : Nat) (a0_0 : Int) (a0_1 : ByteArray) (a0_2 : ByteArray) (a0_3 : ByteArray) (a0_4 : ByteArray) (a0_5 : Int) (a0_6 : Int) (a0_7 : Int) (a0_8 : Int) (a0_9 : Int) (a0_10 : Int) (a0_11 : Int) (a0_12 : Int) (A0_13 : Option Addr) (c0_13 : Nat) (l0_13 : List Int) (r1 : Int) (r2 : Int) (w : World) (hr0_13 : Kd.C (Kd.int .i64) w A0_13 l0_13.length l0_13) (hc0_13 : l0_13.length ≤ c0_13) (h : spigotref12_Whole.f k a0_0 a0_1 a0_2 a0_3 a0_4 a0_5 a0_6 a0_7 a0_8 a0_9 a0_10 a0_11 a0_12 l0_13 = some (r1, r2)) :
    Calls Tryz.prog 27 #[.agg #[.int .i64 a0_0, .string a0_1, .string a0_2, .string a0_3, .string a0_4, .int .i64 a0_5, .int .i64 a0_6, .int .i64 a0_7, .int .i64 a0_8, .int .i64 a0_9, .int .i64 a0_10, .int .i64 a0_11, .int .i64 a0_12, .slice A0_13 l0_13.length c0_13]] w fun e w' => e = .returned (.tuple #[.int .i64 r1, .int .i64 r2]) ∧ Below w.heap.size w w' := by
  have hu32 := Tryz.underlying32
  have HR0_13 := Aside0.mk hr0_13
  have HC0_13 := Aside0.mk hc0_13
  clear hr0_13 hc0_13
  have HB := Aside0.mk (Below.refl w.heap.size w)
  have H : (if a0_0 = 1 then ((spigotref12_in.f (wrap64 (a0_10 - a0_9)) 1 1073741824).bind fun t190 => (spigotref12_Whole.j0 k (!t190) a0_0 a0_1 a0_2 a0_3 a0_4 a0_5 a0_6 a0_7 a0_8 a0_9 a0_10 a0_11 a0_12 l0_13)) else (spigotref12_Whole.j0 k false a0_0 a0_1 a0_2 a0_3 a0_4 a0_5 a0_6 a0_7 a0_8 a0_9 a0_10 a0_11 a0_12 l0_13)) = some (r1, r2) := h
  clear h
  have HC2 := Aside0.mk H
  clear H
  go_enter Tryz.func27, Tryz.ntmps27
  go_upto_region 1 with (first | ((with_reducible refine gate_dst (N := 1) rfl ?_); refine box_event ?hg (N := 1) ?hd (cs := #[.int .i64 a0_0, .string a0_1, .string a0_2, .string a0_3, .string a0_4, .int .i64 a0_5, .int .i64 a0_6, .int .i64 a0_7, .int .i64 a0_8, .int .i64 a0_9, .int .i64 a0_10, .int .i64 a0_11, .int .i64 a0_12, .slice A0_13 l0_13.length c0_13]) (t := 32) ?hr ?_; (case hd => rfl); (case hg => rfl); (case hr => first | (go_simp; done) | (go_simp; rfl)); intro gb189 hg w3 hbox hb; have n0_ := Aside0.mk (below_step (by repeat (first | (with_reducible first | exact HB.out | apply below_alloc | apply pw_below_drewN | apply below_drew1) | exact HB.out)) hb); have n1_ := Aside0.mk (hbox); have n2_ := Aside0.mk ((by rw [hg]; exact (below_size (by repeat (first | (with_reducible first | exact HB.out | apply below_alloc | apply pw_below_drewN | apply below_drew1) | exact HB.out))) : w.heap.size ≤ gb189)); have n3_ := Aside0.mk ((by rw [hg]; exact (below_size (by repeat (first | (with_reducible first | exact HB.out | apply below_alloc | apply pw_below_drewN | apply below_drew1) | exact HB.out))) : w.heap.size ≤ gb189)); clear HB; have HB := n0_; have BK189 := n1_; have GW189 := n2_; have GE189 := n3_; clear n0_ n1_ n2_ n3_; clear hb hbox hg))
  (try simp only [Act.put, List.setIfInBounds_toArray, List.set_cons_zero, List.set_cons_succ])
  go_cut [15] (fun v15 wc => ∃ (kq : Nat) (x15_1 : Bool), v15 = .bool x15_1 ∧ Aside0 (spigotref12_Whole.j0 kq x15_1 a0_0 a0_1 a0_2 a0_3 a0_4 a0_5 a0_6 a0_7 a0_8 a0_9 a0_10 a0_11 a0_12 l0_13 = some (r1, r2)) ∧ Aside0 (kq ≤ k) ∧ Aside0 (wc.heap[gb189]? = some (.cells #[.int .i64 a0_0, .string a0_1, .string a0_2, .string a0_3, .string a0_4, .int .i64 a0_5, .int .i64 a0_6, .int .i64 a0_7, .int .i64 a0_8, .int .i64 a0_9, .int .i64 a0_10, .int .i64 a0_11, .int .i64 a0_12, (.slice A0_13 l0_13.length c0_13)] 32 (0, 0))) ∧ Aside0 (Below w.heap.size w wc))
  case first =>
    have H := HC2.out
    clear HC2
    by_cases c4 : a0_0 = 1
    · rw [if_pos c4] at H
      have c4b0 : (a0_0 == 1) = true := beq_iff_eq.mpr c4
      have c4b1 : (a0_0 != 1) = false := bne_eq_false_iff_eq.mpr c4
      clear c4
      (first | rw [c4b0] | (simp only [i64_w, i32_w]; rw [c4b0]) | skip)
      replace H := Option.bind_eq_some_iff.mp H
      obtain ⟨t190, A50, H⟩ := H
      replace H : (spigotref12_Whole.j0 k (!t190) a0_0 a0_1 a0_2 a0_3 a0_4 a0_5 a0_6 a0_7 a0_8 a0_9 a0_10 a0_11 a0_12 l0_13) = some (r1, r2) := H
      have A5 := Aside0.mk A50
      clear A50
      have H' := Aside0.mk H
      clear H
      have hcz6_0 : w3.cell? ⟨gb189, 0, none⟩ = some (.int .i64 a0_0) := (blk_cell BK189.out 0).trans rfl
      have hcz6_1 : w3.cell? ⟨gb189, 1, none⟩ = some (.string a0_1) := (blk_cell BK189.out 1).trans rfl
      have hcz6_2 : w3.cell? ⟨gb189, 2, none⟩ = some (.string a0_2) := (blk_cell BK189.out 2).trans rfl
      have hcz6_3 : w3.cell? ⟨gb189, 3, none⟩ = some (.string a0_3) := (blk_cell BK189.out 3).trans rfl
      have hcz6_4 : w3.cell? ⟨gb189, 4, none⟩ = some (.string a0_4) := (blk_cell BK189.out 4).trans rfl
      have hcz6_5 : w3.cell? ⟨gb189, 5, none⟩ = some (.int .i64 a0_5) := (blk_cell BK189.out 5).trans rfl
      have hcz6_6 : w3.cell? ⟨gb189, 6, none⟩ = some (.int .i64 a0_6) := (blk_cell BK189.out 6).trans rfl
      have hcz6_7 : w3.cell? ⟨gb189, 7, none⟩ = some (.int .i64 a0_7) := (blk_cell BK189.out 7).trans rfl
      have hcz6_8 : w3.cell? ⟨gb189, 8, none⟩ = some (.int .i64 a0_8) := (blk_cell BK189.out 8).trans rfl
      have hcz6_9 : w3.cell? ⟨gb189, 9, none⟩ = some (.int .i64 a0_9) := (blk_cell BK189.out 9).trans rfl
      have hcz6_10 : w3.cell? ⟨gb189, 10, none⟩ = some (.int .i64 a0_10) := (blk_cell BK189.out 10).trans rfl
      have hcz6_11 : w3.cell? ⟨gb189, 11, none⟩ = some (.int .i64 a0_11) := (blk_cell BK189.out 11).trans rfl
      have hcz6_12 : w3.cell? ⟨gb189, 12, none⟩ = some (.int .i64 a0_12) := (blk_cell BK189.out 12).trans rfl
      have hcz6_13 : w3.cell? ⟨gb189, 13, none⟩ = some (.slice A0_13 l0_13.length c0_13) := (blk_cell BK189.out 13).trans rfl
      have hfz6_0 := blk_frozen BK189.out 0
      have hfz6_1 := blk_frozen BK189.out 1
      have hfz6_2 := blk_frozen BK189.out 2
      have hfz6_3 := blk_frozen BK189.out 3
      have hfz6_4 := blk_frozen BK189.out 4
      have hfz6_5 := blk_frozen BK189.out 5
      have hfz6_6 := blk_frozen BK189.out 6
      have hfz6_7 := blk_frozen BK189.out 7
      have hfz6_8 := blk_frozen BK189.out 8
      have hfz6_9 := blk_frozen BK189.out 9
      have hfz6_10 := blk_frozen BK189.out 10
      have hfz6_11 := blk_frozen BK189.out 11
      have hfz6_12 := blk_frozen BK189.out 12
      have hfz6_13 := blk_frozen BK189.out 13
      go_wp2_with (first | (go_at_call 24; (with_reducible refine (spigotref12_in.calls (wrap64 (a0_10 - a0_9)) 1 1073741824 t190 _ A5.out).mono ?_); rintro e w' ⟨rfl, ⟨nd, rfl⟩⟩))
      go_meet
      case rel => exact ⟨_, (!t190), (by first | rfl | (simp; done) | (simp [*]; done)), H', ⟨by first | omega | exact Nat.le_refl _⟩, ⟨by (with_reducible repeat (first | refine blk_drewN ?_ _ | refine blk_drew ?_ | refine blk_alloc ?_ _)); exact BK189.out⟩, ⟨by repeat (first | (with_reducible first | exact HB.out | apply below_alloc | apply pw_below_drewN | apply below_drew1 | refine below_set ?_ GE189.out) | exact HB.out)⟩⟩
    · rw [if_neg c4] at H
      have c4b0 : (a0_0 == 1) = false := beq_eq_false_iff_ne.mpr c4
      have c4b1 : (a0_0 != 1) = true := bne_iff_ne.mpr c4
      (first | rw [c4b0] | (simp only [i64_w, i32_w]; rw [c4b0]) | skip)
      have H' := Aside0.mk H
      clear H
      have hcz7_0 : w3.cell? ⟨gb189, 0, none⟩ = some (.int .i64 a0_0) := (blk_cell BK189.out 0).trans rfl
      have hcz7_1 : w3.cell? ⟨gb189, 1, none⟩ = some (.string a0_1) := (blk_cell BK189.out 1).trans rfl
      have hcz7_2 : w3.cell? ⟨gb189, 2, none⟩ = some (.string a0_2) := (blk_cell BK189.out 2).trans rfl
      have hcz7_3 : w3.cell? ⟨gb189, 3, none⟩ = some (.string a0_3) := (blk_cell BK189.out 3).trans rfl
      have hcz7_4 : w3.cell? ⟨gb189, 4, none⟩ = some (.string a0_4) := (blk_cell BK189.out 4).trans rfl
      have hcz7_5 : w3.cell? ⟨gb189, 5, none⟩ = some (.int .i64 a0_5) := (blk_cell BK189.out 5).trans rfl
      have hcz7_6 : w3.cell? ⟨gb189, 6, none⟩ = some (.int .i64 a0_6) := (blk_cell BK189.out 6).trans rfl
      have hcz7_7 : w3.cell? ⟨gb189, 7, none⟩ = some (.int .i64 a0_7) := (blk_cell BK189.out 7).trans rfl
      have hcz7_8 : w3.cell? ⟨gb189, 8, none⟩ = some (.int .i64 a0_8) := (blk_cell BK189.out 8).trans rfl
      have hcz7_9 : w3.cell? ⟨gb189, 9, none⟩ = some (.int .i64 a0_9) := (blk_cell BK189.out 9).trans rfl
      have hcz7_10 : w3.cell? ⟨gb189, 10, none⟩ = some (.int .i64 a0_10) := (blk_cell BK189.out 10).trans rfl
      have hcz7_11 : w3.cell? ⟨gb189, 11, none⟩ = some (.int .i64 a0_11) := (blk_cell BK189.out 11).trans rfl
      have hcz7_12 : w3.cell? ⟨gb189, 12, none⟩ = some (.int .i64 a0_12) := (blk_cell BK189.out 12).trans rfl
      have hcz7_13 : w3.cell? ⟨gb189, 13, none⟩ = some (.slice A0_13 l0_13.length c0_13) := (blk_cell BK189.out 13).trans rfl
      have hfz7_0 := blk_frozen BK189.out 0
      have hfz7_1 := blk_frozen BK189.out 1
      have hfz7_2 := blk_frozen BK189.out 2
      have hfz7_3 := blk_frozen BK189.out 3
      have hfz7_4 := blk_frozen BK189.out 4
      have hfz7_5 := blk_frozen BK189.out 5
      have hfz7_6 := blk_frozen BK189.out 6
      have hfz7_7 := blk_frozen BK189.out 7
      have hfz7_8 := blk_frozen BK189.out 8
      have hfz7_9 := blk_frozen BK189.out 9
      have hfz7_10 := blk_frozen BK189.out 10
      have hfz7_11 := blk_frozen BK189.out 11
      have hfz7_12 := blk_frozen BK189.out 12
      have hfz7_13 := blk_frozen BK189.out 13
      go_wp2
      go_meet
      case rel => exact ⟨_, (false), (by first | rfl | (simp; done) | (simp [*]; done)), H', ⟨by first | omega | exact Nat.le_refl _⟩, ⟨by (with_reducible repeat (first | refine blk_drewN ?_ _ | refine blk_drew ?_ | refine blk_alloc ?_ _)); exact BK189.out⟩, ⟨by repeat (first | (with_reducible first | exact HB.out | apply below_alloc | apply pw_below_drewN | apply below_drew1 | refine below_set ?_ GE189.out) | exact HB.out)⟩⟩
  case rest =>
    clear HC2
    try clear c2
    try clear p2
    try clear c4
    try clear c4b0
    try clear c4b1
    try clear p6
    try clear hcz6_0
    try clear hcz6_1
    try clear hcz6_10
    try clear hcz6_11
    try clear hcz6_12
    try clear hcz6_13
    try clear hcz6_2
    try clear hcz6_3
    try clear hcz6_4
    try clear hcz6_5
    try clear hcz6_6
    try clear hcz6_7
    try clear hcz6_8
    try clear hcz6_9
    try clear hcz7_0
    try clear hcz7_1
    try clear hcz7_10
    try clear hcz7_11
    try clear hcz7_12
    try clear hcz7_13
    try clear hcz7_2
    try clear hcz7_3
    try clear hcz7_4
    try clear hcz7_5
    try clear hcz7_6
    try clear hcz7_7
    try clear hcz7_8
    try clear hcz7_9
    try clear hfz6_0
    try clear hfz6_1
    try clear hfz6_10
    try clear hfz6_11
    try clear hfz6_12
    try clear hfz6_13
    try clear hfz6_2
    try clear hfz6_3
    try clear hfz6_4
    try clear hfz6_5
    try clear hfz6_6
    try clear hfz6_7
    try clear hfz6_8
    try clear hfz6_9
    try clear hfz7_0
    try clear hfz7_1
    try clear hfz7_10
    try clear hfz7_11
    try clear hfz7_12
    try clear hfz7_13
    try clear hfz7_2
    try clear hfz7_3
    try clear hfz7_4
    try clear hfz7_5
    try clear hfz7_6
    try clear hfz7_7
    try clear hfz7_8
    try clear hfz7_9
    obtain ⟨kq, x15_1, rfl, HA, HJ1, BK189, HB⟩ := hcut
    cases kq with
    | zero => exact absurd HA.out (by simp [spigotref12_Whole.j0])
    | succ kj1 =>
      have H := HA.out
      clear HA
      simp only [spigotref12_Whole.j0] at H
      by_cases c8 : x15_1 = true
      · subst c8
        have H1 : (some (5003, 282)) = some (r1, r2) := by rw [if_pos rfl] at H; exact H
        clear H
        have H := H1
        clear H1
        simp only [Option.some.injEq, Prod.mk.injEq] at H
        obtain ⟨rfl, rfl⟩ := H
        go_wp2
        go_ret2
        exact ⟨by first | rfl | (simp [errW_none, errW_some] <;> rfl) | (simp [*, errW_none, errW_some] <;> rfl), by repeat (first | (with_reducible first | exact HB.out | apply below_alloc | apply pw_below_drewN | apply below_drew1 | refine below_set ?_ GE189.out) | exact HB.out)⟩
      · replace c8 := Bool.eq_false_iff.mpr c8
        subst c8
        have H1 : (if a0_0 = 1 then (if a0_8 = 2 then ((spigotref03_Right.f kj1 l0_13).bind fun t191 => (if t191 = true then (some (0, 0)) else (some (5006, 30)))) else (some (0, 0))) else (some (0, 0))) = some (r1, r2) := by rw [if_neg (show ¬ (false = true) by decide)] at H; exact H
        clear H
        have H := H1
        clear H1
        by_cases c9 : a0_0 = 1
        · rw [if_pos c9] at H
          have c9b0 : (a0_0 == 1) = true := beq_iff_eq.mpr c9
          have c9b1 : (a0_0 != 1) = false := bne_eq_false_iff_eq.mpr c9
          clear c9
          by_cases c10 : a0_8 = 2
          · rw [if_pos c10] at H
            have c10b0 : (a0_8 == 2) = true := beq_iff_eq.mpr c10
            have c10b1 : (a0_8 != 2) = false := bne_eq_false_iff_eq.mpr c10
            clear c10
            replace H := Option.bind_eq_some_iff.mp H
            obtain ⟨t191, A110, H⟩ := H
            replace H : (if t191 = true then (some (0, 0)) else (some (5006, 30))) = some (r1, r2) := H
            have A11 := Aside0.mk A110
            clear A110
            by_cases c12 : t191 = true
            · subst c12
              have H1 : (some (0, 0)) = some (r1, r2) := by rw [if_pos rfl] at H; exact H
              clear H
              have H := H1
              clear H1
              simp only [Option.some.injEq, Prod.mk.injEq] at H
              obtain ⟨rfl, rfl⟩ := H
              have hcz13_0 : wc.cell? ⟨gb189, 0, none⟩ = some (.int .i64 a0_0) := (blk_cell BK189.out 0).trans rfl
              have hcz13_1 : wc.cell? ⟨gb189, 1, none⟩ = some (.string a0_1) := (blk_cell BK189.out 1).trans rfl
              have hcz13_2 : wc.cell? ⟨gb189, 2, none⟩ = some (.string a0_2) := (blk_cell BK189.out 2).trans rfl
              have hcz13_3 : wc.cell? ⟨gb189, 3, none⟩ = some (.string a0_3) := (blk_cell BK189.out 3).trans rfl
              have hcz13_4 : wc.cell? ⟨gb189, 4, none⟩ = some (.string a0_4) := (blk_cell BK189.out 4).trans rfl
              have hcz13_5 : wc.cell? ⟨gb189, 5, none⟩ = some (.int .i64 a0_5) := (blk_cell BK189.out 5).trans rfl
              have hcz13_6 : wc.cell? ⟨gb189, 6, none⟩ = some (.int .i64 a0_6) := (blk_cell BK189.out 6).trans rfl
              have hcz13_7 : wc.cell? ⟨gb189, 7, none⟩ = some (.int .i64 a0_7) := (blk_cell BK189.out 7).trans rfl
              have hcz13_8 : wc.cell? ⟨gb189, 8, none⟩ = some (.int .i64 a0_8) := (blk_cell BK189.out 8).trans rfl
              have hcz13_9 : wc.cell? ⟨gb189, 9, none⟩ = some (.int .i64 a0_9) := (blk_cell BK189.out 9).trans rfl
              have hcz13_10 : wc.cell? ⟨gb189, 10, none⟩ = some (.int .i64 a0_10) := (blk_cell BK189.out 10).trans rfl
              have hcz13_11 : wc.cell? ⟨gb189, 11, none⟩ = some (.int .i64 a0_11) := (blk_cell BK189.out 11).trans rfl
              have hcz13_12 : wc.cell? ⟨gb189, 12, none⟩ = some (.int .i64 a0_12) := (blk_cell BK189.out 12).trans rfl
              have hcz13_13 : wc.cell? ⟨gb189, 13, none⟩ = some (.slice A0_13 l0_13.length c0_13) := (blk_cell BK189.out 13).trans rfl
              have hfz13_0 := blk_frozen BK189.out 0
              have hfz13_1 := blk_frozen BK189.out 1
              have hfz13_2 := blk_frozen BK189.out 2
              have hfz13_3 := blk_frozen BK189.out 3
              have hfz13_4 := blk_frozen BK189.out 4
              have hfz13_5 := blk_frozen BK189.out 5
              have hfz13_6 := blk_frozen BK189.out 6
              have hfz13_7 := blk_frozen BK189.out 7
              have hfz13_8 := blk_frozen BK189.out 8
              have hfz13_9 := blk_frozen BK189.out 9
              have hfz13_10 := blk_frozen BK189.out 10
              have hfz13_11 := blk_frozen BK189.out 11
              have hfz13_12 := blk_frozen BK189.out 12
              have hfz13_13 := blk_frozen BK189.out 13
              go_wp2_with (first | (go_at_call 54; (with_reducible refine (spigotref03_Right.calls kj1 _ _ l0_13 true _ ?side1 ?side2 A11.out).mono ?_); (case side1 => repeat (first | exact (Kd.C_below HR0_13.out HB.out) | (with_reducible refine Kd.C_alloc ?_ _) | (with_reducible refine Kd.C_drewN ?_ _) | (with_reducible refine Kd.C_drew ?_))); (case side2 => exact HC0_13.out); rintro e w' ⟨rfl, ⟨nd, rfl⟩⟩))
              go_ret2
              exact ⟨by first | rfl | (simp [errW_none, errW_some] <;> rfl) | (simp [*, errW_none, errW_some] <;> rfl), by repeat (first | (with_reducible first | exact HB.out | apply below_alloc | apply pw_below_drewN | apply below_drew1 | refine below_set ?_ GE189.out) | exact HB.out)⟩
            · replace c12 := Bool.eq_false_iff.mpr c12
              subst c12
              have H1 : (some (5006, 30)) = some (r1, r2) := by rw [if_neg (show ¬ (false = true) by decide)] at H; exact H
              clear H
              have H := H1
              clear H1
              simp only [Option.some.injEq, Prod.mk.injEq] at H
              obtain ⟨rfl, rfl⟩ := H
              have hcz14_0 : wc.cell? ⟨gb189, 0, none⟩ = some (.int .i64 a0_0) := (blk_cell BK189.out 0).trans rfl
              have hcz14_1 : wc.cell? ⟨gb189, 1, none⟩ = some (.string a0_1) := (blk_cell BK189.out 1).trans rfl
              have hcz14_2 : wc.cell? ⟨gb189, 2, none⟩ = some (.string a0_2) := (blk_cell BK189.out 2).trans rfl
              have hcz14_3 : wc.cell? ⟨gb189, 3, none⟩ = some (.string a0_3) := (blk_cell BK189.out 3).trans rfl
              have hcz14_4 : wc.cell? ⟨gb189, 4, none⟩ = some (.string a0_4) := (blk_cell BK189.out 4).trans rfl
              have hcz14_5 : wc.cell? ⟨gb189, 5, none⟩ = some (.int .i64 a0_5) := (blk_cell BK189.out 5).trans rfl
              have hcz14_6 : wc.cell? ⟨gb189, 6, none⟩ = some (.int .i64 a0_6) := (blk_cell BK189.out 6).trans rfl
              have hcz14_7 : wc.cell? ⟨gb189, 7, none⟩ = some (.int .i64 a0_7) := (blk_cell BK189.out 7).trans rfl
              have hcz14_8 : wc.cell? ⟨gb189, 8, none⟩ = some (.int .i64 a0_8) := (blk_cell BK189.out 8).trans rfl
              have hcz14_9 : wc.cell? ⟨gb189, 9, none⟩ = some (.int .i64 a0_9) := (blk_cell BK189.out 9).trans rfl
              have hcz14_10 : wc.cell? ⟨gb189, 10, none⟩ = some (.int .i64 a0_10) := (blk_cell BK189.out 10).trans rfl
              have hcz14_11 : wc.cell? ⟨gb189, 11, none⟩ = some (.int .i64 a0_11) := (blk_cell BK189.out 11).trans rfl
              have hcz14_12 : wc.cell? ⟨gb189, 12, none⟩ = some (.int .i64 a0_12) := (blk_cell BK189.out 12).trans rfl
              have hcz14_13 : wc.cell? ⟨gb189, 13, none⟩ = some (.slice A0_13 l0_13.length c0_13) := (blk_cell BK189.out 13).trans rfl
              have hfz14_0 := blk_frozen BK189.out 0
              have hfz14_1 := blk_frozen BK189.out 1
              have hfz14_2 := blk_frozen BK189.out 2
              have hfz14_3 := blk_frozen BK189.out 3
              have hfz14_4 := blk_frozen BK189.out 4
              have hfz14_5 := blk_frozen BK189.out 5
              have hfz14_6 := blk_frozen BK189.out 6
              have hfz14_7 := blk_frozen BK189.out 7
              have hfz14_8 := blk_frozen BK189.out 8
              have hfz14_9 := blk_frozen BK189.out 9
              have hfz14_10 := blk_frozen BK189.out 10
              have hfz14_11 := blk_frozen BK189.out 11
              have hfz14_12 := blk_frozen BK189.out 12
              have hfz14_13 := blk_frozen BK189.out 13
              go_wp2_with (first | (go_at_call 54; (with_reducible refine (spigotref03_Right.calls kj1 _ _ l0_13 false _ ?side1 ?side2 A11.out).mono ?_); (case side1 => repeat (first | exact (Kd.C_below HR0_13.out HB.out) | (with_reducible refine Kd.C_alloc ?_ _) | (with_reducible refine Kd.C_drewN ?_ _) | (with_reducible refine Kd.C_drew ?_))); (case side2 => exact HC0_13.out); rintro e w' ⟨rfl, ⟨nd, rfl⟩⟩))
              go_ret2
              exact ⟨by first | rfl | (simp [errW_none, errW_some] <;> rfl) | (simp [*, errW_none, errW_some] <;> rfl), by repeat (first | (with_reducible first | exact HB.out | apply below_alloc | apply pw_below_drewN | apply below_drew1 | refine below_set ?_ GE189.out) | exact HB.out)⟩
          · rw [if_neg c10] at H
            have c10b0 : (a0_8 == 2) = false := beq_eq_false_iff_ne.mpr c10
            have c10b1 : (a0_8 != 2) = true := bne_iff_ne.mpr c10
            simp only [Option.some.injEq, Prod.mk.injEq] at H
            obtain ⟨rfl, rfl⟩ := H
            have hcz15_0 : wc.cell? ⟨gb189, 0, none⟩ = some (.int .i64 a0_0) := (blk_cell BK189.out 0).trans rfl
            have hcz15_1 : wc.cell? ⟨gb189, 1, none⟩ = some (.string a0_1) := (blk_cell BK189.out 1).trans rfl
            have hcz15_2 : wc.cell? ⟨gb189, 2, none⟩ = some (.string a0_2) := (blk_cell BK189.out 2).trans rfl
            have hcz15_3 : wc.cell? ⟨gb189, 3, none⟩ = some (.string a0_3) := (blk_cell BK189.out 3).trans rfl
            have hcz15_4 : wc.cell? ⟨gb189, 4, none⟩ = some (.string a0_4) := (blk_cell BK189.out 4).trans rfl
            have hcz15_5 : wc.cell? ⟨gb189, 5, none⟩ = some (.int .i64 a0_5) := (blk_cell BK189.out 5).trans rfl
            have hcz15_6 : wc.cell? ⟨gb189, 6, none⟩ = some (.int .i64 a0_6) := (blk_cell BK189.out 6).trans rfl
            have hcz15_7 : wc.cell? ⟨gb189, 7, none⟩ = some (.int .i64 a0_7) := (blk_cell BK189.out 7).trans rfl
            have hcz15_8 : wc.cell? ⟨gb189, 8, none⟩ = some (.int .i64 a0_8) := (blk_cell BK189.out 8).trans rfl
            have hcz15_9 : wc.cell? ⟨gb189, 9, none⟩ = some (.int .i64 a0_9) := (blk_cell BK189.out 9).trans rfl
            have hcz15_10 : wc.cell? ⟨gb189, 10, none⟩ = some (.int .i64 a0_10) := (blk_cell BK189.out 10).trans rfl
            have hcz15_11 : wc.cell? ⟨gb189, 11, none⟩ = some (.int .i64 a0_11) := (blk_cell BK189.out 11).trans rfl
            have hcz15_12 : wc.cell? ⟨gb189, 12, none⟩ = some (.int .i64 a0_12) := (blk_cell BK189.out 12).trans rfl
            have hcz15_13 : wc.cell? ⟨gb189, 13, none⟩ = some (.slice A0_13 l0_13.length c0_13) := (blk_cell BK189.out 13).trans rfl
            have hfz15_0 := blk_frozen BK189.out 0
            have hfz15_1 := blk_frozen BK189.out 1
            have hfz15_2 := blk_frozen BK189.out 2
            have hfz15_3 := blk_frozen BK189.out 3
            have hfz15_4 := blk_frozen BK189.out 4
            have hfz15_5 := blk_frozen BK189.out 5
            have hfz15_6 := blk_frozen BK189.out 6
            have hfz15_7 := blk_frozen BK189.out 7
            have hfz15_8 := blk_frozen BK189.out 8
            have hfz15_9 := blk_frozen BK189.out 9
            have hfz15_10 := blk_frozen BK189.out 10
            have hfz15_11 := blk_frozen BK189.out 11
            have hfz15_12 := blk_frozen BK189.out 12
            have hfz15_13 := blk_frozen BK189.out 13
            go_wp2
            go_ret2
            exact ⟨by first | rfl | (simp [errW_none, errW_some] <;> rfl) | (simp [*, errW_none, errW_some] <;> rfl), by repeat (first | (with_reducible first | exact HB.out | apply below_alloc | apply pw_below_drewN | apply below_drew1 | refine below_set ?_ GE189.out) | exact HB.out)⟩
        · rw [if_neg c9] at H
          have c9b0 : (a0_0 == 1) = false := beq_eq_false_iff_ne.mpr c9
          have c9b1 : (a0_0 != 1) = true := bne_iff_ne.mpr c9
          simp only [Option.some.injEq, Prod.mk.injEq] at H
          obtain ⟨rfl, rfl⟩ := H
          have hcz16_0 : wc.cell? ⟨gb189, 0, none⟩ = some (.int .i64 a0_0) := (blk_cell BK189.out 0).trans rfl
          have hcz16_1 : wc.cell? ⟨gb189, 1, none⟩ = some (.string a0_1) := (blk_cell BK189.out 1).trans rfl
          have hcz16_2 : wc.cell? ⟨gb189, 2, none⟩ = some (.string a0_2) := (blk_cell BK189.out 2).trans rfl
          have hcz16_3 : wc.cell? ⟨gb189, 3, none⟩ = some (.string a0_3) := (blk_cell BK189.out 3).trans rfl
          have hcz16_4 : wc.cell? ⟨gb189, 4, none⟩ = some (.string a0_4) := (blk_cell BK189.out 4).trans rfl
          have hcz16_5 : wc.cell? ⟨gb189, 5, none⟩ = some (.int .i64 a0_5) := (blk_cell BK189.out 5).trans rfl
          have hcz16_6 : wc.cell? ⟨gb189, 6, none⟩ = some (.int .i64 a0_6) := (blk_cell BK189.out 6).trans rfl
          have hcz16_7 : wc.cell? ⟨gb189, 7, none⟩ = some (.int .i64 a0_7) := (blk_cell BK189.out 7).trans rfl
          have hcz16_8 : wc.cell? ⟨gb189, 8, none⟩ = some (.int .i64 a0_8) := (blk_cell BK189.out 8).trans rfl
          have hcz16_9 : wc.cell? ⟨gb189, 9, none⟩ = some (.int .i64 a0_9) := (blk_cell BK189.out 9).trans rfl
          have hcz16_10 : wc.cell? ⟨gb189, 10, none⟩ = some (.int .i64 a0_10) := (blk_cell BK189.out 10).trans rfl
          have hcz16_11 : wc.cell? ⟨gb189, 11, none⟩ = some (.int .i64 a0_11) := (blk_cell BK189.out 11).trans rfl
          have hcz16_12 : wc.cell? ⟨gb189, 12, none⟩ = some (.int .i64 a0_12) := (blk_cell BK189.out 12).trans rfl
          have hcz16_13 : wc.cell? ⟨gb189, 13, none⟩ = some (.slice A0_13 l0_13.length c0_13) := (blk_cell BK189.out 13).trans rfl
          have hfz16_0 := blk_frozen BK189.out 0
          have hfz16_1 := blk_frozen BK189.out 1
          have hfz16_2 := blk_frozen BK189.out 2
          have hfz16_3 := blk_frozen BK189.out 3
          have hfz16_4 := blk_frozen BK189.out 4
          have hfz16_5 := blk_frozen BK189.out 5
          have hfz16_6 := blk_frozen BK189.out 6
          have hfz16_7 := blk_frozen BK189.out 7
          have hfz16_8 := blk_frozen BK189.out 8
          have hfz16_9 := blk_frozen BK189.out 9
          have hfz16_10 := blk_frozen BK189.out 10
          have hfz16_11 := blk_frozen BK189.out 11
          have hfz16_12 := blk_frozen BK189.out 12
          have hfz16_13 := blk_frozen BK189.out 13
          go_wp2
          go_ret2
          exact ⟨by first | rfl | (simp [errW_none, errW_some] <;> rfl) | (simp [*, errW_none, errW_some] <;> rfl), by repeat (first | (with_reducible first | exact HB.out | apply below_alloc | apply pw_below_drewN | apply below_drew1 | refine below_set ?_ GE189.out) | exact HB.out)⟩
end Go.Proofs.YtgfigkfcmkdjdaaGreatDoor.B
end
