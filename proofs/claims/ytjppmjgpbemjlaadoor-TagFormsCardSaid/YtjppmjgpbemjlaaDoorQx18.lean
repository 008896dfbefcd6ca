/- Each Go function that the laws of this seat reach, as a plain Lean function, and its contract: the machine's call does what that function says. -/
import Derived.Test.YtjppmjgpbemjlaaDoorQx0
import Derived.Test.YtjppmjgpbemjlaaDoorQx1
import Derived.Test.YtjppmjgpbemjlaaDoorQx10
namespace Go.Proofs.YtjppmjgpbemjlaaDoor.Q
open Go.RowKit Go.Proofs.YtjppmjgpbemjlaaDoorW.PrintWords Go.Proofs.YtjppmjgpbemjlaaDoorW.PrintLast Go.Proofs.YtjppmjgpbemjlaaDoorW.PrintMore
attribute [local go_sem] max2_int min2_int max_two min_two max_three min_three max_four min_four   -- for this text's walks alone
set_option linter.unusedVariables false
set_option linter.unusedSimpArgs false

--PART
/-! ### spigotref08_Value: function 23 -/
--needs 28
def spigotref08_Value.f (a0 : ByteArray) : Option Bool := if a0.size ≤ 70368744177664 then some (valueL a0.data.toList) else none
def ValIs (b : Bool) (w : World) (e : Ending) (w' : World) : Prop := e = .returned (.bool b) ∧ Below w.heap.size w w'
theorem ValIs.mk_ {a b : Bool} {w w' : World} (h : a = b) (hw : Below w.heap.size w w') : ValIs b w (.returned (.bool a)) w' := by subst h; exact ⟨rfl, hw⟩
theorem all_take_step (l : List Nat) (k : Nat) (hk : k < l.length) (h : (l.take k).all mayB = true) : (l.take (k + 1)).all mayB = mayB (l.getD k 0) := by
  rw [List.take_succ_eq_append_getElem hk, List.all_append, h]
  simp [List.getD, List.getElem?_eq_getElem hk]
theorem all_take_false (l : List Nat) (k : Nat) (hk : k < l.length) (h : mayB (l.getD k 0) = false) : l.all mayB = false := by
  rw [List.all_eq_false]
  exact ⟨l[k], List.getElem_mem hk, by simpa [List.getD, List.getElem?_eq_getElem hk] using h⟩
theorem runes_le (n : Nat) : ∀ l : List UInt8, l.length ≤ n → ∀ k, (runesL l).getD k 0 ≤ 1114111 := by
  induction n with
  | zero => intro l h k; rw [List.eq_nil_of_length_eq_zero (show l.length = 0 by omega), runesL_nil]; simp
  | succ n ih =>
    intro l h k
    by_cases hl : l = []
    · rw [hl, runesL_nil]; simp
    · have hp := List.length_pos_iff.2 hl
      have hw := dec_width l
      rw [runesL_cons l hl]
      cases k with
      | zero => exact dec_rune l
      | succ k => exact ih _ (by rw [List.length_drop]; omega) k
set_option maxHeartbeats 2000000 in
theorem spigotref08_Value_walk (s : ByteArray) (w : World) (hs : s.size ≤ 70368744177664) :
    Calls Tryd.prog 23 #[.string s] w (ValIs (valueL s.data.toList) w) := by
  have hV : valueL s.data.toList = (decide (1 ≤ s.size) && (decide (s.size ≤ 512) && allMay s.data.toList)) := rfl
  rw [allMay_runes _ _ (Nat.le_refl _)] at hV
  have HV := Aside0.mk hV
  clear hV
  have hRl := runesL_len _ s.data.toList (Nat.le_refl _)
  rw [size_list] at hRl
  have HR := Aside0.mk (runes_le _ s.data.toList (Nat.le_refl _))
  obtain ⟨cap, C, hcv, hcap, hCs, hC⟩ := runes_conv (P := Tryd.prog) w 9 47 21 s Tryd.underlying9 Tryd.underlying47 Tryd.underlying21 hs
  have HC := Aside0.mk hC
  have HB2 : Aside0 (Below w.heap.size w (w.drew.alloc (.cells C 21))) := ⟨(Below.refl _ _).drew.alloc (Nat.le_refl _) _⟩
  generalize runesL s.data.toList = R at *
  clear hC hCs
  go_enter Tryd.func23, Tryd.ntmps23
  go_wp2
  go_loopw [4] (fun v4 w' => ∃ k : Nat, v4 = .int .i64 (k : Int) ∧ k ≤ R.length ∧ w' = w.drew.alloc (.cells C 21) ∧ Aside0 ((R.take k).all mayB = true)) (fun v4 _ => R.length - (intOf v4).toNat)
  case atStart => exact ⟨0, rfl, Nat.zero_le _, rfl, ⟨rfl⟩⟩
  case round =>
    obtain ⟨k, rfl, hk, rfl, HA⟩ := hrel
    by_cases hlt : k < R.length
    · have t1 : decide (k < R.length) = true := decide_eq_true hlt
      have hc := HC.out k hlt
      have hle := HR.out k
      have HS := Aside0.mk (all_take_step R k hlt HA.out)
      have HF := Aside0.mk (all_take_false R k hlt)
      generalize R.getD k 0 = r at *
      have HM : Aside0 (∀ w, Calls Tryd.prog 28 #[.int .i32 (r : Int)] w fun e w' => e = .returned (.bool (mayB r)) ∧ w = w') := ⟨fun w => spigotref08_May_same r (by omega) w⟩
      cases hm : mayB r with
      | false =>
        rw [hm] at HM
        have HG := Aside0.mk (HF.out hm)
        clear hm HF HS
        go_wp2_with (go_at_call 28; refine (HM.out _).mono ?_; rintro e w1 ⟨rfl, rfl⟩)
        go_ret
        exact ValIs.mk_ (by rw [HV.out, HG.out]; simp) HB2.out
      | true =>
        rw [hm] at HM
        have HG := Aside0.mk (HS.out.trans hm)
        clear hm HF HS
        go_wp2_with (go_at_call 28; refine (HM.out _).mono ?_; rintro e w1 ⟨rfl, rfl⟩)
        go_roundw
        case rel => exact ⟨k + 1, by simp, by omega, rfl, HG⟩
        case measure => simp [intOf]; omega
    · have t1 : decide (k < R.length) = false := decide_eq_false hlt
      have HG := Aside0.mk (show R.all mayB = true by have := HA.out; rwa [List.take_of_length_le (by omega)] at this)
      clear HA
      by_cases c1 : 1 ≤ s.size
      · by_cases c2 : s.size ≤ 512
        · have t2 : decide ((1 : Int) ≤ (s.size : Int)) = true := by rw [decide_eq_true_eq]; omega
          have t3 : decide ((s.size : Int) ≤ 512) = true := by rw [decide_eq_true_eq]; omega
          have HZ := Aside0.mk (show true = valueL s.data.toList by rw [HV.out, HG.out, decide_eq_true c1, decide_eq_true c2]; rfl)
          go_wp2
          go_ret
          exact ValIs.mk_ HZ.out HB2.out
        · have t2 : decide ((1 : Int) ≤ (s.size : Int)) = true := by rw [decide_eq_true_eq]; omega
          have t3 : decide ((s.size : Int) ≤ 512) = false := by rw [decide_eq_false_iff_not]; omega
          have HZ := Aside0.mk (show false = valueL s.data.toList by rw [HV.out, HG.out, decide_eq_true c1, decide_eq_false c2]; rfl)
          go_wp2
          go_ret
          exact ValIs.mk_ HZ.out HB2.out
      · have t2 : decide ((1 : Int) ≤ (s.size : Int)) = false := by rw [decide_eq_false_iff_not]; omega
        have HZ := Aside0.mk (show false = valueL s.data.toList by rw [HV.out, decide_eq_false c1]; rfl)
        go_wp2
        go_ret
        exact ValIs.mk_ HZ.out HB2.out
theorem spigotref08_Value.calls (a0 : ByteArray) (r : Bool) (w : World) (h : spigotref08_Value.f a0 = some r) :
    Calls Tryd.prog 23 #[.string a0] w fun e w' => e = .returned (.bool r) ∧ Below w.heap.size w w' := by
  unfold spigotref08_Value.f at h
  by_cases c : a0.size ≤ 70368744177664
  · rw [if_pos c] at h
    obtain rfl := Option.some.inj h
    exact spigotref08_Value_walk a0 w c
  · rw [if_neg c] at h; cases h

end Go.Proofs.YtjppmjgpbemjlaaDoor.Q
