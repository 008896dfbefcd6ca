/- Each Go function that the laws of this seat reach, as a plain Lean function, and its contract: the machine's call does what that function says. -/
import Derived.Test.YtcjilccldfkhmaaDoorQx0
import Derived.Test.YtcjilccldfkhmaaDoorQx2
import Derived.Test.YtcjilccldfkhmaaDoorQx15
namespace Go.Proofs.YtcjilccldfkhmaaDoor.Q
open Go.RowKit Go.Proofs.YtcjilccldfkhmaaDoorW.PrintWords Go.Proofs.YtcjilccldfkhmaaDoorW.PrintLast Go.Proofs.YtcjilccldfkhmaaDoorW.PrintMore
attribute [local go_sem] max2_int min2_int max_two min_two max_three min_three max_four min_four   -- for this text's walks alone
set_option linter.unusedVariables false
set_option linter.unusedSimpArgs false

--PART
/-! ### spigotref37_Place_p: function 17 -/
def spigotref37_Place_p.l0 : Nat → List (S56) → Int → Int → Int → Option (Int)
  | 0, _, _, _, _ => none
  | k + 1, x0, x1, x5, x6 => if x6 < (x0.length : Int) then (if 0 ≤ x6 then (if ((rd_T56 x0 x6).f0) ≤ x1 then (spigotref37_Place_p.l0 k x0 x1 x6 (wrap64 (x6 + 1))) else (spigotref37_Place_p.l0 k x0 x1 x5 (wrap64 (x6 + 1)))) else (none)) else (some x5)
def spigotref37_Place_p.f (k : Nat) (l0 : List (S56)) (a1 : Int) : Option (Int) := spigotref37_Place_p.l0 k l0 a1 0 0
theorem spigotref37_Place_p.mono_l : ∀ k, (∀ y0 y1 y2 y3, LeO (spigotref37_Place_p.l0 k y0 y1 y2 y3) (spigotref37_Place_p.l0 (k + 1) y0 y1 y2 y3))
  | 0 => fun _ _ _ _ r h => by simp [spigotref37_Place_p.l0] at h
  | k + 1 => by
    have ih0 := spigotref37_Place_p.mono_l k
    · intro y0 y1 y2 y3
      unfold spigotref37_Place_p.l0
      repeat' first
      | (with_reducible exact ih0 _ _ _ _)
      | (with_reducible exact LeO.refl _)
      | (with_reducible exact LeO.none _)
      | (with_reducible refine LeO.ite ?_ ?_)
      | (with_reducible refine LeO.bind ?_ (fun _ => ?_))
      | exact ih0 _ _ _ _
      | exact LeO.none _
      | refine LeO.ite ?_ ?_
      | refine LeO.bind ?_ (fun _ => ?_)
theorem spigotref37_Place_p.mono : ∀ a0 a1 k, LeO (spigotref37_Place_p.f k a0 a1) (spigotref37_Place_p.f (k + 1) a0 a1) := by
  intro a0 a1 k
  have ih0 := spigotref37_Place_p.mono_l k
  unfold spigotref37_Place_p.f
  repeat' first
      | (with_reducible exact ih0 _ _ _ _)
      | (with_reducible exact LeO.refl _)
      | (with_reducible exact LeO.none _)
      | (with_reducible refine LeO.ite ?_ ?_)
      | (with_reducible refine LeO.bind ?_ (fun _ => ?_))
      | exact ih0 _ _ _ _
      | exact LeO.none _
      | refine LeO.ite ?_ ?_
      | refine LeO.bind ?_ (fun _ => ?_)
set_option maxHeartbeats 8000000 in
set_option maxRecDepth 100000 in
theorem spigotref37_Place_p.calls (k : Nat) (A0 : Option Addr) (c0 : Nat) (l0 : List (S56)) (a1 : Int) (r : Int) (w : World) (hr0 : Kd.C k56 w A0 l0.length l0) (hc0 : l0.length ≤ c0) (h : spigotref37_Place_p.f k l0 a1 = some r) :
    Calls Tryd.prog 17 #[.slice A0 l0.length c0, .int .i64 a1] w fun e w' => e = .returned (.int .i64 r) ∧ Drawn0 w w' := by
  have HR0 := Aside0.mk hr0
  have HC0 := Aside0.mk hc0
  clear hr0 hc0
  have H : (spigotref37_Place_p.l0 k l0 a1 0 0) = some r := h
  clear h
  have H' := Aside0.mk H
  clear H
  go_enter Tryd.func17, Tryd.ntmps17
  go_wp2
  go_loopg [5, 6] k (fun kq v5 v6 w' => ∃ (x5_1 : Int) (x6_1 : Int), v5 = .int .i64 x5_1 ∧ v6 = .int .i64 x6_1 ∧ Aside0 (spigotref37_Place_p.l0 kq l0 a1 x5_1 x6_1 = some r) ∧ Aside0 (kq ≤ k) ∧ Drawn0 w w')
  case atStart => exact ⟨(0), (0), (by first | rfl | (simp; done) | (simp [*]; done)), (by first | rfl | (simp; done) | (simp [*]; done)), H', ⟨Nat.le_refl _⟩, by repeat (first | exact Drawn0.refl _ | apply Drawn0.step)⟩
  case round =>
    clear H'
    try clear c1
    try clear p2
    obtain ⟨x5_1, x6_1, rfl, rfl, HA, HK1, ⟨m1, rfl⟩⟩ := hrel
    cases gk with
    | zero => exact absurd HA.out (by simp [spigotref37_Place_p.l0])
    | succ k1 =>
      have H := HA.out
      clear HA
      simp only [spigotref37_Place_p.l0] at H
      by_cases c3 : x6_1 < (l0.length : Int)
      · rw [if_pos c3] at H
        have c3b0 : decide (x6_1 < (l0.length : Int)) = true := decide_eq_true c3
        clear c3
        by_cases c4 : 0 ≤ x6_1
        · rw [if_pos c4] at H
          have c4b0 : decide (0 ≤ x6_1) = true := decide_eq_true c4
          clear c4
          by_cases c5 : ((rd_T56 l0 x6_1).f0) ≤ a1
          · rw [if_pos c5] at H
            have c5b0 : decide (((rd_T56 l0 x6_1).f0) ≤ a1) = true := decide_eq_true c5
            clear c5
            have H' := Aside0.mk H
            clear H
            have p169 : 0 ≤ (x6_1 : Int) := of_decide_eq_true (by first | (with_reducible assumption) | assumption)
            have q169 : x6_1 < (l0.length : Int) := of_decide_eq_true (by first | (with_reducible assumption) | assumption)
            obtain ⟨ad169, e169, hx169_0, hx169_1⟩ := at_T56 HR0.out x6_1 p169 q169
            cases e169
            replace p169 := eq_true p169
            replace q169 := eq_true q169
            go_wp2
            go_roundg k1
            case measure => have := HK1.out; omega
            case rel => exact ⟨(x6_1), (wrap64 (x6_1 + 1)), (by first | rfl | (simp; done) | (simp [*]; done)), (by first | rfl | (simp; done) | (simp [*]; done)), H', ⟨by have := HK1.out; omega⟩, by repeat (first | exact Drawn0.refl _ | apply Drawn0.step)⟩
          · rw [if_neg c5] at H
            have c5b0 : decide (((rd_T56 l0 x6_1).f0) ≤ a1) = false := decide_eq_false c5
            clear c5
            have H' := Aside0.mk H
            clear H
            have p169 : 0 ≤ (x6_1 : Int) := of_decide_eq_true (by first | (with_reducible assumption) | assumption)
            have q169 : x6_1 < (l0.length : Int) := of_decide_eq_true (by first | (with_reducible assumption) | assumption)
            obtain ⟨ad169, e169, hx169_0, hx169_1⟩ := at_T56 HR0.out x6_1 p169 q169
            cases e169
            replace p169 := eq_true p169
            replace q169 := eq_true q169
            go_wp2
            go_roundg k1
            case measure => have := HK1.out; omega
            case rel => exact ⟨(x5_1), (wrap64 (x6_1 + 1)), (by first | rfl | (simp; done) | (simp [*]; done)), (by first | rfl | (simp; done) | (simp [*]; done)), H', ⟨by have := HK1.out; omega⟩, by repeat (first | exact Drawn0.refl _ | apply Drawn0.step)⟩
        · rw [if_neg c4] at H
          exact absurd H (by simp)
      · rw [if_neg c3] at H
        have c3b0 : decide (x6_1 < (l0.length : Int)) = false := decide_eq_false c3
        clear c3
        obtain rfl := Option.some.inj H
        go_wp2
        go_ret
        exact ⟨by first | rfl | (simp; done) | (simp [*]; done), by repeat (first | exact Drawn0.refl _ | apply Drawn0.step)⟩
/-! ### spigotref37_Place: function 17 -/
/-- The last place at which a phase has begun (the one before, where none has). -/
theorem ref37_Place_loop (l : List S56) (now : Int) (hb : l.length ≤ 1000) (ha : ascL (l.map prQ)) (d : Nat) : ∀ (k i p : Nat), i + d = l.length → d < k → (i ≤ begunL now (l.map prQ) → p = i - 1) → (begunL now (l.map prQ) ≤ i → p = begunL now (l.map prQ) - 1) →
    spigotref37_Place_p.l0 k l now (p : Int) (i : Int) = some ((begunL now (l.map prQ) - 1 : Nat) : Int) := by
  have hle := begunL_le now (l.map prQ)
  rw [List.length_map] at hle
  induction d with
  | zero =>
    intro k i p hi hk h1 h2
    obtain ⟨k, rfl⟩ : ∃ n, k = n + 1 := ⟨k - 1, by omega⟩
    simp only [spigotref37_Place_p.l0]
    rw [if_neg (by omega), h2 (by omega)]
  | succ d ih =>
    intro k i p hi hk h1 h2
    obtain ⟨k, rfl⟩ : ∃ n, k = n + 1 := ⟨k - 1, by omega⟩
    have hlt : i < l.length := by omega
    have hget := prQ_getD l i hlt
    simp only [spigotref37_Place_p.l0]
    rw [if_pos (by omega), if_pos (by omega), rdQ_at l i hlt, w64 (by omega) (by omega), show ((i : Int) + 1) = ((i + 1 : Nat) : Int) by omega]
    by_cases c : l[i].f0 ≤ now
    · rw [if_pos c]
      have hib : i < begunL now (l.map prQ) := by
        rcases Nat.lt_or_ge i (begunL now (l.map prQ)) with g | g
        · exact g
        · have := begunL_after now (l.map prQ) i ha g (by rw [List.length_map]; exact hlt)
          rw [hget] at this; simp only at this; omega
      exact ih k (i + 1) i (by omega) (by omega) (fun _ => by omega) (fun _ => by omega)
    · rw [if_neg c]
      have hib : begunL now (l.map prQ) ≤ i := by
        rcases Nat.lt_or_ge i (begunL now (l.map prQ)) with g | g
        · have := begunL_before now (l.map prQ) i g
          rw [hget] at this; exact absurd this c
        · exact g
      exact ih k (i + 1) p (by omega) (by omega) (fun _ => by omega) (fun _ => h2 hib)
def spigotref37_Place.f (l0 : List S56) (a1 : Int) : Option Int := if dayL (l0.map prQ) = true then some ((begunL a1 (l0.map prQ) - 1 : Nat) : Int) else none
theorem spigotref37_Place.calls (A0 : Option Addr) (c0 : Nat) (l0 : List S56) (a1 : Int) (r : Int) (w : World) (hr0 : Kd.C k56 w A0 l0.length l0) (hc0 : l0.length ≤ c0) (h : spigotref37_Place.f l0 a1 = some r) :
    Calls Tryd.prog 17 #[.slice A0 l0.length c0, .int .i64 a1] w fun e w' => e = .returned (.int .i64 r) ∧ Drawn0 w w' := by
  unfold spigotref37_Place.f at h
  by_cases c : dayL (l0.map prQ) = true
  · rw [if_pos c] at h
    obtain rfl := Option.some.inj h
    have hd := ((dayL_iff _).1 c).1
    rw [List.length_map] at hd
    refine spigotref37_Place_p.calls (l0.length + 1) A0 c0 l0 a1 _ w hr0 hc0 ?_
    have := ref37_Place_loop l0 a1 (by omega) (day_asc c) l0.length (l0.length + 1) 0 0 (by omega) (by omega) (fun _ => rfl) (fun g => by omega)
    simpa [spigotref37_Place_p.f] using this
  · rw [if_neg c] at h; cases h

end Go.Proofs.YtcjilccldfkhmaaDoor.Q
