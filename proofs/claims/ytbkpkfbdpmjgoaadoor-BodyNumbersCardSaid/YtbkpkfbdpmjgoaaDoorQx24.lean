/- Each Go function that the laws of this seat reach, as a plain Lean function, and its contract: the machine's call does what that function says. -/
import Derived.Test.YtbkpkfbdpmjgoaaDoorQx0
import Derived.Test.YtbkpkfbdpmjgoaaDoorQx1
import Derived.Test.YtbkpkfbdpmjgoaaDoorQx21
import Derived.Test.YtbkpkfbdpmjgoaaDoorQx23
namespace Go.Proofs.YtbkpkfbdpmjgoaaDoor.Q
open Go.RowKit Go.Proofs.YtbkpkfbdpmjgoaaDoorW.PrintWords Go.Proofs.YtbkpkfbdpmjgoaaDoorW.PrintLast Go.Proofs.YtbkpkfbdpmjgoaaDoorW.PrintMore
attribute [local go_sem] max2_int min2_int max_two min_two max_three min_three max_four min_four   -- for this text's walks alone
set_option linter.unusedVariables false
set_option linter.unusedSimpArgs false

--PART
/-! ### spigotref11_Numbers_p: function 11 -/
mutual
def spigotref11_Numbers_p.l0 : Nat → ByteArray → List Int → Int → Int → Option (List Int × Bool)
  | 0, _, _, _, _ => none
  | k + 1, x0, x4, x5, x6 => if x6 ≤ (x0.size : Int) then (if x6 < (x0.size : Int) then (if 0 ≤ x6 then (spigotref11_Numbers_p.j1 k x0 x4 x5 x6 ((bt x0 x6) != 44)) else (none)) else (spigotref11_Numbers_p.j1 k x0 x4 x5 x6 false)) else (some (x4, true))
def spigotref11_Numbers_p.j1 : Nat → ByteArray → List Int → Int → Int → Bool → Option (List Int × Bool)
  | 0, _, _, _, _, _ => none
  | k + 1, x0, x4, x5, x6, x23 => if x23 = true then (spigotref11_Numbers_p.l0 k x0 x4 x5 (wrap64 (x6 + 1))) else (if 0 ≤ x5 then (if x5 ≤ x6 then (if x6 ≤ (x0.size : Int) then ((spigotref11_Number.f (x0.extract (x5 : Int).toNat (x6 : Int).toNat)).bind fun t200 => (if t200 < 0 then (some (([] : List Int), false)) else (if x4.length < 17592186044416 then (spigotref11_Numbers_p.l0 k x0 (x4 ++ [t200]) (wrap64 (x6 + 1)) (wrap64 (x6 + 1))) else (none)))) else (none)) else (none)) else (none))
end
def spigotref11_Numbers_p.f (k : Nat) (a0 : ByteArray) : Option (List Int × Bool) := spigotref11_Numbers_p.l0 k a0 ([] : List Int) 0 0
theorem spigotref11_Numbers_p.mono_l : ∀ k, (∀ y0 y1 y2 y3, LeO (spigotref11_Numbers_p.l0 k y0 y1 y2 y3) (spigotref11_Numbers_p.l0 (k + 1) y0 y1 y2 y3)) ∧ (∀ y0 y1 y2 y3 y4, LeO (spigotref11_Numbers_p.j1 k y0 y1 y2 y3 y4) (spigotref11_Numbers_p.j1 (k + 1) y0 y1 y2 y3 y4))
  | 0 => ⟨fun _ _ _ _ r h => by simp [spigotref11_Numbers_p.l0] at h, fun _ _ _ _ _ r h => by simp [spigotref11_Numbers_p.j1] at h⟩
  | k + 1 => by
    obtain ⟨ih0, ih1⟩ := spigotref11_Numbers_p.mono_l k
    refine ⟨?_, ?_⟩
    · intro y0 y1 y2 y3
      unfold spigotref11_Numbers_p.l0
      repeat' first
      | (with_reducible exact ih0 _ _ _ _)
      | (with_reducible exact ih1 _ _ _ _ _)
      | (with_reducible exact LeO.refl _)
      | (with_reducible exact LeO.none _)
      | (with_reducible refine LeO.ite ?_ ?_)
      | (with_reducible refine LeO.bind ?_ (fun _ => ?_))
      | exact ih0 _ _ _ _
      | exact ih1 _ _ _ _ _
      | exact LeO.none _
      | refine LeO.ite ?_ ?_
      | refine LeO.bind ?_ (fun _ => ?_)
    · intro y0 y1 y2 y3 y4
      unfold spigotref11_Numbers_p.j1
      repeat' first
      | (with_reducible exact ih0 _ _ _ _)
      | (with_reducible exact ih1 _ _ _ _ _)
      | (with_reducible exact LeO.refl _)
      | (with_reducible exact LeO.none _)
      | (with_reducible refine LeO.ite ?_ ?_)
      | (with_reducible refine LeO.bind ?_ (fun _ => ?_))
      | exact ih0 _ _ _ _
      | exact ih1 _ _ _ _ _
      | exact LeO.none _
      | refine LeO.ite ?_ ?_
      | refine LeO.bind ?_ (fun _ => ?_)
theorem spigotref11_Numbers_p.mono : ∀ a0 k, LeO (spigotref11_Numbers_p.f k a0) (spigotref11_Numbers_p.f (k + 1) a0) := by
  intro a0 k
  obtain ⟨ih0, ih1⟩ := spigotref11_Numbers_p.mono_l k
  unfold spigotref11_Numbers_p.f
  repeat' first
      | (with_reducible exact ih0 _ _ _ _)
      | (with_reducible exact ih1 _ _ _ _ _)
      | (with_reducible exact LeO.refl _)
      | (with_reducible exact LeO.none _)
      | (with_reducible refine LeO.ite ?_ ?_)
      | (with_reducible refine LeO.bind ?_ (fun _ => ?_))
      | exact ih0 _ _ _ _
      | exact ih1 _ _ _ _ _
      | exact LeO.none _
      | refine LeO.ite ?_ ?_
      | refine LeO.bind ?_ (fun _ => ?_)
set_option maxHeartbeats 8000000 in
set_option maxRecDepth 100000 in
theorem spigotref11_Numbers_p.calls (k : Nat) (a0 : ByteArray) (r1 : List Int) (r2 : Bool) (w : World) (h : spigotref11_Numbers_p.f k a0 = some (r1, r2)) :
    Calls Tryd.prog 11 #[.string a0] w fun e w' => ∃ v0_ : Value, e = .returned (.tuple #[v0_, .bool r2]) ∧ Kd.R (Kd.int .i64) 3 w' w.heap.size (fun _ => True) v0_ r1 ∧ Below w.heap.size w w' := by
  have HB := Aside0.mk (Below.refl w.heap.size w)
  have H : (spigotref11_Numbers_p.l0 k a0 ([] : List Int) 0 0) = some (r1, r2) := h
  clear h
  have H' := Aside0.mk H
  clear H
  go_enter Tryd.func11, Tryd.ntmps11
  go_wp2
  go_loopg [4, 5, 6] k (fun kq v4 v5 v6 w' => ∃ (x4_1 : List Int) (x5_1 : Int) (x6_1 : Int), v5 = .int .i64 x5_1 ∧ v6 = .int .i64 x6_1 ∧ Aside0 (spigotref11_Numbers_p.l0 kq a0 x4_1 x5_1 x6_1 = some (r1, r2)) ∧ Aside0 (kq ≤ k) ∧ Aside0 (Kd.R (Kd.int .i64) 3 w' w.heap.size (fun _ => True) v4 x4_1) ∧ Aside0 (Below w.heap.size w w'))
  case atStart => exact ⟨(([] : List Int)), (0), (0), (by first | rfl | (simp; done) | (simp [*]; done)), (by first | rfl | (simp; done) | (simp [*]; done)), H', ⟨Nat.le_refl _⟩, ⟨by first | exact Kd.R_nil _ _ _ _ _ | exact Kd.N_nil _ _ _ _ _ | exact Kd.V_nil _ _ _ _ _ | exact Kd.Q_nil _ _ _ _ _ | exact Kd.S_nil _ _ _ _ _⟩, ⟨by repeat (first | (with_reducible first | exact HB.out | apply below_alloc | apply pw_below_drewN | apply below_drew1) | exact HB.out)⟩⟩
  case round =>
    clear H'
    try clear c1
    obtain ⟨x4_1, x5_1, x6_1, rfl, rfl, HA, HK1, HO_4, HB⟩ := hrel
    cases gk with
    | zero => exact absurd HA.out (by simp [spigotref11_Numbers_p.l0])
    | succ k1 =>
      have H := HA.out
      clear HA
      simp only [spigotref11_Numbers_p.l0] at H
      by_cases c2 : x6_1 ≤ (a0.size : Int)
      · rw [if_pos c2] at H
        have c2b0 : decide (x6_1 ≤ (a0.size : Int)) = true := decide_eq_true c2
        clear c2
        have HC3 := Aside0.mk H
        clear H
        go_upto_region 6 with (fail)
        go_cut [23] (fun v23 wc => ∃ (kq : Nat) (x23_2 : Bool), v23 = .bool x23_2 ∧ Aside0 (spigotref11_Numbers_p.j1 kq a0 x4_1 x5_1 x6_1 x23_2 = some (r1, r2)) ∧ Aside0 (kq ≤ k1) ∧ Aside0 (Kd.R (Kd.int .i64) 3 wc w.heap.size (fun _ => True) u4 x4_1) ∧ Aside0 (Below w.heap.size w wc))
        case first =>
          have H := HC3.out
          clear HC3
          by_cases c4 : x6_1 < (a0.size : Int)
          · rw [if_pos c4] at H
            have c4b0 : decide (x6_1 < (a0.size : Int)) = true := decide_eq_true c4
            clear c4
            (first | rw [c4b0] | (simp only [i64_w, i32_w]; rw [c4b0]) | skip)
            by_cases c5 : 0 ≤ x6_1
            · rw [if_pos c5] at H
              have c5b0 : decide (0 ≤ x6_1) = true := decide_eq_true c5
              clear c5
              have H' := Aside0.mk H
              clear H
              have p6 : 0 ≤ (x6_1 : Int) := of_decide_eq_true (by first | (with_reducible assumption) | assumption)
              have q6 : x6_1 < (a0.size : Int) := of_decide_eq_true (by first | (with_reducible assumption) | assumption)
              have hx6 := bt_at a0 x6_1
              replace p6 := eq_true p6
              replace q6 := eq_true q6
              go_wp2
              go_meet
              case rel => exact ⟨_, (((bt a0 x6_1) != 44)), (by first | rfl | (simp; done) | (simp [*]; done)), H', ⟨by have := HK1.out; first | omega | exact Nat.le_refl _⟩, ⟨by (with_reducible repeat (first | apply Kd.R_alloc | apply Kd.R_drewN | apply Kd.R_drew)); exact HO_4.out⟩, ⟨by repeat (first | (with_reducible first | exact HB.out | apply below_alloc | apply pw_below_drewN | apply below_drew1) | exact HB.out)⟩⟩
            · rw [if_neg c5] at H
              exact absurd H (by simp)
          · rw [if_neg c4] at H
            have c4b0 : decide (x6_1 < (a0.size : Int)) = false := decide_eq_false c4
            clear c4
            (first | rw [c4b0] | (simp only [i64_w, i32_w]; rw [c4b0]) | skip)
            have H' := Aside0.mk H
            clear H
            go_wp2
            go_meet
            case rel => exact ⟨_, (false), (by first | rfl | (simp; done) | (simp [*]; done)), H', ⟨by have := HK1.out; first | omega | exact Nat.le_refl _⟩, ⟨by (with_reducible repeat (first | apply Kd.R_alloc | apply Kd.R_drewN | apply Kd.R_drew)); exact HO_4.out⟩, ⟨by repeat (first | (with_reducible first | exact HB.out | apply below_alloc | apply pw_below_drewN | apply below_drew1) | exact HB.out)⟩⟩
        case rest =>
          clear HC3
          try clear c1
          try clear c2
          try clear c2b0
          try clear p2
          try clear c4
          try clear c4b0
          try clear c5
          try clear c5b0
          try clear p6
          try clear q6
          try clear hx6
          try clear p6
          try clear q6
          obtain ⟨kq, x23_2, rfl, HA, HJ2, HO_4, HB⟩ := hcut
          cases kq with
          | zero => exact absurd HA.out (by simp [spigotref11_Numbers_p.j1])
          | succ kj2 =>
            have H := HA.out
            clear HA
            simp only [spigotref11_Numbers_p.j1] at H
            by_cases c7 : x23_2 = true
            · subst c7
              have H1 : (spigotref11_Numbers_p.l0 kj2 a0 x4_1 x5_1 (wrap64 (x6_1 + 1))) = some (r1, r2) := by rw [if_pos rfl] at H; exact H
              clear H
              have H := H1
              clear H1
              have H' := Aside0.mk H
              clear H
              go_wp2
              go_roundg kj2
              case measure => have := HK1.out; have := HJ2.out; omega
              case rel => exact ⟨(x4_1), (x5_1), (wrap64 (x6_1 + 1)), (by first | rfl | (simp; done) | (simp [*]; done)), (by first | rfl | (simp; done) | (simp [*]; done)), H', ⟨by have := HK1.out; have := HJ2.out; omega⟩, ⟨by (with_reducible repeat (first | apply Kd.R_alloc | apply Kd.R_drewN | apply Kd.R_drew)); exact HO_4.out⟩, ⟨by repeat (first | (with_reducible first | exact HB.out | apply below_alloc | apply pw_below_drewN | apply below_drew1) | exact HB.out)⟩⟩
            · replace c7 := Bool.eq_false_iff.mpr c7
              subst c7
              have H1 : (if 0 ≤ x5_1 then (if x5_1 ≤ x6_1 then (if x6_1 ≤ (a0.size : Int) then ((spigotref11_Number.f (a0.extract (x5_1 : Int).toNat (x6_1 : Int).toNat)).bind fun t200 => (if t200 < 0 then (some (([] : List Int), false)) else (if x4_1.length < 17592186044416 then (spigotref11_Numbers_p.l0 kj2 a0 (x4_1 ++ [t200]) (wrap64 (x6_1 + 1)) (wrap64 (x6_1 + 1))) else (none)))) else (none)) else (none)) else (none)) = some (r1, r2) := by rw [if_neg (show ¬ (false = true) by decide)] at H; exact H
              clear H
              have H := H1
              clear H1
              by_cases c8 : 0 ≤ x5_1
              · rw [if_pos c8] at H
                have c8b0 := eq_true c8
                have c8b1 : decide (0 ≤ x5_1) = true := decide_eq_true c8
                clear c8
                by_cases c9 : x5_1 ≤ x6_1
                · rw [if_pos c9] at H
                  have c9b0 := eq_true c9
                  have c9b1 : decide (x5_1 ≤ x6_1) = true := decide_eq_true c9
                  clear c9
                  by_cases c10 : x6_1 ≤ (a0.size : Int)
                  · rw [if_pos c10] at H
                    have c10b0 := eq_true c10
                    have c10b1 : decide (x6_1 ≤ (a0.size : Int)) = true := decide_eq_true c10
                    clear c10
                    replace H := Option.bind_eq_some_iff.mp H
                    obtain ⟨t200, A110, H⟩ := H
                    replace H : (if t200 < 0 then (some (([] : List Int), false)) else (if x4_1.length < 17592186044416 then (spigotref11_Numbers_p.l0 kj2 a0 (x4_1 ++ [t200]) (wrap64 (x6_1 + 1)) (wrap64 (x6_1 + 1))) else (none))) = some (r1, r2) := H
                    have A11 := Aside0.mk A110
                    clear A110
                    by_cases c12 : t200 < 0
                    · rw [if_pos c12] at H
                      have c12b0 : decide (t200 < 0) = true := decide_eq_true c12
                      clear c12
                      simp only [Option.some.injEq, Prod.mk.injEq] at H
                      obtain ⟨rfl, rfl⟩ := H
                      go_wp2_with (first | ((with_reducible refine gate_callee (f := 9) rfl ?_); refine goesL_ (some 28) rfl rfl Tryd.func9 (by kernel_rfl) rfl #[.string (a0.extract (x5_1 : Int).toNat (x6_1 : Int).toNat)] rfl (by (try simp only [List.map_toArray, List.map_cons, List.map_nil]); first | done | rfl | (simp only [List.length_drop, List.length_take]; rfl)) ?_; (with_reducible refine (spigotref11_Number.calls (a0.extract (x5_1 : Int).toNat (x6_1 : Int).toNat) t200 _ A11.out).mono ?_); rintro e w13 ⟨rfl, hb⟩; refine ⟨_, rfl, ?_⟩; have n0_ := Aside0.mk (Kd.R_below (by (with_reducible repeat (first | apply Kd.R_alloc | apply Kd.R_drewN | apply Kd.R_drew)); exact HO_4.out) hb); have n1_ := Aside0.mk (below_step (by repeat (first | (with_reducible first | exact HB.out | apply below_alloc | apply pw_below_drewN | apply below_drew1) | exact HB.out)) hb); clear HO_4; clear HB; have HO_4 := n0_; have HB := n1_; clear n0_ n1_; (try clear hb); (try clear hb2); (try clear hk); (try clear hi)))
                      go_ret2
                      exact ⟨_, by first | rfl | (simp [errW_none, errW_some] <;> rfl) | (simp [*, errW_none, errW_some] <;> rfl), by first | exact Kd.R_nil _ _ _ _ _ | exact Kd.N_nil _ _ _ _ _ | exact Kd.V_nil _ _ _ _ _ | exact Kd.Q_nil _ _ _ _ _ | exact Kd.S_nil _ _ _ _ _, by repeat (first | (with_reducible first | exact HB.out | apply below_alloc | apply pw_below_drewN | apply below_drew1) | exact HB.out)⟩
                    · rw [if_neg c12] at H
                      have c12b0 : decide (t200 < 0) = false := decide_eq_false c12
                      clear c12
                      by_cases c14 : x4_1.length < 17592186044416
                      · rw [if_pos c14] at H
                        have LMc14 := Aside0.mk c14
                        clear c14
                        obtain ⟨y201, hy201⟩ : ∃ y_ : List Int, y_ = (x4_1 ++ [t200]) := ⟨_, rfl⟩
                        replace H : (spigotref11_Numbers_p.l0 kj2 a0 y201 (wrap64 (x6_1 + 1)) (wrap64 (x6_1 + 1))) = some (r1, r2) := by first | (rw [hy201]; with_reducible exact H) | (have H2_ := (Option.bind_some _ _).symm.trans H; rw [hy201]; with_reducible exact H2_) | (have H2_ := (Option.bind_some _ _).symm.trans H; with_reducible exact H2_) | with_reducible exact H | (rw [hy201]; exact H) | exact H
                        have Ny201 := Aside0.mk hy201
                        clear hy201
                        have H' := Aside0.mk H
                        clear H
                        go_wp2_with (first | ((with_reducible refine gate_callee (f := 9) rfl ?_); refine goesL_ (some 28) rfl rfl Tryd.func9 (by kernel_rfl) rfl #[.string (a0.extract (x5_1 : Int).toNat (x6_1 : Int).toNat)] rfl (by (try simp only [List.map_toArray, List.map_cons, List.map_nil]); first | done | rfl | (simp only [List.length_drop, List.length_take]; rfl)) ?_; (with_reducible refine (spigotref11_Number.calls (a0.extract (x5_1 : Int).toNat (x6_1 : Int).toNat) t200 _ A11.out).mono ?_); rintro e w15 ⟨rfl, hb⟩; refine ⟨_, rfl, ?_⟩; have n0_ := Aside0.mk (Kd.R_below (by (with_reducible repeat (first | apply Kd.R_alloc | apply Kd.R_drewN | apply Kd.R_drew)); exact HO_4.out) hb); have n1_ := Aside0.mk (below_step (by repeat (first | (with_reducible first | exact HB.out | apply below_alloc | apply pw_below_drewN | apply below_drew1) | exact HB.out)) hb); clear HO_4; clear HB; have HO_4 := n0_; have HB := n1_; clear n0_ n1_; (try clear hb); (try clear hb2); (try clear hk); (try clear hi)) | ((with_reducible refine gate_builtin (b := .append) (xs := #[.tmp 31, .tmp 33]) rfl ?_); at_builtin; refine Kd.R_append (Kd.int .i64) (w0 := w) w.heap.size rfl (.tmp 31) (.tmp 33) 27 3 (.int .i64 0) 8 rfl Tryd.underlying27 info3 rfl (by decide) (by omega) u4 x4_1 t200 [.int .i64 t200] (fun _ => True) (fun _ => False) rfl rfl ?aP (fun _ hk => hk.elim) ?aF ?aO ?aB ?aS ?aL ?_; (case aP => exact rfl); (case aB => exact (by repeat (first | (with_reducible first | exact HB.out | apply below_alloc | apply pw_below_drewN | apply below_drew1) | exact HB.out))); (case aF => exact (fun _ _ => trivial)); (case aO => exact (by (with_reducible repeat (first | apply Kd.R_alloc | apply Kd.R_drewN | apply Kd.R_drew)); exact HO_4.out)); (case aS => exact (below_size (by repeat (first | (with_reducible first | exact HB.out | apply below_alloc | apply pw_below_drewN | apply below_drew1) | exact HB.out)))); (case aL => have := LMc14.out; omega); intro v202 w16 ho hb hg hat; rw [← Ny201.out] at ho; have n0_ := Aside0.mk (hb); have n1_ := Aside0.mk (ho); clear HB; clear HO_4; have HB := n0_; have HO203 := n1_; clear n0_ n1_; clear ho hb hg hat))
                        go_roundg kj2
                        case measure => have := HK1.out; have := HJ2.out; omega
                        case rel => exact ⟨(y201), (wrap64 (x6_1 + 1)), (wrap64 (x6_1 + 1)), (by first | rfl | (simp; done) | (simp [*]; done)), (by first | rfl | (simp; done) | (simp [*]; done)), H', ⟨by have := HK1.out; have := HJ2.out; omega⟩, ⟨by (with_reducible repeat (first | apply Kd.R_alloc | apply Kd.R_drewN | apply Kd.R_drew)); exact HO203.out⟩, ⟨by repeat (first | (with_reducible first | exact HB.out | apply below_alloc | apply pw_below_drewN | apply below_drew1) | exact HB.out)⟩⟩
                      · rw [if_neg c14] at H
                        exact absurd H (by simp)
                  · rw [if_neg c10] at H
                    exact absurd H (by simp)
                · rw [if_neg c9] at H
                  exact absurd H (by simp)
              · rw [if_neg c8] at H
                exact absurd H (by simp)
      · rw [if_neg c2] at H
        have c2b0 : decide (x6_1 ≤ (a0.size : Int)) = false := decide_eq_false c2
        clear c2
        simp only [Option.some.injEq, Prod.mk.injEq] at H
        obtain ⟨rfl, rfl⟩ := H
        go_wp2
        go_ret2
        exact ⟨_, by first | rfl | (simp [errW_none, errW_some] <;> rfl) | (simp [*, errW_none, errW_some] <;> rfl), by (with_reducible repeat (first | apply Kd.R_alloc | apply Kd.R_drewN | apply Kd.R_drew)); exact HO_4.out, by repeat (first | (with_reducible first | exact HB.out | apply below_alloc | apply pw_below_drewN | apply below_drew1) | exact HB.out)⟩
/-! ### spigotref11_Numbers: function 11 -/
-- rests on 10
/-- The document's numbers of words; false: they are none. -/
def refNums : List (List UInt8) → List Int → List Int × Bool
  | [], acc => (acc, true)
  | w :: ws, acc => if refNo w < 0 then ([], false) else refNums ws (acc ++ [refNo w])
theorem refNums_cons (w : List UInt8) (ws : List (List UInt8)) (acc : List Int) : refNums (w :: ws) acc = if refNo w < 0 then ([], false) else refNums ws (acc ++ [refNo w]) := rfl
theorem refNums_eq (ws : List (List UInt8)) : ∀ acc : List Int, refNums ws acc = ((numsP ws acc).1, (numsP ws acc).2 == 0) := by
  induction ws with
  | nil => intro acc; rfl
  | cons w ws ih =>
    intro acc
    rw [refNums_cons, numsP_cons]
    by_cases c : (numP w).2 = 0
    · rw [if_neg (by rw [refNo_neg]; simpa using c), if_pos c, ih]
      unfold refNo
      rw [if_pos c]
    · rw [if_pos ((refNo_neg w).2 c), if_neg c]
      have : (((numP w).2 : Int) == 0) = false := by rw [beq_eq_false_iff_ne]; omega
      simp [this]
theorem ref_nums_ev (s : ByteArray) (hs : s.size ≤ 1000000) (d : Nat) : ∀ (first i : Nat) (acc : List Int), first ≤ i → i + d = s.size → acc.length ≤ i → (∀ x ∈ (s.data.toList.take i).drop first, x ≠ 44) →
    Ev (fun k => spigotref11_Numbers_p.l0 k s acc (first : Int) (i : Int)) (refNums (splitC 44 (s.data.toList.drop first)) acc) := by
  have hsl : s.data.toList.length = s.size := rfl
  have hsub : ∀ (a b : Nat), (s.extract a b).data.toList = (s.data.toList.take b).drop a := fun a b => by
    simp [ByteArray.data_extract, List.extract, List.drop_take]
  have hnum : ∀ (_ a b : Nat), (s.extract a b).size ≤ s.size → spigotref11_Number.f (s.extract a b) = some (refNo ((s.data.toList.take b).drop a)) := fun _ a b h => by
    unfold spigotref11_Number.f big
    rw [if_pos (by omega), hsub]
  induction d with
  | zero =>
    intro first i acc hf hi ha hp
    have hie : i = s.size := by omega
    have htk : s.data.toList.take i = s.data.toList := List.take_of_length_le (by omega)
    rw [htk] at hp
    rw [splitC_whole 44 _ hp, refNums_cons]
    refine Ev.step (f := fun k => spigotref11_Numbers_p.j1 k s acc (first : Int) (i : Int) false) (fun k => ?_) ?_
    · simp only [spigotref11_Numbers_p.l0]
      rw [if_pos (by omega), if_neg (by omega)]
    have hx := hnum 0 first i (by rw [ByteArray.size_extract]; omega)
    rw [htk] at hx
    have e2 : wrap64 ((i : Int) + 1) = ((i + 1 : Nat) : Int) := by rw [w64 (by omega) (by omega)]; omega
    by_cases c : refNo (s.data.toList.drop first) < 0
    · rw [if_pos c]
      refine Ev.step (f := fun _ => some ([], false)) (fun k => ?_) (Ev.now _)
      simp only [spigotref11_Numbers_p.j1]
      rw [if_neg (by decide), if_pos (by omega), if_pos (by omega), if_pos (by omega), Int.toNat_natCast, Int.toNat_natCast, hx]
      simp only [Option.bind_some]
      rw [if_pos c]
    · rw [if_neg c]
      refine Ev.step (f := fun k => spigotref11_Numbers_p.l0 k s (acc ++ [refNo (s.data.toList.drop first)]) ((i + 1 : Nat) : Int) ((i + 1 : Nat) : Int)) (fun k => ?_) ?_
      · simp only [spigotref11_Numbers_p.j1]
        rw [if_neg (by decide), if_pos (by omega), if_pos (by omega), if_pos (by omega), Int.toNat_natCast, Int.toNat_natCast, hx]
        simp only [Option.bind_some]
        rw [if_neg c, if_pos (by omega), e2]
      · refine Ev.step (f := fun _ => some (acc ++ [refNo (s.data.toList.drop first)], true)) (fun k => ?_) (Ev.now _)
        simp only [spigotref11_Numbers_p.l0]
        rw [if_neg (by omega)]
  | succ d ih =>
    intro first i acc hf hi ha hp
    have hlt : i < s.data.toList.length := by omega
    have hbt := bt_get s i hlt
    have e2 : wrap64 ((i : Int) + 1) = ((i + 1 : Nat) : Int) := by rw [w64 (by omega) (by omega)]; omega
    have htk : s.data.toList.take (i + 1) = s.data.toList.take i ++ [s.data.toList[i]] := List.take_succ_eq_append_getElem hlt
    have hfl : first ≤ (s.data.toList.take i).length := by rw [List.length_take]; omega
    refine Ev.step (f := fun k => spigotref11_Numbers_p.j1 k s acc (first : Int) (i : Int) ((bt s (i : Int)) != 44)) (fun k => ?_) ?_
    · simp only [spigotref11_Numbers_p.l0]
      rw [if_pos (by omega), if_pos (by omega), if_pos (by omega)]
    by_cases c44 : s.data.toList[i] = 44
    · have eb : ((bt s (i : Int)) != 44) = false := by rw [hbt, c44]; rfl
      rw [eb]
      have hdf : s.data.toList.drop first = (s.data.toList.take i).drop first ++ 44 :: s.data.toList.drop (i + 1) := by
        conv => lhs; rw [← List.take_append_drop i s.data.toList, List.drop_append_of_le_length hfl, List.drop_eq_getElem_cons hlt, c44]
      rw [hdf, splitC_append 44 _ _ hp, refNums_cons]
      have hx := hnum 0 first i (by rw [ByteArray.size_extract]; omega)
      generalize (s.data.toList.take i).drop first = pre at *
      by_cases c : refNo pre < 0
      · rw [if_pos c]
        refine Ev.step (f := fun _ => some ([], false)) (fun k => ?_) (Ev.now _)
        simp only [spigotref11_Numbers_p.j1]
        rw [if_neg (by decide), if_pos (by omega), if_pos (by omega), if_pos (by omega), Int.toNat_natCast, Int.toNat_natCast, hx]
        simp only [Option.bind_some]
        rw [if_pos c]
      · rw [if_neg c]
        refine Ev.step (fun k => ?_) (ih (i + 1) (i + 1) (acc ++ [refNo pre]) (by omega) (by omega) (by simp; omega) (fun x hx => ?_))
        · simp only [spigotref11_Numbers_p.j1]
          rw [if_neg (by decide), if_pos (by omega), if_pos (by omega), if_pos (by omega), Int.toNat_natCast, Int.toNat_natCast, hx]
          simp only [Option.bind_some]
          rw [if_neg c, if_pos (by omega), e2]
        · rw [List.drop_eq_nil_of_le (by rw [List.length_take]; omega)] at hx; simp at hx
    · have eb : ((bt s (i : Int)) != 44) = true := by rw [hbt, bne_iff_ne]; intro e; exact c44 (u8_ext (by show _ = 44; omega))
      rw [eb]
      refine Ev.step (fun k => ?_) (ih first (i + 1) acc (by omega) (by omega) (by omega) (fun x hx => ?_))
      · simp only [spigotref11_Numbers_p.j1]
        rw [if_pos trivial, e2]
      · rw [htk, List.drop_append_of_le_length hfl] at hx
        rcases List.mem_append.1 hx with hx | hx
        · exact hp x hx
        · rw [List.mem_singleton.1 hx]; exact c44
def spigotref11_Numbers.f (a0 : ByteArray) : Option (List Int × Bool) := if a0.size ≤ 1000000 then some ((numsP (splitC 44 a0.data.toList) []).1, (numsP (splitC 44 a0.data.toList) []).2 == 0) else none
theorem spigotref11_Numbers.calls (a0 : ByteArray) (r1 : List Int) (r2 : Bool) (w : World) (h : spigotref11_Numbers.f a0 = some (r1, r2)) :
    Calls Tryd.prog 11 #[.string a0] w fun e w' => ∃ v0_ : Value, e = .returned (.tuple #[v0_, .bool r2]) ∧ Kd.R (Kd.int .i64) 3 w' w.heap.size (fun _ => True) v0_ r1 ∧ Below w.heap.size w w' := by
  unfold spigotref11_Numbers.f at h
  by_cases c : a0.size ≤ 1000000
  · rw [if_pos c] at h
    have hev := ref_nums_ev a0 c a0.size 0 0 [] (Nat.le_refl _) (by omega) (by simp) (by simp)
    rw [List.drop_zero, refNums_eq] at hev
    obtain ⟨k, hk⟩ := hev.rounds
    refine spigotref11_Numbers_p.calls k a0 r1 r2 w ?_
    unfold spigotref11_Numbers_p.f
    exact hk.trans h
  · rw [if_neg c] at h; cases h

end Go.Proofs.YtbkpkfbdpmjgoaaDoor.Q
