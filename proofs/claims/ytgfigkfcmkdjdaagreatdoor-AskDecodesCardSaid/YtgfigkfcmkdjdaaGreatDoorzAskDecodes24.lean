/- The functions that the law reaches, as plain Lean functions, and their contracts: texts merged. -/
import Derived.Laws.StructEq
import Derived.Test.YtgfigkfcmkdjdaaGreatDoorzAskDecodes2
import Derived.Test.YtgfigkfcmkdjdaaGreatDoorzAskDecodes0
import Derived.Test.YtgfigkfcmkdjdaaGreatDoorzAskDecodes1
import Derived.Test.YtgfigkfcmkdjdaaGreatDoorzAskDecodes3
import Derived.Test.YtgfigkfcmkdjdaaGreatDoorzAskDecodes4
import Derived.Test.YtgfigkfcmkdjdaaGreatDoorzAskDecodes16
import Derived.Test.YtgfigkfcmkdjdaaGreatDoorzAskDecodes17
import Derived.Test.YtgfigkfcmkdjdaaGreatDoorzAskDecodes18
import Derived.Test.YtgfigkfcmkdjdaaGreatDoorzAskDecodes19
import Derived.Test.YtgfigkfcmkdjdaaGreatDoorzAskDecodes20
import Derived.Test.YtgfigkfcmkdjdaaGreatDoorzAskDecodes5
import Derived.Test.YtgfigkfcmkdjdaaGreatDoorzAskDecodes6
import Derived.Test.YtgfigkfcmkdjdaaGreatDoorzAskDecodes15
import Derived.Test.YtgfigkfcmkdjdaaGreatDoorzAskDecodes21
import Derived.Test.YtgfigkfcmkdjdaaGreatDoorzAskDecodes22
import Derived.Test.YtgfigkfcmkdjdaaGreatDoorzAskDecodes23
section
namespace Go.Proofs.YtgfigkfcmkdjdaaGreatDoor.B
open Go.RowKit Go.Proofs.YtgfigkfcmkdjdaaGreatDoorW.PrintWords Go.Proofs.YtgfigkfcmkdjdaaGreatDoorW.PrintLast Go.Proofs.YtgfigkfcmkdjdaaGreatDoorW.PrintMore
attribute [local go_sem] max2_int min2_int max_two min_two max_three min_three max_four min_four   -- for this text's walks alone
set_option linter.unusedVariables false
set_option linter.unusedSimpArgs false
mutual
def spigotref11_Numbers_p.l0 : Nat → ByteArray → List Int → Int → Int → Option (List Int × Bool)
  | 0, _, _, _, _ => none
  | k + 1, x0, x4, x5, x6 => if x6 ≤ (x0.size : Int) then (if x6 < (x0.size : Int) then (if 0 ≤ x6 then (spigotref11_Numbers_p.j1 k x0 x4 x5 x6 ((bt x0 x6) != 44)) else (none)) else (spigotref11_Numbers_p.j1 k x0 x4 x5 x6 false)) else (some (x4, true))
def spigotref11_Numbers_p.j1 : Nat → ByteArray → List Int → Int → Int → Bool → Option (List Int × Bool)
  | 0, _, _, _, _, _ => none
  | k + 1, x0, x4, x5, x6, x23 => if x23 = true then (spigotref11_Numbers_p.l0 k x0 x4 x5 (wrap64 (x6 + 1))) else (if 0 ≤ x5 then (if x5 ≤ x6 then (if x6 ≤ (x0.size : Int) then ((spigotref11_Number.f (x0.extract (x5 : Int).toNat (x6 : Int).toNat)).bind fun t278 => (if t278 < 0 then (some (([] : List Int), false)) else (if x4.length < 17592186044416 then (spigotref11_Numbers_p.l0 k x0 (x4 ++ [t278]) (wrap64 (x6 + 1)) (wrap64 (x6 + 1))) else (none)))) else (none)) else (none)) else (none))
end
def spigotref11_Numbers_p.f (k : Nat) (a0 : ByteArray) : Option (List Int × Bool) := spigotref11_Numbers_p.l0 k a0 ([] : List Int) 0 0
theorem spigotref11_Numbers_p.mono_l : ∀ k, (∀ y0 y1 y2 y3, LeO (spigotref11_Numbers_p.l0 k y0 y1 y2 y3) (spigotref11_Numbers_p.l0 (k + 1) y0 y1 y2 y3)) ∧ (∀ y0 y1 y2 y3 y4, LeO (spigotref11_Numbers_p.j1 k y0 y1 y2 y3 y4) (spigotref11_Numbers_p.j1 (k + 1) y0 y1 y2 y3 y4))
  | 0 => ⟨fun _ _ _ _ r h => by simp [spigotref11_Numbers_p.l0] at h, fun _ _ _ _ _ r h => by simp [spigotref11_Numbers_p.j1] at h⟩
  | k + 1 => by
    obtain ⟨ih0, ih1⟩ := spigotref11_Numbers_p.mono_l k
    refine ⟨?_, ?_⟩
    · intro y0 y1 y2 y3
      unfold spigotref11_Numbers_p.l0
      repeat' first
      | (with_reducible exact ih0 _ _ _ _)
      | (with_reducible exact ih1 _ _ _ _ _)
      | (with_reducible exact LeO.refl _)
      | (with_reducible exact LeO.none _)
      | (with_reducible refine LeO.ite ?_ ?_)
      | (with_reducible refine LeO.bind ?_ (fun _ => ?_))
      | exact ih0 _ _ _ _
      | exact ih1 _ _ _ _ _
      | exact LeO.none _
      | refine LeO.ite ?_ ?_
      | refine LeO.bind ?_ (fun _ => ?_)
    · intro y0 y1 y2 y3 y4
      unfold spigotref11_Numbers_p.j1
      repeat' first
      | (with_reducible exact ih0 _ _ _ _)
      | (with_reducible exact ih1 _ _ _ _ _)
      | (with_reducible exact LeO.refl _)
      | (with_reducible exact LeO.none _)
      | (with_reducible refine LeO.ite ?_ ?_)
      | (with_reducible refine LeO.bind ?_ (fun _ => ?_))
      | exact ih0 _ _ _ _
      | exact ih1 _ _ _ _ _
      | exact LeO.none _
      | refine LeO.ite ?_ ?_
      | refine LeO.bind ?_ (fun _ => ?_)
theorem spigotref11_Numbers_p.mono : ∀ a0 k, LeO (spigotref11_Numbers_p.f k a0) (spigotref11_Numbers_p.f (k + 1) a0) := by
  intro a0 k
  obtain ⟨ih0, ih1⟩ := spigotref11_Numbers_p.mono_l k
  unfold spigotref11_Numbers_p.f
  repeat' first
      | (with_reducible exact ih0 _ _ _ _)
      | (with_reducible exact ih1 _ _ _ _ _)
      | (with_reducible exact LeO.refl _)
      | (with_reducible exact LeO.none _)
      | (with_reducible refine LeO.ite ?_ ?_)
      | (with_reducible refine LeO.bind ?_ (fun _ => ?_))
      | exact ih0 _ _ _ _
      | exact ih1 _ _ _ _ _
      | exact LeO.none _
      | refine LeO.ite ?_ ?_
      | refine LeO.bind ?_ (fun _ => ?_)
set_option maxHeartbeats 8000000 in
set_option maxRecDepth 100000 in
theorem spigotref11_Numbers_p.calls (k : Nat) (a0 : ByteArray) (r1 : List Int) (r2 : Bool) (w : World) (h : spigotref11_Numbers_p.f k a0 = some (r1, r2)) :
    Calls Tryz.prog 65 #[.string a0] w fun e w' => ∃ v0_ : Value, e = .returned (.tuple #[v0_, .bool r2]) ∧ Kd.R (Kd.int .i64) 3 w' w.heap.size (fun _ => True) v0_ r1 ∧ Below w.heap.size w w' := by
  have HB := Aside0.mk (Below.refl w.heap.size w)
  have H : (spigotref11_Numbers_p.l0 k a0 ([] : List Int) 0 0) = some (r1, r2) := h
  clear h
  have H' := Aside0.mk H
  clear H
  go_enter Tryz.func65, Tryz.ntmps65
  go_wp2
  go_loopg [4, 5, 6] k (fun kq v4 v5 v6 w' => ∃ (x4_1 : List Int) (x5_1 : Int) (x6_1 : Int), v5 = .int .i64 x5_1 ∧ v6 = .int .i64 x6_1 ∧ Aside0 (spigotref11_Numbers_p.l0 kq a0 x4_1 x5_1 x6_1 = some (r1, r2)) ∧ Aside0 (kq ≤ k) ∧ Aside0 (Kd.R (Kd.int .i64) 3 w' w.heap.size (fun _ => True) v4 x4_1) ∧ Aside0 (Below w.heap.size w w'))
  case atStart => exact ⟨(([] : List Int)), (0), (0), (by first | rfl | (simp; done) | (simp [*]; done)), (by first | rfl | (simp; done) | (simp [*]; done)), H', ⟨Nat.le_refl _⟩, ⟨by first | exact Kd.R_nil _ _ _ _ _ | exact Kd.N_nil _ _ _ _ _ | exact Kd.V_nil _ _ _ _ _ | exact Kd.Q_nil _ _ _ _ _ | exact Kd.S_nil _ _ _ _ _⟩, ⟨by repeat (first | (with_reducible first | exact HB.out | apply below_alloc | apply pw_below_drewN | apply below_drew1) | exact HB.out)⟩⟩
  case round =>
    clear H'
    obtain ⟨x4_1, x5_1, x6_1, rfl, rfl, HA, HK1, HO_4, HB⟩ := hrel
    cases gk with
    | zero => exact absurd HA.out (by simp [spigotref11_Numbers_p.l0])
    | succ k1 =>
      have H := HA.out
      clear HA
      simp only [spigotref11_Numbers_p.l0] at H
      by_cases c2 : x6_1 ≤ (a0.size : Int)
      · rw [if_pos c2] at H
        have c2b0 : decide (x6_1 ≤ (a0.size : Int)) = true := decide_eq_true c2
        clear c2
        have HC3 := Aside0.mk H
        clear H
        go_upto_region 6 with (fail)
        go_cut [23] (fun v23 wc => ∃ (kq : Nat) (x23_2 : Bool), v23 = .bool x23_2 ∧ Aside0 (spigotref11_Numbers_p.j1 kq a0 x4_1 x5_1 x6_1 x23_2 = some (r1, r2)) ∧ Aside0 (kq ≤ k1) ∧ Aside0 (Kd.R (Kd.int .i64) 3 wc w.heap.size (fun _ => True) u4 x4_1) ∧ Aside0 (Below w.heap.size w wc))
        case first =>
          have H := HC3.out
          clear HC3
          by_cases c4 : x6_1 < (a0.size : Int)
          · rw [if_pos c4] at H
            have c4b0 : decide (x6_1 < (a0.size : Int)) = true := decide_eq_true c4
            clear c4
            (first | rw [c4b0] | (simp only [i64_w, i32_w]; rw [c4b0]) | skip)
            by_cases c5 : 0 ≤ x6_1
            · rw [if_pos c5] at H
              have c5b0 : decide (0 ≤ x6_1) = true := decide_eq_true c5
              clear c5
              have H' := Aside0.mk H
              clear H
              have p6 : 0 ≤ (x6_1 : Int) := of_decide_eq_true (by first | (with_reducible assumption) | assumption)
              have q6 : x6_1 < (a0.size : Int) := of_decide_eq_true (by first | (with_reducible assumption) | assumption)
              have hx6 := bt_at a0 x6_1
              replace p6 := eq_true p6
              replace q6 := eq_true q6
              go_wp2
              go_meet
              case rel => exact ⟨_, (((bt a0 x6_1) != 44)), (by first | rfl | (simp; done) | (simp [*]; done)), H', ⟨by have := HK1.out; first | omega | exact Nat.le_refl _⟩, ⟨by (with_reducible repeat (first | apply Kd.R_alloc | apply Kd.R_drewN | apply Kd.R_drew)); exact HO_4.out⟩, ⟨by repeat (first | (with_reducible first | exact HB.out | apply below_alloc | apply pw_below_drewN | apply below_drew1) | exact HB.out)⟩⟩
            · rw [if_neg c5] at H
              exact absurd H (by simp)
          · rw [if_neg c4] at H
            have c4b0 : decide (x6_1 < (a0.size : Int)) = false := decide_eq_false c4
            clear c4
            (first | rw [c4b0] | (simp only [i64_w, i32_w]; rw [c4b0]) | skip)
            have H' := Aside0.mk H
            clear H
            go_wp2
            go_meet
            case rel => exact ⟨_, (false), (by first | rfl | (simp; done) | (simp [*]; done)), H', ⟨by have := HK1.out; first | omega | exact Nat.le_refl _⟩, ⟨by (with_reducible repeat (first | apply Kd.R_alloc | apply Kd.R_drewN | apply Kd.R_drew)); exact HO_4.out⟩, ⟨by repeat (first | (with_reducible first | exact HB.out | apply below_alloc | apply pw_below_drewN | apply below_drew1) | exact HB.out)⟩⟩
        case rest =>
          clear HC3
          try clear c2
          try clear c2b0
          try clear p2
          try clear c4
          try clear c4b0
          try clear c5
          try clear c5b0
          try clear c6
          try clear p6
          try clear q6
          try clear hx6
          try clear p6
          try clear q6
          obtain ⟨kq, x23_2, rfl, HA, HJ2, HO_4, HB⟩ := hcut
          cases kq with
          | zero => exact absurd HA.out (by simp [spigotref11_Numbers_p.j1])
          | succ kj2 =>
            have H := HA.out
            clear HA
            simp only [spigotref11_Numbers_p.j1] at H
            by_cases c7 : x23_2 = true
            · subst c7
              have H1 : (spigotref11_Numbers_p.l0 kj2 a0 x4_1 x5_1 (wrap64 (x6_1 + 1))) = some (r1, r2) := by rw [if_pos rfl] at H; exact H
              clear H
              have H := H1
              clear H1
              have H' := Aside0.mk H
              clear H
              go_wp2
              go_roundg kj2
              case measure => have := HK1.out; have := HJ2.out; omega
              case rel => exact ⟨(x4_1), (x5_1), (wrap64 (x6_1 + 1)), (by first | rfl | (simp; done) | (simp [*]; done)), (by first | rfl | (simp; done) | (simp [*]; done)), H', ⟨by have := HK1.out; have := HJ2.out; omega⟩, ⟨by (with_reducible repeat (first | apply Kd.R_alloc | apply Kd.R_drewN | apply Kd.R_drew)); exact HO_4.out⟩, ⟨by repeat (first | (with_reducible first | exact HB.out | apply below_alloc | apply pw_below_drewN | apply below_drew1) | exact HB.out)⟩⟩
            · replace c7 := Bool.eq_false_iff.mpr c7
              subst c7
              have H1 : (if 0 ≤ x5_1 then (if x5_1 ≤ x6_1 then (if x6_1 ≤ (a0.size : Int) then ((spigotref11_Number.f (a0.extract (x5_1 : Int).toNat (x6_1 : Int).toNat)).bind fun t278 => (if t278 < 0 then (some (([] : List Int), false)) else (if x4_1.length < 17592186044416 then (spigotref11_Numbers_p.l0 kj2 a0 (x4_1 ++ [t278]) (wrap64 (x6_1 + 1)) (wrap64 (x6_1 + 1))) else (none)))) else (none)) else (none)) else (none)) = some (r1, r2) := by rw [if_neg (show ¬ (false = true) by decide)] at H; exact H
              clear H
              have H := H1
              clear H1
              by_cases c8 : 0 ≤ x5_1
              · rw [if_pos c8] at H
                have c8b0 := eq_true c8
                have c8b1 : decide (0 ≤ x5_1) = true := decide_eq_true c8
                clear c8
                by_cases c9 : x5_1 ≤ x6_1
                · rw [if_pos c9] at H
                  have c9b0 := eq_true c9
                  have c9b1 : decide (x5_1 ≤ x6_1) = true := decide_eq_true c9
                  clear c9
                  by_cases c10 : x6_1 ≤ (a0.size : Int)
                  · rw [if_pos c10] at H
                    have c10b0 := eq_true c10
                    have c10b1 : decide (x6_1 ≤ (a0.size : Int)) = true := decide_eq_true c10
                    clear c10
                    replace H := Option.bind_eq_some_iff.mp H
                    obtain ⟨t278, A110, H⟩ := H
                    replace H : (if t278 < 0 then (some (([] : List Int), false)) else (if x4_1.length < 17592186044416 then (spigotref11_Numbers_p.l0 kj2 a0 (x4_1 ++ [t278]) (wrap64 (x6_1 + 1)) (wrap64 (x6_1 + 1))) else (none))) = some (r1, r2) := H
                    have A11 := Aside0.mk A110
                    clear A110
                    by_cases c12 : t278 < 0
                    · rw [if_pos c12] at H
                      have c12b0 : decide (t278 < 0) = true := decide_eq_true c12
                      clear c12
                      simp only [Option.some.injEq, Prod.mk.injEq] at H
                      obtain ⟨rfl, rfl⟩ := H
                      go_wp2_with (first | ((with_reducible refine gate_callee (f := 64) rfl ?_); refine goesL_ (some 28) rfl rfl Tryz.func64 (by kernel_rfl) rfl #[.string (a0.extract (x5_1 : Int).toNat (x6_1 : Int).toNat)] rfl (by (try simp only [List.map_toArray, List.map_cons, List.map_nil]); first | done | rfl | (simp only [List.length_drop, List.length_take]; rfl)) ?_; (with_reducible refine (spigotref11_Number.calls (a0.extract (x5_1 : Int).toNat (x6_1 : Int).toNat) t278 _ A11.out).mono ?_); rintro e w13 ⟨rfl, hb⟩; refine ⟨_, rfl, ?_⟩; have n0_ := Aside0.mk (Kd.R_below (by (with_reducible repeat (first | apply Kd.R_alloc | apply Kd.R_drewN | apply Kd.R_drew)); exact HO_4.out) hb); have n1_ := Aside0.mk (below_step (by repeat (first | (with_reducible first | exact HB.out | apply below_alloc | apply pw_below_drewN | apply below_drew1) | exact HB.out)) hb); clear HO_4; clear HB; have HO_4 := n0_; have HB := n1_; clear n0_ n1_; (try clear hb); (try clear hb2); (try clear hk); (try clear hi)))
                      go_ret2
                      exact ⟨_, by first | rfl | (simp [errW_none, errW_some] <;> rfl) | (simp [*, errW_none, errW_some] <;> rfl), by first | exact Kd.R_nil _ _ _ _ _ | exact Kd.N_nil _ _ _ _ _ | exact Kd.V_nil _ _ _ _ _ | exact Kd.Q_nil _ _ _ _ _ | exact Kd.S_nil _ _ _ _ _, by repeat (first | (with_reducible first | exact HB.out | apply below_alloc | apply pw_below_drewN | apply below_drew1) | exact HB.out)⟩
                    · rw [if_neg c12] at H
                      have c12b0 : decide (t278 < 0) = false := decide_eq_false c12
                      clear c12
                      by_cases c14 : x4_1.length < 17592186044416
                      · rw [if_pos c14] at H
                        have LMc14 := Aside0.mk c14
                        clear c14
                        obtain ⟨y279, hy279⟩ : ∃ y_ : List Int, y_ = (x4_1 ++ [t278]) := ⟨_, rfl⟩
                        replace H : (spigotref11_Numbers_p.l0 kj2 a0 y279 (wrap64 (x6_1 + 1)) (wrap64 (x6_1 + 1))) = some (r1, r2) := by first | (rw [hy279]; with_reducible exact H) | (have H2_ := (Option.bind_some _ _).symm.trans H; rw [hy279]; with_reducible exact H2_) | (have H2_ := (Option.bind_some _ _).symm.trans H; with_reducible exact H2_) | with_reducible exact H | (rw [hy279]; exact H) | exact H
                        have Ny279 := Aside0.mk hy279
                        clear hy279
                        have H' := Aside0.mk H
                        clear H
                        go_wp2_with (first | ((with_reducible refine gate_callee (f := 64) rfl ?_); refine goesL_ (some 28) rfl rfl Tryz.func64 (by kernel_rfl) rfl #[.string (a0.extract (x5_1 : Int).toNat (x6_1 : Int).toNat)] rfl (by (try simp only [List.map_toArray, List.map_cons, List.map_nil]); first | done | rfl | (simp only [List.length_drop, List.length_take]; rfl)) ?_; (with_reducible refine (spigotref11_Number.calls (a0.extract (x5_1 : Int).toNat (x6_1 : Int).toNat) t278 _ A11.out).mono ?_); rintro e w15 ⟨rfl, hb⟩; refine ⟨_, rfl, ?_⟩; have n0_ := Aside0.mk (Kd.R_below (by (with_reducible repeat (first | apply Kd.R_alloc | apply Kd.R_drewN | apply Kd.R_drew)); exact HO_4.out) hb); have n1_ := Aside0.mk (below_step (by repeat (first | (with_reducible first | exact HB.out | apply below_alloc | apply pw_below_drewN | apply below_drew1) | exact HB.out)) hb); clear HO_4; clear HB; have HO_4 := n0_; have HB := n1_; clear n0_ n1_; (try clear hb); (try clear hb2); (try clear hk); (try clear hi)) | ((with_reducible refine gate_builtin (b := .append) (xs := #[.tmp 31, .tmp 33]) rfl ?_); at_builtin; refine Kd.R_append (Kd.int .i64) (w0 := w) w.heap.size rfl (.tmp 31) (.tmp 33) 22 3 (.int .i64 0) 8 rfl Tryz.underlying22 info3 rfl (by decide) (by omega) u4 x4_1 t278 [.int .i64 t278] (fun _ => True) (fun _ => False) rfl rfl ?aP (fun _ hk => hk.elim) ?aF ?aO ?aB ?aS ?aL ?_; (case aP => exact rfl); (case aB => exact (by repeat (first | (with_reducible first | exact HB.out | apply below_alloc | apply pw_below_drewN | apply below_drew1) | exact HB.out))); (case aF => exact (fun _ _ => trivial)); (case aO => exact (by (with_reducible repeat (first | apply Kd.R_alloc | apply Kd.R_drewN | apply Kd.R_drew)); exact HO_4.out)); (case aS => exact (below_size (by repeat (first | (with_reducible first | exact HB.out | apply below_alloc | apply pw_below_drewN | apply below_drew1) | exact HB.out)))); (case aL => have := LMc14.out; omega); intro v280 w16 ho hb hg hat; rw [← Ny279.out] at ho; have n0_ := Aside0.mk (hb); have n1_ := Aside0.mk (ho); clear HB; clear HO_4; have HB := n0_; have HO281 := n1_; clear n0_ n1_; clear ho hb hg hat))
                        go_roundg kj2
                        case measure => have := HK1.out; have := HJ2.out; omega
                        case rel => exact ⟨(y279), (wrap64 (x6_1 + 1)), (wrap64 (x6_1 + 1)), (by first | rfl | (simp; done) | (simp [*]; done)), (by first | rfl | (simp; done) | (simp [*]; done)), H', ⟨by have := HK1.out; have := HJ2.out; omega⟩, ⟨by (with_reducible repeat (first | apply Kd.R_alloc | apply Kd.R_drewN | apply Kd.R_drew)); exact HO281.out⟩, ⟨by repeat (first | (with_reducible first | exact HB.out | apply below_alloc | apply pw_below_drewN | apply below_drew1) | exact HB.out)⟩⟩
                      · rw [if_neg c14] at H
                        exact absurd H (by simp)
                  · rw [if_neg c10] at H
                    exact absurd H (by simp)
                · rw [if_neg c9] at H
                  exact absurd H (by simp)
              · rw [if_neg c8] at H
                exact absurd H (by simp)
      · rw [if_neg c2] at H
        have c2b0 : decide (x6_1 ≤ (a0.size : Int)) = false := decide_eq_false c2
        clear c2
        simp only [Option.some.injEq, Prod.mk.injEq] at H
        obtain ⟨rfl, rfl⟩ := H
        go_wp2
        go_ret2
        exact ⟨_, by first | rfl | (simp [errW_none, errW_some] <;> rfl) | (simp [*, errW_none, errW_some] <;> rfl), by (with_reducible repeat (first | apply Kd.R_alloc | apply Kd.R_drewN | apply Kd.R_drew)); exact HO_4.out, by repeat (first | (with_reducible first | exact HB.out | apply below_alloc | apply pw_below_drewN | apply below_drew1) | exact HB.out)⟩
def refNums : List (List UInt8) → List Int → List Int × Bool
  | [], acc => (acc, true)
  | w :: ws, acc => if refNo w < 0 then ([], false) else refNums ws (acc ++ [refNo w])
theorem refNums_cons (w : List UInt8) (ws : List (List UInt8)) (acc : List Int) : refNums (w :: ws) acc = if refNo w < 0 then ([], false) else refNums ws (acc ++ [refNo w]) := rfl
theorem refNums_eq (ws : List (List UInt8)) : ∀ acc : List Int, refNums ws acc = ((numsP ws acc).1, (numsP ws acc).2 == 0) := by
  induction ws with
  | nil => intro acc; rfl
  | cons w ws ih =>
    intro acc
    rw [refNums_cons, numsP_cons]
    by_cases c : (numP w).2 = 0
    · rw [if_neg (by rw [refNo_neg]; simpa using c), if_pos c, ih]
      unfold refNo
      rw [if_pos c]
    · rw [if_pos ((refNo_neg w).2 c), if_neg c]
      have : (((numP w).2 : Int) == 0) = false := by rw [beq_eq_false_iff_ne]; omega
      simp [this]
theorem ref_nums_ev (s : ByteArray) (hs : s.size ≤ 1000000) (d : Nat) : ∀ (first i : Nat) (acc : List Int), first ≤ i → i + d = s.size → acc.length ≤ i → (∀ x ∈ (s.data.toList.take i).drop first, x ≠ 44) →
    Ev (fun k => spigotref11_Numbers_p.l0 k s acc (first : Int) (i : Int)) (refNums (splitC 44 (s.data.toList.drop first)) acc) := by
  have hsl : s.data.toList.length = s.size := rfl
  have hsub : ∀ (a b : Nat), (s.extract a b).data.toList = (s.data.toList.take b).drop a := fun a b => by
    simp [ByteArray.data_extract, List.extract, List.drop_take]
  have hnum : ∀ (_ a b : Nat), (s.extract a b).size ≤ s.size → spigotref11_Number.f (s.extract a b) = some (refNo ((s.data.toList.take b).drop a)) := fun _ a b h => by
    unfold spigotref11_Number.f big
    rw [if_pos (by omega), hsub]
  induction d with
  | zero =>
    intro first i acc hf hi ha hp
    have hie : i = s.size := by omega
    have htk : s.data.toList.take i = s.data.toList := List.take_of_length_le (by omega)
    rw [htk] at hp
    rw [splitC_whole 44 _ hp, refNums_cons]
    refine Ev.step (f := fun k => spigotref11_Numbers_p.j1 k s acc (first : Int) (i : Int) false) (fun k => ?_) ?_
    · simp only [spigotref11_Numbers_p.l0]
      rw [if_pos (by omega), if_neg (by omega)]
    have hx := hnum 0 first i (by rw [ByteArray.size_extract]; omega)
    rw [htk] at hx
    have e2 : wrap64 ((i : Int) + 1) = ((i + 1 : Nat) : Int) := by rw [w64 (by omega) (by omega)]; omega
    by_cases c : refNo (s.data.toList.drop first) < 0
    · rw [if_pos c]
      refine Ev.step (f := fun _ => some ([], false)) (fun k => ?_) (Ev.now _)
      simp only [spigotref11_Numbers_p.j1]
      rw [if_neg (by decide), if_pos (by omega), if_pos (by omega), if_pos (by omega), Int.toNat_natCast, Int.toNat_natCast, hx]
      simp only [Option.bind_some]
      rw [if_pos c]
    · rw [if_neg c]
      refine Ev.step (f := fun k => spigotref11_Numbers_p.l0 k s (acc ++ [refNo (s.data.toList.drop first)]) ((i + 1 : Nat) : Int) ((i + 1 : Nat) : Int)) (fun k => ?_) ?_
      · simp only [spigotref11_Numbers_p.j1]
        rw [if_neg (by decide), if_pos (by omega), if_pos (by omega), if_pos (by omega), Int.toNat_natCast, Int.toNat_natCast, hx]
        simp only [Option.bind_some]
        rw [if_neg c, if_pos (by omega), e2]
      · refine Ev.step (f := fun _ => some (acc ++ [refNo (s.data.toList.drop first)], true)) (fun k => ?_) (Ev.now _)
        simp only [spigotref11_Numbers_p.l0]
        rw [if_neg (by omega)]
  | succ d ih =>
    intro first i acc hf hi ha hp
    have hlt : i < s.data.toList.length := by omega
    have hbt := bt_get s i hlt
    have e2 : wrap64 ((i : Int) + 1) = ((i + 1 : Nat) : Int) := by rw [w64 (by omega) (by omega)]; omega
    have htk : s.data.toList.take (i + 1) = s.data.toList.take i ++ [s.data.toList[i]] := List.take_succ_eq_append_getElem hlt
    have hfl : first ≤ (s.data.toList.take i).length := by rw [List.length_take]; omega
    refine Ev.step (f := fun k => spigotref11_Numbers_p.j1 k s acc (first : Int) (i : Int) ((bt s (i : Int)) != 44)) (fun k => ?_) ?_
    · simp only [spigotref11_Numbers_p.l0]
      rw [if_pos (by omega), if_pos (by omega), if_pos (by omega)]
    by_cases c44 : s.data.toList[i] = 44
    · have eb : ((bt s (i : Int)) != 44) = false := by rw [hbt, c44]; rfl
      rw [eb]
      have hdf : s.data.toList.drop first = (s.data.toList.take i).drop first ++ 44 :: s.data.toList.drop (i + 1) := by
        conv => lhs; rw [← List.take_append_drop i s.data.toList, List.drop_append_of_le_length hfl, List.drop_eq_getElem_cons hlt, c44]
      rw [hdf, splitC_append 44 _ _ hp, refNums_cons]
      have hx := hnum 0 first i (by rw [ByteArray.size_extract]; omega)
      generalize (s.data.toList.take i).drop first = pre at *
      by_cases c : refNo pre < 0
      · rw [if_pos c]
        refine Ev.step (f := fun _ => some ([], false)) (fun k => ?_) (Ev.now _)
        simp only [spigotref11_Numbers_p.j1]
        rw [if_neg (by decide), if_pos (by omega), if_pos (by omega), if_pos (by omega), Int.toNat_natCast, Int.toNat_natCast, hx]
        simp only [Option.bind_some]
        rw [if_pos c]
      · rw [if_neg c]
        refine Ev.step (fun k => ?_) (ih (i + 1) (i + 1) (acc ++ [refNo pre]) (by omega) (by omega) (by simp; omega) (fun x hx => ?_))
        · simp only [spigotref11_Numbers_p.j1]
          rw [if_neg (by decide), if_pos (by omega), if_pos (by omega), if_pos (by omega), Int.toNat_natCast, Int.toNat_natCast, hx]
          simp only [Option.bind_some]
          rw [if_neg c, if_pos (by omega), e2]
        · rw [List.drop_eq_nil_of_le (by rw [List.length_take]; omega)] at hx; simp at hx
    · have eb : ((bt s (i : Int)) != 44) = true := by rw [hbt, bne_iff_ne]; intro e; exact c44 (u8_ext (by show _ = 44; omega))
      rw [eb]
      refine Ev.step (fun k => ?_) (ih first (i + 1) acc (by omega) (by omega) (by omega) (fun x hx => ?_))
      · simp only [spigotref11_Numbers_p.j1]
        rw [if_pos trivial, e2]
      · rw [htk, List.drop_append_of_le_length hfl] at hx
        rcases List.mem_append.1 hx with hx | hx
        · exact hp x hx
        · rw [List.mem_singleton.1 hx]; exact c44
def spigotref11_Numbers.f (a0 : ByteArray) : Option (List Int × Bool) := if a0.size ≤ 1000000 then some ((numsP (splitC 44 a0.data.toList) []).1, (numsP (splitC 44 a0.data.toList) []).2 == 0) else none
theorem spigotref11_Numbers.calls (a0 : ByteArray) (r1 : List Int) (r2 : Bool) (w : World) (h : spigotref11_Numbers.f a0 = some (r1, r2)) :
    Calls Tryz.prog 65 #[.string a0] w fun e w' => ∃ v0_ : Value, e = .returned (.tuple #[v0_, .bool r2]) ∧ Kd.R (Kd.int .i64) 3 w' w.heap.size (fun _ => True) v0_ r1 ∧ Below w.heap.size w w' := by
  unfold spigotref11_Numbers.f at h
  by_cases c : a0.size ≤ 1000000
  · rw [if_pos c] at h
    have hev := ref_nums_ev a0 c a0.size 0 0 [] (Nat.le_refl _) (by omega) (by simp) (by simp)
    rw [List.drop_zero, refNums_eq] at hev
    obtain ⟨k, hk⟩ := hev.rounds
    refine spigotref11_Numbers_p.calls k a0 r1 r2 w ?_
    unfold spigotref11_Numbers_p.f
    exact hk.trans h
  · rw [if_neg c] at h; cases h
end Go.Proofs.YtgfigkfcmkdjdaaGreatDoor.B
end
section
namespace Go.Proofs.YtgfigkfcmkdjdaaGreatDoor.B
open Go.RowKit Go.Proofs.YtgfigkfcmkdjdaaGreatDoorW.PrintWords Go.Proofs.YtgfigkfcmkdjdaaGreatDoorW.PrintLast Go.Proofs.YtgfigkfcmkdjdaaGreatDoorW.PrintMore
attribute [local go_sem] max2_int min2_int max_two min_two max_three min_three max_four min_four   -- for this text's walks alone
set_option linter.unusedVariables false
set_option linter.unusedSimpArgs false
theorem takeInts_bad {s : ByteArray} {most low high : Int} (h : (numsP (splitC 44 s.data.toList) []).2 ≠ 0) : takeInts s most low high = ([], (numsP (splitC 44 s.data.toList) []).2) := by
  have hr := (numsP_range (splitC 44 s.data.toList) []).resolve_left (fun g => h g.1)
  unfold takeInts
  rw [if_neg (fun g => h g.1), if_neg (by rw [hr.2]; simp)]
  exact Prod.ext hr.2 rfl
theorem takeInts_big {s : ByteArray} {most low high : Int} (h : (numsP (splitC 44 s.data.toList) []).2 = 0) (h2 : most < ((numsP (splitC 44 s.data.toList) []).1.length : Int)) : takeInts s most low high = ([], 3) := by unfold takeInts; rw [if_pos ⟨h, h2⟩]
theorem takeInts_out {s : ByteArray} {most low high : Int} (h : (numsP (splitC 44 s.data.toList) []).2 = 0) (h2 : ¬ most < ((numsP (splitC 44 s.data.toList) []).1.length : Int)) (h3 : (numsP (splitC 44 s.data.toList) []).1.any (fun n => decide (n < low) || decide (high < n)) = true) : takeInts s most low high = ([], 2) := by unfold takeInts; rw [if_neg (fun g => h2 g.2), if_pos h3]
theorem takeInts_in {s : ByteArray} {most low high : Int} (h : (numsP (splitC 44 s.data.toList) []).2 = 0) (h2 : ¬ most < ((numsP (splitC 44 s.data.toList) []).1.length : Int)) (h3 : (numsP (splitC 44 s.data.toList) []).1.any (fun n => decide (n < low) || decide (high < n)) = false) : takeInts s most low high = ((numsP (splitC 44 s.data.toList) []).1, 0) := by
  unfold takeInts; rw [if_neg (fun g => h2 g.2), if_neg (by rw [h3]; decide)]; exact Prod.ext rfl h
def IntsTo (X : Nat → Prop) (g : Nat) (A : Option Addr) (c : Nat) (L : List S74) (k : Nat) (r : List Int × FormS) (w : World) (e : Ending) (w' : World) : Prop :=
  ∃ A' c', e = .returned (.slice A' r.1.length c') ∧ Kd.R (Kd.int .i64) 3 w' w.heap.size (fun _ => True) (.slice A' r.1.length c') r.1 ∧ RefIs X g A c L r.2 k w' ∧ Turned (fun j => ¬ X j) w w'
theorem IntsTo.nil {X : Nat → Prop} {g : Nat} {A : Option Addr} {c : Nat} {L : List S74} {k : Nat} {r : List Int × FormS} {F : FormS} {w w' : World} (h : r = ([], F)) (hf : RefIs X g A c L F k w') (ht : Turned (fun j => ¬ X j) w w') : IntsTo X g A c L k r w (.returned (.slice none 0 0)) w' := by
  subst h
  exact ⟨none, 0, rfl, Kd.R_nil _ _ _ _ _, hf, ht⟩
theorem IntsTo.mk_ {X : Nat → Prop} {g : Nat} {A : Option Addr} {c : Nat} {L : List S74} {k : Nat} {r : List Int × FormS} {F : FormS} {w w' : World} {l : List Int} {A' : Option Addr} {c' : Nat} (h : r = (l, F)) (hR : Kd.R (Kd.int .i64) 3 w' w.heap.size (fun _ => True) (.slice A' l.length c') l) (hf : RefIs X g A c L F k w') (ht : Turned (fun j => ¬ X j) w w') : IntsTo X g A c L k r w (.returned (.slice A' l.length c')) w' := by
  subst h
  exact ⟨A', c', rfl, hR, hf, ht⟩
set_option maxRecDepth 100000 in
set_option maxHeartbeats 8000000 in
theorem ref_ints {X : Nat → Prop} {g : Nat} {A : Option Addr} {c : Nat} {L : List S74} {F : FormS} {k : Nat} (w : World) (h : RefIs X g A c L F k w) (hL : L.length ≤ 1000000) (hk : k ≤ 1000000) (hz : ∀ y ∈ L, y.f1.size ≤ 512) (t most low high : Int) :
    Calls Tryz.prog 38 #[.pointer (some ⟨g, 0, none⟩), .int .i64 t, .int .i64 most, .int .i64 low, .int .i64 high] w (IntsTo X g A c L (k + 1) (askL (fun s => takeInts s most low high) [] F t) w) := by
  have HVal := Aside0.mk (ref_value w h hL hk t)
  have hv : ∀ x s, F.vals x = some s → s.size ≤ 512 := fun x s hx => by
    rw [h.vals] at hx
    obtain ⟨y, hy, _, rfl⟩ := valsOf_mem _ _ _ hx
    exact hz y hy
  clear h hz
  by_cases he : F.e = 0
  · cases hvt : F.vals t with
    | none =>
      have HA := Aside0.mk (askL_none (fun s => takeInts s most low high) [] F t he hvt)
      rw [askV_none F t he hvt] at HVal
      try simp only at HVal
      generalize askL (fun s => takeInts s most low high) [] F t = r at *
      clear he hvt hv
      go_enter Tryz.func38, Tryz.ntmps38
      go_wp2_with (go_at_call 62; refine HVal.out.mono ?_; rintro e w1 ⟨rfl, h4, h5⟩; have HF := Aside0.mk h4; have HT := Aside0.mk h5; clear h4 h5)
      go_ret
      exact IntsTo.nil HA.out HF.out HT.out
    | some s =>
      have HA := Aside0.mk (askL_some (fun s => takeInts s most low high) [] F t he hvt)
      have hs := hv t s hvt
      rw [askV_some F t he hvt] at HVal
      try simp only at HVal HA
      have he2 : (F.mark t).e = 0 := he
      have HN : Aside0 (∀ W, Calls Tryz.prog 65 #[.string s] W fun e w' => ∃ v0_ : Value, e = .returned (.tuple #[v0_, .bool ((numsP (splitC 44 s.data.toList) []).2 == 0)]) ∧ Kd.R (Kd.int .i64) 3 w' W.heap.size (fun _ => True) v0_ (numsP (splitC 44 s.data.toList) []).1 ∧ Below W.heap.size W w') :=
        ⟨fun W => spigotref11_Numbers.calls s _ _ W (by unfold spigotref11_Numbers.f; rw [if_pos (by omega)])⟩
      have hbad := @takeInts_bad s most low high
      have hbig := @takeInts_big s most low high
      have hout := @takeInts_out s most low high
      have hin := @takeInts_in s most low high
      have hr := numsP_range (splitC 44 s.data.toList) []
      have hsz := splitC_sizes 44 s.data.toList
      have hnl := numsP_len (splitC 44 s.data.toList) []
      have hss : s.data.toList.length = s.size := rfl
      have hll : (numsP (splitC 44 s.data.toList) []).1.length ≤ 1000 := by
        rw [List.length_nil] at hnl; omega
      generalize askL (fun s => takeInts s most low high) [] F t = r at *
      generalize takeInts s most low high = ti at *
      generalize numsP (splitC 44 s.data.toList) [] = q at *
      obtain ⟨l, x⟩ := q
      simp only at hr hbad hbig hout hin HN hll
      clear he hvt hv hs hsz hnl hss
      by_cases c0 : x = 0
      · subst c0
        have t0 : ((0 : Int) == 0) = true := rfl
        rw [t0] at HN
        by_cases c1 : most < (l.length : Int)
        · have HA2 : Aside0 (r = ([], (F.mark t).fail t 3)) := ⟨HA.out.trans (by rw [hbig rfl c1]; exact if_neg (fun g => absurd (show (3 : Int) = 0 from g) (by decide)))⟩
          have t1 : decide (most < (l.length : Int)) = true := decide_eq_true c1
          clear HA hr c1 hbad hbig hout hin
          go_enter Tryz.func38, Tryz.ntmps38
          go_wp2_with (first
            | (go_at_call 62; refine HVal.out.mono ?_; rintro e w1 ⟨rfl, h4, h5⟩; have HF := Aside0.mk h4; have HT := Aside0.mk h5; clear h4 h5)
            | (go_at_call 65; refine (HN.out _).mono ?_; rintro e w2 ⟨v_, rfl, hR, h6⟩; obtain ⟨A', c', rfl, hc', hC'⟩ := Kd.R_reads hR; have HR2 := Aside0.mk hR; have HC2 := Aside0.mk hC'; have HF2 := Aside0.mk (HF.out.below h6); have HT2 := Aside0.mk (HT.out.trans (Turned.of_below h6)); have HS2 := Aside0.mk (HT.out.size); clear h6 hR hC')
            | (go_at_call 63; refine (ref_fail _ HF2.out t 3 he2).mono ?_; rintro e w3 ⟨rfl, h7, h8⟩; have HF3 := Aside0.mk h7; have HT3 := Aside0.mk (HT2.out.trans h8); clear h7 h8))
          go_ret
          exact IntsTo.nil HA2.out HF3.out HT3.out
        · have t1 : decide (most < (l.length : Int)) = false := decide_eq_false c1
          cases ha : l.any (fun n => decide (n < low) || decide (high < n)) with
          | true =>
            have HA2 : Aside0 (r = ([], (F.mark t).fail t 2)) := ⟨HA.out.trans (by rw [hout rfl c1 ha]; exact if_neg (fun g => absurd (show (2 : Int) = 0 from g) (by decide)))⟩
            have HAny := Aside0.mk ha
            clear HA hr c1 hbad hbig hout hin ha
            go_enter Tryz.func38, Tryz.ntmps38
            go_wp2_with (first
              | (go_at_call 62; refine HVal.out.mono ?_; rintro e w1 ⟨rfl, h4, h5⟩; have HF := Aside0.mk h4; have HT := Aside0.mk h5; clear h4 h5)
              | (go_at_call 65; refine (HN.out _).mono ?_; rintro e w2 ⟨v_, rfl, hR, h6⟩; obtain ⟨A', c', rfl, hc', hC'⟩ := Kd.R_reads hR; have HR2 := Aside0.mk hR; have HC2 := Aside0.mk hC'; have HF2 := Aside0.mk (HF.out.below h6); have HT2 := Aside0.mk (HT.out.trans (Turned.of_below h6)); have HS2 := Aside0.mk (HT.out.size); clear h6 hR hC'))
            go_loopw [15] (fun v15 wr => ∃ i : Nat, v15 = .int .i64 (i : Int) ∧ i ≤ l.length ∧ wr = w2 ∧ Aside0 ((l.drop i).any (fun n => decide (n < low) || decide (high < n)) = true)) (fun v15 _ => l.length - (intOf v15).toNat)
            case atStart => exact ⟨0, rfl, Nat.zero_le _, rfl, ⟨by rw [List.drop_zero]; exact HAny.out⟩⟩
            case round =>
              clear HAny
              obtain ⟨i, rfl, hi, rfl, HAny⟩ := hrel
              have hlt : i < l.length := by
                rcases Nat.lt_or_ge i l.length with q | q
                · exact q
                · have hq := HAny.out; rw [List.drop_eq_nil_of_le q] at hq; cases hq
              obtain ⟨ad, hA, q0⟩ := Kd.at_int HC2.out (i : Int) (by omega) (by omega)
              have hrd : rd l (i : Int) = l[i] := by unfold rd; rw [Int.toNat_natCast, List.getD_eq_getElem?_getD, List.getElem?_eq_getElem hlt]; rfl
              have hti : ((i : Int)).toNat = i := Int.toNat_natCast i
              rw [hti, hrd] at q0
              subst hA
              have hd := HAny.out
              rw [List.drop_eq_getElem_cons hlt, List.any_cons] at hd
              have k1 : decide ((i : Int) < (l.length : Int)) = true := by rw [decide_eq_true_eq]; omega
              have k2 : (0 : Int) ≤ (i : Int) ∧ (i : Int) < (l.length : Int) := by omega
              have HD := Aside0.mk hd
              clear hd hrd
              generalize l[i] = x at *
              by_cases b1 : x < low
              · have t2 : decide (x < low) = true := decide_eq_true b1
                clear HD HAny b1
                go_wp2_with (go_at_call 63; refine (ref_fail _ HF2.out t 2 he2).mono ?_; rintro e w3 ⟨rfl, h7, h8⟩; have HF3 := Aside0.mk h7; have HT3 := Aside0.mk (HT2.out.trans h8); clear h7 h8)
                go_ret
                exact IntsTo.nil HA2.out HF3.out HT3.out
              · have t2 : decide (x < low) = false := decide_eq_false b1
                by_cases b2 : high < x
                · have t3 : decide (high < x) = true := decide_eq_true b2
                  clear HD HAny b1 b2
                  go_wp2_with (go_at_call 63; refine (ref_fail _ HF2.out t 2 he2).mono ?_; rintro e w3 ⟨rfl, h7, h8⟩; have HF3 := Aside0.mk h7; have HT3 := Aside0.mk (HT2.out.trans h8); clear h7 h8)
                  go_ret
                  exact IntsTo.nil HA2.out HF3.out HT3.out
                · have t3 : decide (high < x) = false := decide_eq_false b2
                  have HN2 : Aside0 ((l.drop (i + 1)).any (fun n => decide (n < low) || decide (high < n)) = true) := ⟨by have hq := HD.out; rw [t2, t3] at hq; simpa using hq⟩
                  clear HD HAny b1 b2
                  go_wp2
                  refine ⟨⟨i + 1, by rw [show ((i + 1 : Nat) : Int) = (i : Int) + 1 by omega], by omega, trivial, HN2⟩, ?_⟩
                  show l.length - ((i : Int) + 1).toNat < l.length - ((i : Int)).toNat
                  omega
          | false =>
            have HA2 : Aside0 (r = (l, F.mark t)) := ⟨HA.out.trans (by rw [hin rfl c1 ha]; exact if_pos rfl)⟩
            have HAny := Aside0.mk ha
            clear HA hr c1 hbad hbig hout hin ha he2
            go_enter Tryz.func38, Tryz.ntmps38
            go_wp2_with (first
              | (go_at_call 62; refine HVal.out.mono ?_; rintro e w1 ⟨rfl, h4, h5⟩; have HF := Aside0.mk h4; have HT := Aside0.mk h5; clear h4 h5)
              | (go_at_call 65; refine (HN.out _).mono ?_; rintro e w2 ⟨v_, rfl, hR, h6⟩; obtain ⟨A', c', rfl, hc', hC'⟩ := Kd.R_reads hR; have HR2 := Aside0.mk hR; have HC2 := Aside0.mk hC'; have HF2 := Aside0.mk (HF.out.below h6); have HT2 := Aside0.mk (HT.out.trans (Turned.of_below h6)); have HS2 := Aside0.mk (HT.out.size); clear h6 hR hC'))
            go_loopw [15] (fun v15 wr => ∃ i : Nat, v15 = .int .i64 (i : Int) ∧ i ≤ l.length ∧ wr = w2 ∧ Aside0 ((l.drop i).any (fun n => decide (n < low) || decide (high < n)) = false)) (fun v15 _ => l.length - (intOf v15).toNat)
            case atStart => exact ⟨0, rfl, Nat.zero_le _, rfl, ⟨by rw [List.drop_zero]; exact HAny.out⟩⟩
            case round =>
              clear HAny
              obtain ⟨i, rfl, hi, rfl, HAny⟩ := hrel
              by_cases hlt : i < l.length
              · obtain ⟨ad, hA, q0⟩ := Kd.at_int HC2.out (i : Int) (by omega) (by omega)
                have hrd : rd l (i : Int) = l[i] := by unfold rd; rw [Int.toNat_natCast, List.getD_eq_getElem?_getD, List.getElem?_eq_getElem hlt]; rfl
                have hti : ((i : Int)).toNat = i := Int.toNat_natCast i
                rw [hti, hrd] at q0
                subst hA
                have hd := HAny.out
                rw [List.drop_eq_getElem_cons hlt, List.any_cons] at hd
                have k1 : decide ((i : Int) < (l.length : Int)) = true := by rw [decide_eq_true_eq]; omega
                have k2 : (0 : Int) ≤ (i : Int) ∧ (i : Int) < (l.length : Int) := by omega
                generalize l[i] = x at *
                simp only [Bool.or_eq_false_iff] at hd
                obtain ⟨⟨t2, t3⟩, hn⟩ := hd
                have HN2 := Aside0.mk hn
                clear hn HAny hrd
                go_wp2
                refine ⟨⟨i + 1, by rw [show ((i + 1 : Nat) : Int) = (i : Int) + 1 by omega], by omega, trivial, HN2⟩, ?_⟩
                show l.length - ((i : Int) + 1).toNat < l.length - ((i : Int)).toNat
                omega
              · have k1 : decide ((i : Int) < (l.length : Int)) = false := by rw [decide_eq_false_iff_not]; omega
                clear HAny
                go_wp2
                go_ret
                exact IntsTo.mk_ HA2.out (Kd.R_lower HR2.out HS2.out) HF2.out HT2.out
      · have h112 : x = 112 ∧ l = [] := hr.elim (fun g => absurd g.1 c0) (fun g => g)
        obtain ⟨rfl, rfl⟩ := h112
        have t0 : ((112 : Int) == 0) = false := rfl
        rw [t0] at HN
        have HA2 : Aside0 (r = ([], (F.mark t).fail t 112)) := ⟨HA.out.trans (by rw [hbad (by decide)]; exact if_neg (fun g => absurd (show (112 : Int) = 0 from g) (by decide)))⟩
        clear HA hr c0 hbad hbig hout hin
        go_enter Tryz.func38, Tryz.ntmps38
        go_wp2_with (first
          | (go_at_call 62; refine HVal.out.mono ?_; rintro e w1 ⟨rfl, h4, h5⟩; have HF := Aside0.mk h4; have HT := Aside0.mk h5; clear h4 h5)
          | (go_at_call 65; refine (HN.out _).mono ?_; rintro e w2 ⟨v_, rfl, hR, h6⟩; obtain ⟨A', c', rfl, hc', hC'⟩ := Kd.R_reads hR; have HR2 := Aside0.mk hR; have HC2 := Aside0.mk hC'; have HF2 := Aside0.mk (HF.out.below h6); have HT2 := Aside0.mk (HT.out.trans (Turned.of_below h6)); have HS2 := Aside0.mk (HT.out.size); clear h6 hR hC')
          | (go_at_call 63; refine (ref_fail _ HF2.out t 112 he2).mono ?_; rintro e w3 ⟨rfl, h7, h8⟩; have HF3 := Aside0.mk h7; have HT3 := Aside0.mk (HT2.out.trans h8); clear h7 h8))
        go_ret
        exact IntsTo.nil HA2.out HF3.out HT3.out
  · have HA : Aside0 (askL (fun s => takeInts s most low high) [] F t = ([], F)) := ⟨askL_off _ _ _ _ he⟩
    rw [askV_off F t he] at HVal
    try simp only at HVal
    generalize askL (fun s => takeInts s most low high) [] F t = r at *
    clear he hv
    go_enter Tryz.func38, Tryz.ntmps38
    go_wp2_with (go_at_call 62; refine HVal.out.mono ?_; rintro e w1 ⟨rfl, h4, h5⟩; have HF := Aside0.mk h4; have HT := Aside0.mk h5; clear h4 h5)
    go_ret
    exact IntsTo.nil HA.out HF.out HT.out
theorem RefBox.ints {w : World} {X : Nat → Prop} {g : Nat} {A : Option Addr} {c : Nat} {L : List S74} {b0 b : Nat} {T : TypeId} {Z : Array Value} {F F' : FormS} {k : Nat} {cs : Array Value} {W : World} (h : RefBox w X g A c L b0 b T Z F k cs W) {t most low high : Int} {v : List Int} (E : askL (fun s => takeInts s most low high) [] F t = (v, F')) (hL : L.length ≤ 1000000) (hk : k ≤ 1000) (hz : ∀ y ∈ L, y.f1.size ≤ 512) :
    Calls Tryz.prog 38 #[.pointer (some ⟨g, 0, none⟩), .int .i64 t, .int .i64 most, .int .i64 low, .int .i64 high] W fun e w' => ∃ A' c', e = .returned (.slice A' v.length c') ∧ Kd.R (Kd.int .i64) 3 w' W.heap.size (fun _ => True) (.slice A' v.length c') v ∧ RefBox w X g A c L b0 b T Z F' (k + 1) cs w' := by
  have h1 := ref_ints W h.form hL (by omega) hz t most low high
  rw [E] at h1
  exact h1.mono fun e w' hh => by
    obtain ⟨A', c', he, hR, hf, ht⟩ := hh
    exact ⟨A', c', he, hR, h.call hf ht⟩
end Go.Proofs.YtgfigkfcmkdjdaaGreatDoor.B
end
