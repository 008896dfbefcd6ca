/- The functions that the law reaches, as plain Lean functions, and their contracts: texts merged. -/
import Derived.Laws.StructEq
import Derived.Test.YtbkpkfbdpmjgoaaDoorzBodyWhole2
import Derived.Test.YtbkpkfbdpmjgoaaDoorzBodyWhole0
import Derived.Test.YtbkpkfbdpmjgoaaDoorzBodyWhole1
import Derived.Test.YtbkpkfbdpmjgoaaDoorzBodyWhole3
import Derived.Test.YtbkpkfbdpmjgoaaDoorzBodyWhole4
import Derived.Test.YtbkpkfbdpmjgoaaDoorzBodyWhole5
section
namespace Go.Proofs.YtbkpkfbdpmjgoaaDoor.T
open Go.RowKit Go.Proofs.YtbkpkfbdpmjgoaaDoorW.PrintWords Go.Proofs.YtbkpkfbdpmjgoaaDoorW.PrintLast Go.Proofs.YtbkpkfbdpmjgoaaDoorW.PrintMore
attribute [local go_sem] max2_int min2_int max_two min_two max_three min_three max_four min_four   -- for this text's walks alone
set_option linter.unusedVariables false
set_option linter.unusedSimpArgs false
def tag_Fields_p.l0 : Nat → ByteArray → List (S51) → Int → Option ((List (S51)) × Int × Int)
  | 0, _, _, _ => none
  | k + 1, x0, x2, x3 => if x3 < (x0.size : Int) then (if (x2.length : Int) = 64 then (some (x2, x3, 3)) else (if 0 ≤ x3 then (if x3 ≤ (x0.size : Int) then ((tag_Next.f (x0.extract (x3 : Int).toNat x0.size)).bind fun bt110 => (if bt110.2.2.2 = 0 then (if x2.length < 5864062014805 then (tag_Fields_p.l0 k x0 (x2 ++ [(⟨bt110.1, bt110.2.1⟩ : S51)]) (wrap64 (x3 + bt110.2.2.1))) else (none)) else (some (x2, x3, bt110.2.2.2)))) else (none)) else (none))) else (some (x2, x3, 0))
def tag_Fields_p.f (k : Nat) (a0 : ByteArray) : Option ((List (S51)) × Int × Int) := tag_Fields_p.l0 k a0 ([] : List (S51)) 0
theorem tag_Fields_p.mono_l : ∀ k, (∀ y0 y1 y2, LeO (tag_Fields_p.l0 k y0 y1 y2) (tag_Fields_p.l0 (k + 1) y0 y1 y2))
  | 0 => fun _ _ _ r h => by simp [tag_Fields_p.l0] at h
  | k + 1 => by
    have ih0 := tag_Fields_p.mono_l k
    · intro y0 y1 y2
      unfold tag_Fields_p.l0
      repeat' first
      | (with_reducible exact ih0 _ _ _)
      | (with_reducible exact LeO.refl _)
      | (with_reducible exact LeO.none _)
      | (with_reducible refine LeO.ite ?_ ?_)
      | (with_reducible refine LeO.bind ?_ (fun _ => ?_))
      | exact ih0 _ _ _
      | exact LeO.none _
      | refine LeO.ite ?_ ?_
      | refine LeO.bind ?_ (fun _ => ?_)
theorem tag_Fields_p.mono : ∀ a0 k, LeO (tag_Fields_p.f k a0) (tag_Fields_p.f (k + 1) a0) := by
  intro a0 k
  have ih0 := tag_Fields_p.mono_l k
  unfold tag_Fields_p.f
  repeat' first
      | (with_reducible exact ih0 _ _ _)
      | (with_reducible exact LeO.refl _)
      | (with_reducible exact LeO.none _)
      | (with_reducible refine LeO.ite ?_ ?_)
      | (with_reducible refine LeO.bind ?_ (fun _ => ?_))
      | exact ih0 _ _ _
      | exact LeO.none _
      | refine LeO.ite ?_ ?_
      | refine LeO.bind ?_ (fun _ => ?_)
set_option maxHeartbeats 8000000 in
set_option maxRecDepth 100000 in
theorem tag_Fields_p.calls (k : Nat) (a0 : ByteArray) (r1 : List (S51)) (r2 : Int) (r3 : Int) (w : World) (h : tag_Fields_p.f k a0 = some (r1, r2, r3)) :
    Calls Tryd.prog 38 #[.string a0] w fun e w' => ∃ v0_ : Value, e = .returned (.tuple #[v0_, .int .i64 r2, .int .i64 r3]) ∧ Kd.R k51 51 w' w.heap.size (fun _ => True) v0_ r1 ∧ Below w.heap.size w w' := by
  have hu51 := Tryd.underlying51
  have HB := Aside0.mk (Below.refl w.heap.size w)
  have H : (tag_Fields_p.l0 k a0 ([] : List (S51)) 0) = some (r1, r2, r3) := h
  clear h
  have H' := Aside0.mk H
  clear H
  go_enter Tryd.func38, Tryd.ntmps38
  go_wp2
  go_loopg [2, 3] k (fun kq v2 v3 w' => ∃ (x2_1 : List (S51)) (x3_1 : Int), v3 = .int .i64 x3_1 ∧ Aside0 (tag_Fields_p.l0 kq a0 x2_1 x3_1 = some (r1, r2, r3)) ∧ Aside0 (kq ≤ k) ∧ Aside0 (Kd.R k51 51 w' w.heap.size (fun _ => True) v2 x2_1) ∧ Aside0 (Below w.heap.size w w'))
  case atStart => exact ⟨(([] : List (S51))), (0), (by first | rfl | (simp; done) | (simp [*]; done)), H', ⟨Nat.le_refl _⟩, ⟨by first | exact Kd.R_nil _ _ _ _ _ | exact Kd.N_nil _ _ _ _ _ | exact Kd.V_nil _ _ _ _ _ | exact Kd.Q_nil _ _ _ _ _ | exact Kd.S_nil _ _ _ _ _⟩, ⟨by repeat (first | (with_reducible first | exact HB.out | apply below_alloc | apply pw_below_drewN | apply below_drew1) | exact HB.out)⟩⟩
  case round =>
    clear H'
    obtain ⟨x2_1, x3_1, rfl, HA, HK1, HO_2, HB⟩ := hrel
    cases gk with
    | zero => exact absurd HA.out (by simp [tag_Fields_p.l0])
    | succ k1 =>
      have H := HA.out
      clear HA
      simp only [tag_Fields_p.l0] at H
      by_cases c2 : x3_1 < (a0.size : Int)
      · rw [if_pos c2] at H
        have c2b0 : decide (x3_1 < (a0.size : Int)) = true := decide_eq_true c2
        clear c2
        by_cases c3 : (x2_1.length : Int) = 64
        · rw [if_pos c3] at H
          have c3b0 : ((x2_1.length : Int) == 64) = true := beq_iff_eq.mpr c3
          have c3b1 : ((x2_1.length : Int) != 64) = false := bne_eq_false_iff_eq.mpr c3
          clear c3
          simp only [Option.some.injEq, Prod.mk.injEq] at H
          obtain ⟨rfl, rfl, rfl⟩ := H
          obtain ⟨Ao4, co4, eo4⟩ := Kd.R_slice HO_2.out
          subst eo4
          go_wp2
          go_ret3
          exact ⟨_, by first | rfl | (simp [errW_none, errW_some] <;> rfl) | (simp [*, errW_none, errW_some] <;> rfl), by (with_reducible repeat (first | apply Kd.R_alloc | apply Kd.R_drewN | apply Kd.R_drew)); exact HO_2.out, by repeat (first | (with_reducible first | exact HB.out | apply below_alloc | apply pw_below_drewN | apply below_drew1) | exact HB.out)⟩
        · rw [if_neg c3] at H
          have c3b0 : ((x2_1.length : Int) == 64) = false := beq_eq_false_iff_ne.mpr c3
          have c3b1 : ((x2_1.length : Int) != 64) = true := bne_iff_ne.mpr c3
          by_cases c5 : 0 ≤ x3_1
          · rw [if_pos c5] at H
            have c5b0 := eq_true c5
            have c5b1 : decide (0 ≤ x3_1) = true := decide_eq_true c5
            clear c5
            by_cases c6 : x3_1 ≤ (a0.size : Int)
            · rw [if_pos c6] at H
              have c6b0 := eq_true c6
              have c6b1 : decide (x3_1 ≤ (a0.size : Int)) = true := decide_eq_true c6
              clear c6
              replace H := Option.bind_eq_some_iff.mp H
              obtain ⟨⟨t110, t111, t112, t113⟩, A70, H⟩ := H
              replace H : (if t113 = 0 then (if x2_1.length < 5864062014805 then (tag_Fields_p.l0 k1 a0 (x2_1 ++ [(⟨t110, t111⟩ : S51)]) (wrap64 (x3_1 + t112))) else (none)) else (some (x2_1, x3_1, t113))) = some (r1, r2, r3) := H
              have A7 := Aside0.mk A70
              clear A70
              by_cases c8 : t113 = 0
              · rw [if_pos c8] at H
                have c8b0 : (t113 == 0) = true := beq_iff_eq.mpr c8
                have c8b1 : (t113 != 0) = false := bne_eq_false_iff_eq.mpr c8
                clear c8
                by_cases c9 : x2_1.length < 5864062014805
                · rw [if_pos c9] at H
                  have LMc9 := Aside0.mk c9
                  clear c9
                  obtain ⟨y115, hy115⟩ : ∃ y_ : List (S51), y_ = (x2_1 ++ [(⟨t110, t111⟩ : S51)]) := ⟨_, rfl⟩
                  replace H : (tag_Fields_p.l0 k1 a0 y115 (wrap64 (x3_1 + t112))) = some (r1, r2, r3) := by first | (rw [hy115]; with_reducible exact H) | (have H2_ := (Option.bind_some _ _).symm.trans H; rw [hy115]; with_reducible exact H2_) | (have H2_ := (Option.bind_some _ _).symm.trans H; with_reducible exact H2_) | with_reducible exact H | (rw [hy115]; exact H) | exact H
                  have Ny115 := Aside0.mk hy115
                  clear hy115
                  have H' := Aside0.mk H
                  clear H
                  obtain ⟨Ao10, co10, eo10⟩ := Kd.R_slice HO_2.out
                  subst eo10
                  go_wp2_with (first | ((with_reducible refine gate_callee (f := 47) rfl ?_); refine goesL_ (some 21) rfl rfl Tryd.func47 (by kernel_rfl) rfl #[.string (a0.extract (x3_1 : Int).toNat a0.size)] rfl (by (try simp only [List.map_toArray, List.map_cons, List.map_nil]); first | done | rfl | (simp only [List.length_drop, List.length_take]; rfl)) ?_; (with_reducible refine (tag_Next.calls (a0.extract (x3_1 : Int).toNat a0.size) t110 t111 t112 t113 _ A7.out).mono ?_); rintro e w11 ⟨rfl, hb⟩; refine ⟨_, rfl, ?_⟩; have n0_ := Aside0.mk (Kd.R_below (by (with_reducible repeat (first | apply Kd.R_alloc | apply Kd.R_drewN | apply Kd.R_drew)); exact HO_2.out) hb); have n1_ := Aside0.mk (below_step (by repeat (first | (with_reducible first | exact HB.out | apply below_alloc | apply pw_below_drewN | apply below_drew1) | exact HB.out)) hb); clear HO_2; clear HB; have HO_2 := n0_; have HB := n1_; clear n0_ n1_; (try clear hb); (try clear hb2); (try clear hk); (try clear hi)) | ((with_reducible refine gate_dst (N := 5) rfl ?_); refine box_event ?hg (N := 5) ?hd (cs := #[.int .i64 0, .string (⟨#[]⟩ : ByteArray)]) (t := 51) ?hr ?_; (case hd => rfl); (case hg => rfl); (case hr => first | (go_simp; done) | (go_simp; rfl)); intro gb114 hg w12 hbox hb; have n0_ := Aside0.mk (Kd.R_below (Kd.R_elderB (by (with_reducible repeat (first | apply Kd.R_alloc | apply Kd.R_drewN | apply Kd.R_drew)); exact HO_2.out) gb114 (Nat.le_of_eq hg.symm)) hb); have n1_ := Aside0.mk (below_step (by repeat (first | (with_reducible first | exact HB.out | apply below_alloc | apply pw_below_drewN | apply below_drew1) | exact HB.out)) hb); have n2_ := Aside0.mk (hbox); have n3_ := Aside0.mk ((by rw [hg]; exact (below_size (by repeat (first | (with_reducible first | exact HB.out | apply below_alloc | apply pw_below_drewN | apply below_drew1) | exact HB.out))) : w.heap.size ≤ gb114)); have n4_ := Aside0.mk ((by rw [hg]; exact (below_size (by repeat (first | (with_reducible first | exact HB.out | apply below_alloc | apply pw_below_drewN | apply below_drew1) | exact HB.out))) : w.heap.size ≤ gb114)); clear HO_2; clear HB; have HO_2 := n0_; have HB := n1_; have BK114 := n2_; have GW114 := n3_; have GE114 := n4_; clear n0_ n1_ n2_ n3_ n4_; clear hb hbox hg; have hcz13_0 : w12.cell? ⟨gb114, 0, none⟩ = some (.int .i64 0) := (blk_cell BK114.out 0).trans rfl; have hcz13_1 : w12.cell? ⟨gb114, 1, none⟩ = some (.string (⟨#[]⟩ : ByteArray)) := (blk_cell BK114.out 1).trans rfl; have hfz13_0 := blk_frozen BK114.out 0; have hfz13_1 := blk_frozen BK114.out 1) | ((with_reducible refine gate_builtin (b := .append) (xs := #[.tmp 30, .tmp 32]) rfl ?_); at_builtin; refine Kd.R_append k51 (w0 := w) w.heap.size rfl (.tmp 30) (.tmp 32) 52 51 (.agg #[(.int .i64 0), (.string ⟨#[]⟩)]) 24 rfl Tryd.underlying52 info51 rfl (by decide) (by omega) (.slice Ao10 x2_1.length co10) x2_1 (⟨t110, t111⟩ : S51) [.int .i64 t110, .string t111] (fun k_ => k_ ≠ gb114) (fun _ => False) rfl (by first | (go_simp; done) | (go_simp; rfl)) ?aP (fun _ hk => hk.elim) ?aF ?aO ?aB ?aS ?aL ?_; (case aP => exact k51_mkM _ _ _ (⟨t110, t111⟩ : S51)); (case aB => exact (by repeat (first | (with_reducible first | exact HB.out | apply below_alloc | apply pw_below_drewN | apply below_drew1 | refine below_set ?_ GE114.out) | exact HB.out))); (case aF => exact (fun k_ hk => Kd.freshB (g := gb114) (o := .cells #[.int .i64 t110, .string t111] 51 (0, 0)) (by (with_reducible repeat (first | refine blk_drewN ?_ _ | refine blk_drew ?_ | refine blk_alloc ?_ _)); refine blk_put (cs := #[.int .i64 t110, .string (⟨#[]⟩ : ByteArray)]) ?_ 1 _ rfl; (with_reducible repeat (first | refine blk_drewN ?_ _ | refine blk_drew ?_ | refine blk_alloc ?_ _)); refine blk_put (cs := #[.int .i64 0, .string (⟨#[]⟩ : ByteArray)]) ?_ 0 _ rfl; (with_reducible repeat (first | refine blk_drewN ?_ _ | refine blk_drew ?_ | refine blk_alloc ?_ _)); exact BK114.out) k_ hk)); (case aO => exact (by (with_reducible repeat (first | apply Kd.R_alloc | apply Kd.R_drewN | apply Kd.R_drew)); exact Kd.R_mono (Kd.R_far (p := ⟨gb114, 1, none⟩) (Kd.R_far (p := ⟨gb114, 0, none⟩) (Kd.R_mono HO_2.out (fun k_ hk => (⟨hk, hk.2⟩ : _ ∧ k_ ≠ gb114))) (fun _ hk => hk.2) (.int .i64 t110)) (fun _ hk => hk.2) (.string t111)) (fun _ hk => hk.1.2))); (case aS => exact (below_size (by repeat (first | (with_reducible first | exact HB.out | apply below_alloc | apply pw_below_drewN | apply below_drew1 | refine below_set ?_ GE114.out) | exact HB.out)))); (case aL => have := LMc9.out; omega); intro v116 w14 ho hb hg hat; rw [← Ny115.out] at ho; have n0_ := Aside0.mk (blk_grown (g := gb114) (o := .cells #[.int .i64 t110, .string t111] 51 (0, 0)) (by (with_reducible repeat (first | refine blk_drewN ?_ _ | refine blk_drew ?_ | refine blk_alloc ?_ _)); refine blk_put (cs := #[.int .i64 t110, .string (⟨#[]⟩ : ByteArray)]) ?_ 1 _ rfl; (with_reducible repeat (first | refine blk_drewN ?_ _ | refine blk_drew ?_ | refine blk_alloc ?_ _)); refine blk_put (cs := #[.int .i64 0, .string (⟨#[]⟩ : ByteArray)]) ?_ 0 _ rfl; (with_reducible repeat (first | refine blk_drewN ?_ _ | refine blk_drew ?_ | refine blk_alloc ?_ _)); exact BK114.out) hg (Kd.R_away HO_2.out (fun _ hk => hk.2))); have n1_ := Aside0.mk (hb); have n2_ := Aside0.mk (ho); clear BK114; clear HB; clear HO_2; have BK114 := n0_; have HB := n1_; have HO117 := n2_; clear n0_ n1_ n2_; clear ho hb hg hat))
                  go_roundg k1
                  case measure => have := HK1.out; omega
                  case rel => exact ⟨(y115), (wrap64 (x3_1 + t112)), (by first | rfl | (simp; done) | (simp [*]; done)), H', ⟨by have := HK1.out; omega⟩, ⟨by (with_reducible repeat (first | apply Kd.R_alloc | apply Kd.R_drewN | apply Kd.R_drew)); exact Kd.R_mono HO117.out (fun _ hk => trivial)⟩, ⟨by repeat (first | (with_reducible first | exact HB.out | apply below_alloc | apply pw_below_drewN | apply below_drew1 | refine below_set ?_ GE114.out) | exact HB.out)⟩⟩
                · rw [if_neg c9] at H
                  exact absurd H (by simp)
              · rw [if_neg c8] at H
                have c8b0 : (t113 == 0) = false := beq_eq_false_iff_ne.mpr c8
                have c8b1 : (t113 != 0) = true := bne_iff_ne.mpr c8
                simp only [Option.some.injEq, Prod.mk.injEq] at H
                obtain ⟨rfl, rfl, rfl⟩ := H
                obtain ⟨Ao15, co15, eo15⟩ := Kd.R_slice HO_2.out
                subst eo15
                go_wp2_with (first | ((with_reducible refine gate_callee (f := 47) rfl ?_); refine goesL_ (some 21) rfl rfl Tryd.func47 (by kernel_rfl) rfl #[.string (a0.extract (x3_1 : Int).toNat a0.size)] rfl (by (try simp only [List.map_toArray, List.map_cons, List.map_nil]); first | done | rfl | (simp only [List.length_drop, List.length_take]; rfl)) ?_; (with_reducible refine (tag_Next.calls (a0.extract (x3_1 : Int).toNat a0.size) t110 t111 t112 t113 _ A7.out).mono ?_); rintro e w16 ⟨rfl, hb⟩; refine ⟨_, rfl, ?_⟩; have n0_ := Aside0.mk (Kd.R_below (by (with_reducible repeat (first | apply Kd.R_alloc | apply Kd.R_drewN | apply Kd.R_drew)); exact HO_2.out) hb); have n1_ := Aside0.mk (below_step (by repeat (first | (with_reducible first | exact HB.out | apply below_alloc | apply pw_below_drewN | apply below_drew1) | exact HB.out)) hb); clear HO_2; clear HB; have HO_2 := n0_; have HB := n1_; clear n0_ n1_; (try clear hb); (try clear hb2); (try clear hk); (try clear hi)) | ((with_reducible refine gate_dst (N := 5) rfl ?_); refine box_event ?hg (N := 5) ?hd (cs := #[.int .i64 0, .string (⟨#[]⟩ : ByteArray)]) (t := 51) ?hr ?_; (case hd => rfl); (case hg => rfl); (case hr => first | (go_simp; done) | (go_simp; rfl)); intro gb114 hg w17 hbox hb; have n0_ := Aside0.mk (Kd.R_below (Kd.R_elderB (by (with_reducible repeat (first | apply Kd.R_alloc | apply Kd.R_drewN | apply Kd.R_drew)); exact HO_2.out) gb114 (Nat.le_of_eq hg.symm)) hb); have n1_ := Aside0.mk (below_step (by repeat (first | (with_reducible first | exact HB.out | apply below_alloc | apply pw_below_drewN | apply below_drew1) | exact HB.out)) hb); have n2_ := Aside0.mk (hbox); have n3_ := Aside0.mk ((by rw [hg]; exact (below_size (by repeat (first | (with_reducible first | exact HB.out | apply below_alloc | apply pw_below_drewN | apply below_drew1) | exact HB.out))) : w.heap.size ≤ gb114)); have n4_ := Aside0.mk ((by rw [hg]; exact (below_size (by repeat (first | (with_reducible first | exact HB.out | apply below_alloc | apply pw_below_drewN | apply below_drew1) | exact HB.out))) : w.heap.size ≤ gb114)); clear HO_2; clear HB; have HO_2 := n0_; have HB := n1_; have BK114 := n2_; have GW114 := n3_; have GE114 := n4_; clear n0_ n1_ n2_ n3_ n4_; clear hb hbox hg; have hcz18_0 : w17.cell? ⟨gb114, 0, none⟩ = some (.int .i64 0) := (blk_cell BK114.out 0).trans rfl; have hcz18_1 : w17.cell? ⟨gb114, 1, none⟩ = some (.string (⟨#[]⟩ : ByteArray)) := (blk_cell BK114.out 1).trans rfl; have hfz18_0 := blk_frozen BK114.out 0; have hfz18_1 := blk_frozen BK114.out 1))
                go_ret3
                exact ⟨_, by first | rfl | (simp [errW_none, errW_some] <;> rfl) | (simp [*, errW_none, errW_some] <;> rfl), by (with_reducible repeat (first | apply Kd.R_alloc | apply Kd.R_drewN | apply Kd.R_drew)); exact Kd.R_mono (Kd.R_far (p := ⟨gb114, 1, none⟩) (Kd.R_far (p := ⟨gb114, 0, none⟩) (Kd.R_mono HO_2.out (fun k_ hk => (⟨hk, hk.2⟩ : _ ∧ k_ ≠ gb114))) (fun _ hk => hk.2) (.int .i64 t110)) (fun _ hk => hk.2) (.string t111)) (fun _ hk => trivial), by repeat (first | (with_reducible first | exact HB.out | apply below_alloc | apply pw_below_drewN | apply below_drew1 | refine below_set ?_ GE114.out) | exact HB.out)⟩
            · rw [if_neg c6] at H
              exact absurd H (by simp)
          · rw [if_neg c5] at H
            exact absurd H (by simp)
      · rw [if_neg c2] at H
        have c2b0 : decide (x3_1 < (a0.size : Int)) = false := decide_eq_false c2
        clear c2
        simp only [Option.some.injEq, Prod.mk.injEq] at H
        obtain ⟨rfl, rfl, rfl⟩ := H
        go_wp2
        go_ret3
        exact ⟨_, by first | rfl | (simp [errW_none, errW_some] <;> rfl) | (simp [*, errW_none, errW_some] <;> rfl), by (with_reducible repeat (first | apply Kd.R_alloc | apply Kd.R_drewN | apply Kd.R_drew)); exact HO_2.out, by repeat (first | (with_reducible first | exact HB.out | apply below_alloc | apply pw_below_drewN | apply below_drew1) | exact HB.out)⟩
def mkF (p : Nat × List UInt8) : S51 := ⟨(p.1 : Int), ⟨p.2.toArray⟩⟩
theorem tag_Fields_loop (s : ByteArray) (hs : s.size ≤ big) (d : Nat) : ∀ (k pos : Nat) (xs : List S51), pos ≤ s.size → s.size - pos ≤ d → d < k → xs.length ≤ 64 →
    tag_Fields_p.l0 k s xs (pos : Int) = some (xs ++ (fieldsL (s.data.toList.drop pos) xs.length pos).1.map mkF, ((fieldsL (s.data.toList.drop pos) xs.length pos).2.1 : Int), ((fieldsL (s.data.toList.drop pos) xs.length pos).2.2 : Int)) := by
  induction d with
  | zero =>
    intro k pos xs hp hd hk hx
    obtain ⟨k, rfl⟩ : ∃ m, k = m + 1 := ⟨k - 1, by omega⟩
    simp only [tag_Fields_p.l0]
    rw [if_neg (by omega), drop_nil_of s pos (by omega), fieldsL_nil]
    simp
  | succ d ih =>
    intro k pos xs hp hd hk hx
    obtain ⟨k, rfl⟩ : ∃ m, k = m + 1 := ⟨k - 1, by omega⟩
    by_cases hlt : pos < s.size
    · have hne := drop_ne_nil s pos hlt
      simp only [tag_Fields_p.l0]
      rw [if_pos (by omega)]
      by_cases h64 : xs.length = 64
      · rw [if_pos (by omega), fieldsL_full _ hne _ _ (by omega)]; simp
      · rw [if_neg (by omega), if_pos (by omega), if_pos (by omega), Int.toNat_natCast]
        unfold tag_Next.f
        rw [if_pos (by rw [ByteArray.size_extract]; omega), drop_list]
        simp only [Option.bind_some]
        by_cases he : (nextL (s.data.toList.drop pos)).2.2 = 0
        · have h1 := nextL_pos _ he
          have h2 := nextL_le _ he
          rw [List.length_drop, size_list] at h2
          unfold big at hs
          rw [if_pos (by omega), if_pos (by omega), fieldsL_next _ hne _ _ (by omega) he, w64 (by omega) (by omega), ← Int.natCast_add, ih k (pos + (nextL (s.data.toList.drop pos)).2.1) _ (by omega) (by omega) (by omega) (by simp; omega)]
          simp [List.drop_drop, mkF]
        · rw [if_neg (by omega), fieldsL_err _ hne _ _ (by omega) he]; simp
    · obtain ⟨k, rfl⟩ : ∃ m, k = m + 0 := ⟨k, rfl⟩
      simp only [tag_Fields_p.l0]
      rw [if_neg (by omega), drop_nil_of s pos hlt, fieldsL_nil]
      simp
def tag_Fields.f (a0 : ByteArray) : Option ((List S51) × Int × Int) := if a0.size ≤ big then some ((fieldsL a0.data.toList 0 0).1.map mkF, ((fieldsL a0.data.toList 0 0).2.1 : Int), ((fieldsL a0.data.toList 0 0).2.2 : Int)) else none
theorem tag_Fields.calls (a0 : ByteArray) (r1 : List S51) (r2 : Int) (r3 : Int) (w : World) (h : tag_Fields.f a0 = some (r1, r2, r3)) :
    Calls Tryd.prog 38 #[.string a0] w fun e w' => ∃ v0_ : Value, e = .returned (.tuple #[v0_, .int .i64 r2, .int .i64 r3]) ∧ Kd.R k51 51 w' w.heap.size (fun _ => True) v0_ r1 ∧ Below w.heap.size w w' := by
  unfold tag_Fields.f at h
  by_cases c : a0.size ≤ big
  · rw [if_pos c] at h
    refine tag_Fields_p.calls (a0.size + 1) a0 r1 r2 r3 w (Eq.trans ?_ h)
    have := tag_Fields_loop a0 c a0.size (a0.size + 1) 0 [] (by omega) (by omega) (by omega) (by simp)
    simpa [tag_Fields_p.f] using this
  · rw [if_neg c] at h; cases h
end Go.Proofs.YtbkpkfbdpmjgoaaDoor.T
end
section
namespace Go.Proofs.YtbkpkfbdpmjgoaaDoor.T
open Go.RowKit Go.Proofs.YtbkpkfbdpmjgoaaDoorW.PrintWords Go.Proofs.YtbkpkfbdpmjgoaaDoorW.PrintLast Go.Proofs.YtbkpkfbdpmjgoaaDoorW.PrintMore
attribute [local go_sem] max2_int min2_int max_two min_two max_three min_three max_four min_four   -- for this text's walks alone
set_option linter.unusedVariables false
set_option linter.unusedSimpArgs false
theorem fieldsL_good (n : Nat) : ∀ (l : List UInt8) (c p : Nat), l.length ≤ n → ∀ x ∈ (fieldsL l c p).1, 1 ≤ x.1 ∧ x.1 ≤ 99999 ∧ valueL x.2 = true := by
  induction n with
  | zero =>
    intro l c p hn x hx
    obtain rfl := List.eq_nil_of_length_eq_zero (by omega : l.length = 0)
    rw [fieldsL_nil] at hx
    simp at hx
  | succ n ih =>
    intro l c p hn x hx
    by_cases hl : l = []
    · subst hl; rw [fieldsL_nil] at hx; simp at hx
    by_cases hc : 64 ≤ c
    · rw [fieldsL_full l hl c p hc] at hx; simp at hx
    by_cases he : (nextL l).2.2 = 0
    · rw [fieldsL_next l hl c p (by omega) he] at hx
      have h1 := nextL_pos l he
      rcases List.mem_cons.1 hx with rfl | hx
      · have hf := nextL_form l he
        exact ⟨hf.2.2.1, hf.2.2.2, hf.2.1⟩
      · have hpos := List.length_pos_iff.2 hl
        exact ih _ _ _ (by rw [List.length_drop]; omega) x hx
    · rw [fieldsL_err l hl c p (by omega) he] at hx; simp at hx
def tagsOf (l : List S51) : List Int := l.map (·.f0)
def valsOf (l : List S51) (t : Int) : Option ByteArray := (l.find? (fun x => x.f0 == t)).map (·.f1)
def dupL : List S51 → List S51 → Bool
  | _, [] => false
  | seen, x :: r => if (valsOf seen x.f0).isSome then true else dupL (seen ++ [x]) r
theorem dupL_cons (seen : List S51) (x : S51) (r : List S51) : dupL seen (x :: r) = if (valsOf seen x.f0).isSome = true then true else dupL (seen ++ [x]) r := rfl
def formOf (l : List S51) : FormS := ⟨tagsOf l, valsOf l, fun _ => false, 0, 0⟩
def fieldsB (s : ByteArray) : List S51 := (fieldsL s.data.toList 0 0).1.map mkF
def readB (s : ByteArray) : Option FormS × Int :=
  if (fieldsL s.data.toList 0 0).2.2 ≠ 0 then (none, (fieldsL s.data.toList 0 0).2.2)
  else if (fieldsB s).length = 0 ∨ (rd_T51 (fieldsB s) 0).f0 ≠ 35 then (none, 110)
  else if dupL [] (fieldsB s) = true then (none, 111) else (some (formOf (fieldsB s)), 0)
theorem fieldsB_good (s : ByteArray) : ∀ x ∈ fieldsB s, 1 ≤ x.f0 ∧ x.f0 ≤ 99999 ∧ x.f1.size ≤ 512 := by
  intro x hx
  obtain ⟨y, hy, rfl⟩ := List.mem_map.1 hx
  have h := fieldsL_good _ _ 0 0 (Nat.le_refl _) y hy
  have hv : y.2.length ≤ 512 := by
    have := h.2.2
    unfold valueL at this
    simp only [Bool.and_eq_true, decide_eq_true_eq] at this
    exact this.2.1
  refine ⟨?_, ?_, ?_⟩
  · show (1 : Int) ≤ ((y.1 : Nat) : Int); omega
  · show ((y.1 : Nat) : Int) ≤ 99999; omega
  · show y.2.toArray.size ≤ 512
    simpa using hv
theorem fieldsB_len (s : ByteArray) : (fieldsB s).length ≤ 64 := by
  have := fieldsL_count _ s.data.toList 0 0 (Nat.le_refl _) (by omega)
  unfold fieldsB
  rw [List.length_map]; omega
theorem valsOf_snoc (l : List S51) (y : S51) (h : valsOf l y.f0 = none) : valsOf (l ++ [y]) = fun x => if x = y.f0 then some y.f1 else valsOf l x := by
  funext t
  unfold valsOf at *
  rw [List.find?_append]
  by_cases c : t = y.f0
  · subst c
    have h0 : l.find? (fun x => x.f0 == y.f0) = none := by simpa using h
    rw [h0, if_pos rfl]
    simp
  · rw [if_neg c]
    have : List.find? (fun x : S51 => x.f0 == t) [y] = none := by simp; intro e; exact c e.symm
    rw [this]
    simp
theorem valsOf_mem (l : List S51) (t : Int) (s : ByteArray) (h : valsOf l t = some s) : ∃ x ∈ l, x.f0 = t ∧ x.f1 = s := by
  unfold valsOf at h
  obtain ⟨x, hx, rfl⟩ := Option.map_eq_some_iff.1 h
  have h1 := List.find?_some hx
  exact ⟨x, List.mem_of_find?_eq_some hx, by simpa using h1, rfl⟩
theorem readB_sizes (s : ByteArray) (F : FormS) (e : Int) (h : readB s = (some F, e)) : (∀ x v, F.vals x = some v → v.size ≤ 512) ∧ F.order.length ≤ 64 := by
  unfold readB at h
  split at h
  · simp at h
  split at h
  · simp at h
  split at h
  · simp at h
  simp only [Prod.mk.injEq, Option.some.injEq] at h
  obtain ⟨rfl, _⟩ := h
  refine ⟨fun x v hv => ?_, ?_⟩
  · obtain ⟨y, hy, _, rfl⟩ := valsOf_mem _ _ _ hv
    exact (fieldsB_good s y hy).2.2
  · show (tagsOf (fieldsB s)).length ≤ 64
    unfold tagsOf; rw [List.length_map]; exact fieldsB_len s
structure RdIs (l : List S51) (B i : Nat) (A : Option Addr) (c : Nat) (w1 wr : World) : Prop where
  form : FormIs (B + 1 + 1) ⟨A, c, B, B + 1⟩ (formOf (l.take i)) 0 wr
  row : Kd.R (Kd.int .i64) 3 wr (B + 3) (fun _ => True) (.slice A i c) (tagsOf (l.take i))
  live : wr.frozen? ⟨B + 1 + 1, 0, none⟩ = false
  low : Below B w1 wr
  size : B + 3 ≤ wr.heap.size
def formW (w1 : World) : World := ((w1.alloc (.map #[] 0)).alloc (.map #[] 0)).alloc (.cells #[.slice none 0 0, .map (some w1.heap.size), .map (some (w1.heap.size + 1)), .int .i64 0, .int .i64 0] 42)
theorem read_start (l : List S51) (w1 : World) : RdIs l w1.heap.size 0 none 0 w1 (formW w1) := by
  have hz : (formW w1).heap.size = w1.heap.size + 3 := by simp [formW]
  have hM : ∀ {R : Value → Option (DataW Unit × List MemPlace)}, (w1.alloc (.map #[] 0)).ownsMap Tryd.prog 3 R w1.heap.size 0 (.map []) := World.ownsMap_made w1 _ _ _
  have hM2 : ∀ {R : Value → Option (DataW Unit × List MemPlace)}, ((w1.alloc (.map #[] 0)).alloc (.map #[] 0)).ownsMap Tryd.prog 3 R (w1.heap.size + 1) 0 (.map []) := by
    intro R
    have := World.ownsMap_made (w1.alloc (.map #[] 0)) Tryd.prog 3 R
    simpa using this
  refine ⟨⟨by simp [formW, go_sem, formOf, tagsOf], by simp [formW, go_sem], by simp [formW, go_sem], by simp [formW, go_sem, formOf], by simp [formW, go_sem, formOf], by simp [formW, go_sem], by simp [formW, go_sem], ⟨.map [], ?_, ?_, ?_⟩, ⟨.map [], ?_, ?_⟩, ?_, by show w1.heap.size + 1 + 1 ≠ w1.heap.size; omega, by show w1.heap.size + 1 + 1 ≠ w1.heap.size + 1; omega, by show w1.heap.size ≠ w1.heap.size + 1; omega, by simp⟩, ?_, by simp [formW, go_sem], ?_, by omega⟩
  · exact (hM.alloc _).alloc _
  · intro t _; rfl
  · intro t _; rfl
  · exact hM2.alloc _
  · intro t _; rfl
  · intro i hi; simp [formOf, tagsOf] at hi
  · simp only [List.take_zero, tagsOf, List.map_nil]; exact Kd.R_nil _ _ _ _ _
  · unfold formW
    exact (((Below.refl _ _).alloc (Nat.le_refl _) _).alloc (by simp) _).alloc (by simp; omega) _
theorem read_step {l : List S51} {B i : Nat} {A : Option Addr} {c : Nat} {w1 wr : World} (h : RdIs l B i A c w1 wr) (hi : i < l.length) (x : S51) (hx : l[i] = x) (hd : valsOf (l.take i) x.f0 = none) (ht : i64ok x.f0) (hs : x.f1.size ≤ 512) (hl : l.length ≤ 64) (hgl : ∀ y ∈ l, i64ok y.f0)
    {W w3 : World} (hW : Below wr.heap.size wr W) {A3 : Option Addr} {c3 : Nat} (hR3 : Kd.R (Kd.int .i64) 3 w3 (B + 3) (fun _ => True) (.slice A3 (i + 1) c3) (tagsOf (l.take i) ++ [x.f0])) (hb3 : Below (B + 3) W w3) :
    ∃ w5, (Instr.mapUpdate 39 (.map (some B)) (.int .i64 x.f0) (.string x.f1)).run Tryd.prog (w3.setCell ⟨B + 1 + 1, 0, none⟩ (.slice A3 (i + 1) c3)).drew = .ok () w5 ∧ RdIs l B (i + 1) A3 c3 w1 w5 := by
  have hsz := h.size
  have hWs := hW.size
  have h3s := hb3.size
  have htk : l.take (i + 1) = l.take i ++ [x] := by rw [List.take_succ_eq_append_getElem hi, hx]
  have htg : tagsOf (l.take (i + 1)) = tagsOf (l.take i) ++ [x.f0] := by rw [htk]; unfold tagsOf; simp
  have hln : (tagsOf (l.take i)).length = i := by unfold tagsOf; rw [List.length_map, List.length_take]; omega
  have hln1 : (tagsOf (l.take (i + 1))).length = i + 1 := by unfold tagsOf; rw [List.length_map, List.length_take]; omega
  have hlow3 : Below (B + 3) wr w3 := (hW.mono hsz).trans hb3
  have ht3 : Turned (fun k => k = B + 1 + 1 ∨ B + 3 ≤ k) wr w3 := ⟨hlow3.os, hlow3.tape, hlow3.output, hlow3.size, fun k _ hk => hlow3.block k (by omega)⟩
  have ht4 : Turned (fun k => k = B + 1 + 1 ∨ B + 3 ≤ k) wr (w3.setCell ⟨B + 1 + 1, 0, none⟩ (.slice A3 (i + 1) c3)) := ht3.setCell (p := ⟨B + 1 + 1, 0, none⟩) (.inl rfl) _
  have vals4 := h.form.vals.turned (ht4.drew) (by show ¬ (B = B + 1 + 1 ∨ B + 3 ≤ B); omega)
  obtain ⟨w5, hrun, hv5, hg5⟩ := vals4.put x.f0 ht x.f1 (by omega) (by show (tagsOf (l.take i)).length < _; omega)
  refine ⟨w5, hrun, ?_⟩
  replace hg5 : (w3.setCell ⟨B + 1 + 1, 0, none⟩ (.slice A3 (i + 1) c3)).grownBy w5 (some B) := ⟨hg5.os, hg5.tape, hg5.output, hg5.size, hg5.block⟩
  have ht5 : Turned (fun k => k = B ∨ k = B + 1 + 1 ∨ B + 3 ≤ k) wr w5 := by
    have a1 : Turned (fun k => k = B ∨ k = B + 1 + 1 ∨ B + 3 ≤ k) wr (w3.setCell ⟨B + 1 + 1, 0, none⟩ (.slice A3 (i + 1) c3)) := ⟨ht4.os, ht4.tape, ht4.output, ht4.size, fun k hk hs => ht4.block k hk (fun e => hs (.inr e))⟩
    exact a1.trans (Turned.of_grown hg5 (.inl rfl))
  have hgn : some (B + 1 + 1) ≠ some B := fun e => by have := Option.some.inj e; omega
  have hcell : ∀ (j : Nat) (v : Value), j ≠ 0 → wr.cell? ⟨B + 1 + 1, j, none⟩ = some v → w5.cell? ⟨B + 1 + 1, j, none⟩ = some v := fun j v hj hv =>
    hg5.cell (a := ⟨B + 1 + 1, j, none⟩) ((World.cell?_setCell_other _ _ _ _ (by intro e; injection e; omega)).trans ((hlow3.cell (p := ⟨B + 1 + 1, j, none⟩) (by show B + 1 + 1 < B + 3; omega)).trans hv)) hgn
  have hgb5 : w5.heap[B + 1 + 1]? = (w3.setCell ⟨B + 1 + 1, 0, none⟩ (.slice A3 (i + 1) c3)).heap[B + 1 + 1]? := hg5.block (B + 1 + 1) (by rw [World.size_setCell]; omega) hgn
  have hfro : ∀ j : Nat, wr.frozen? ⟨B + 1 + 1, j, none⟩ = false → w5.frozen? ⟨B + 1 + 1, j, none⟩ = false := fun j hf => by
    refine (World.frozen?_of_block (w := w3.setCell ⟨B + 1 + 1, 0, none⟩ (.slice A3 (i + 1) c3)) (a := ⟨B + 1 + 1, j, none⟩) hgb5).trans ?_
    rw [World.frozen?_setCell]
    exact (hlow3.frozen (p := ⟨B + 1 + 1, j, none⟩) (by show B + 1 + 1 < B + 3; omega)).trans hf
  have hR5 : Kd.R (Kd.int .i64) 3 w5 (B + 3) (fun _ => True) (.slice A3 (i + 1) c3) (tagsOf (l.take (i + 1))) := by
    rw [htg]
    refine Kd.R_mono (Kd.R_move (Kd.R_bound hR3) (fun k hk => ?_)) (fun _ _ => trivial)
    have hkb := hk.2.1
    have hkl := hk.2.2.1
    exact (hg5.block k (by rw [World.size_setCell]; exact hkl) (fun e => by have : k = B := Option.some.inj e; omega)).trans (Below.heap_setCell _ _ _ _ (by show k ≠ B + 1 + 1; omega))
  have hform : formOf (l.take (i + 1)) = ⟨tagsOf (l.take (i + 1)), fun t => if t = x.f0 then some x.f1 else valsOf (l.take i) t, fun _ => false, 0, 0⟩ := by
    show (⟨tagsOf (l.take (i + 1)), valsOf (l.take (i + 1)), fun _ => false, 0, 0⟩ : FormS) = _
    rw [show valsOf (l.take (i + 1)) = valsOf (l.take i ++ [x]) by rw [htk], valsOf_snoc _ _ hd]
  refine ⟨⟨?_, hcell 1 _ (by decide) h.form.c1, hcell 2 _ (by decide) h.form.c2, hcell 3 _ (by decide) h.form.c3, hcell 4 _ (by decide) h.form.c4, hfro 3 h.form.l3, hfro 4 h.form.l4, ?_, h.form.asked.turned ht5 (by show ¬ (B + 1 = B ∨ B + 1 = B + 1 + 1 ∨ B + 3 ≤ B + 1); omega), ?_, by show B + 1 + 1 ≠ B; omega, by show B + 1 + 1 ≠ B + 1; omega, by show B ≠ B + 1; omega, ?_⟩, hR5, hfro 0 h.live, h.low.trans (ht5.below (fun k hk => by omega) (by omega)), Nat.le_trans hsz ht5.size⟩
  · have e : (formOf (l.take (i + 1))).order.length = i + 1 := hln1
    rw [e]
    exact hg5.cell (a := ⟨B + 1 + 1, 0, none⟩) (World.cell?_setCell_same _ _ _ ((hlow3.cell (p := ⟨B + 1 + 1, 0, none⟩) (by show B + 1 + 1 < B + 3; omega)).trans h.form.c0)) hgn
  · have e : (formOf (l.take (i + 1))).order.length = (formOf (l.take i)).order.length + 1 := by show (tagsOf _).length = (tagsOf _).length + 1; omega
    rw [e, hform]
    exact hv5
  · intro j hj
    have hj2 : j < (tagsOf (l.take (i + 1))).length := hj
    have hj3 : j < l.length := by omega
    obtain ⟨ad, e, hc0⟩ := Kd.at_int (Kd.R_reads' hR5).2.2 (j : Int) (by omega) (by omega)
    have hgd : (tagsOf (l.take (i + 1))).getD j 0 = l[j].f0 := by
      unfold tagsOf
      rw [List.getD_eq_getElem?_getD, List.getElem?_map, List.getElem?_take_of_lt (by omega), List.getElem?_eq_getElem hj3]; rfl
    refine ⟨ad, e, ?_, ?_⟩
    · rw [Int.toNat_natCast] at hc0
      exact hc0
    · show i64ok ((tagsOf (l.take (i + 1))).getD j 0)
      rw [hgd]
      exact hgl _ (List.getElem_mem hj3)
  · intro a ha
    have hb := Kd.R_base hR3 a.block (by rw [show A3 = some a from ha]; rfl)
    constructor
    · show a.block ≠ B + 1 + 1; omega
    · show a.block ≠ B + 1; omega
theorem alloc_cell {w : World} {a : Addr} {v : Value} (h : w.cell? a = some v) (o : Obj) : (w.alloc o).cell? a = some v := (World.cell?_of_block (w := w) (Below.heap_alloc w o a.block (World.block_lt_of_cell? w _ h))).trans h
theorem info_int : (Tryd.prog.info? 3).map (fun i => (i.zero, i.size, i.bytes)) = some (some (.int .i64 0), 1, 8) := by kernel_rfl
theorem map_made39 (w : World) : (Instr.makeMap 39 none).run Tryd.prog w = .ok (.map (some w.heap.size)) (w.alloc (.map #[] 0)) := by kernel_rfl
theorem map_made40 (w : World) : (Instr.makeMap 40 none).run Tryd.prog w = .ok (.map (some w.heap.size)) (w.alloc (.map #[] 0)) := by kernel_rfl
def ReadIs (r : Option FormS × Int) (w : World) (e : Ending) (w' : World) : Prop := Below w.heap.size w w' ∧
  match r with
  | (none, x) => e = .returned (.tuple #[.pointer none, .int .i64 x])
  | (some F, x) => ∃ g p, e = .returned (.tuple #[.pointer (some ⟨g, 0, none⟩), .int .i64 x]) ∧ FormIs g p F 0 w' ∧ w.heap.size ≤ g ∧ w.heap.size ≤ p.a ∧ w.heap.size ≤ p.v ∧ ∀ a, p.A = some a → w.heap.size ≤ a.block
theorem ReadIs.no {r : Option FormS × Int} {w w' : World} {x : Int} (h : (none, x) = r) (hb : Below w.heap.size w w') : ReadIs r w (.returned (.tuple #[.pointer none, .int .i64 x])) w' := by
  subst h; exact ⟨hb, rfl⟩
theorem ReadIs.yes {r : Option FormS × Int} {w w' : World} {x : Int} {F : FormS} {g : Nat} {p : PlS} (h : (some F, x) = r) (hb : Below w.heap.size w w') (hf : FormIs g p F 0 w') (h1 : w.heap.size ≤ g) (h2 : w.heap.size ≤ p.a) (h3 : w.heap.size ≤ p.v) (h4 : ∀ a, p.A = some a → w.heap.size ≤ a.block) :
    ReadIs r w (.returned (.tuple #[.pointer (some ⟨g, 0, none⟩), .int .i64 x])) w' := by
  subst h; exact ⟨hb, g, p, rfl, hf, h1, h2, h3, h4⟩
set_option maxRecDepth 100000 in
set_option maxHeartbeats 4000000 in
theorem read_walk (s : ByteArray) (w : World) (hs : s.size ≤ 140737488351232) :
    Calls Tryd.prog 21 #[.string s] w (ReadIs (readB s) w) := by
  have hfd : tag_Fields.f s = some (fieldsB s, ((fieldsL s.data.toList 0 0).2.1 : Int), ((fieldsL s.data.toList 0 0).2.2 : Int)) := by
    unfold tag_Fields.f; rw [if_pos (by unfold big; omega)]; rfl
  have HFd := Aside0.mk (tag_Fields.calls s _ _ _ w hfd)
  clear hfd
  have HQ : Aside0 (readB s = if (fieldsL s.data.toList 0 0).2.2 ≠ 0 then (none, ((fieldsL s.data.toList 0 0).2.2 : Int)) else if (fieldsB s).length = 0 ∨ (rd_T51 (fieldsB s) 0).f0 ≠ 35 then (none, 110) else if dupL [] (fieldsB s) = true then (none, 111) else (some (formOf (fieldsB s)), 0)) := ⟨rfl⟩
  generalize readB s = rr at *
  have hgood := Aside0.mk (fieldsB_good s)
  have hlen := fieldsB_len s
  generalize fieldsB s = l at *
  generalize (fieldsL s.data.toList 0 0).2.2 = e at *
  generalize (fieldsL s.data.toList 0 0).2.1 = pl at *
  by_cases c1 : e = 0
  · rw [if_neg (by omega)] at HQ
    by_cases c2 : l.length = 0 ∨ (rd_T51 l 0).f0 ≠ 35
    · rw [if_pos c2] at HQ
      have t1 : ((e : Int) != 0) = false := by rw [c1]; rfl
      by_cases c3 : l.length = 0
      · have t2 : ((l.length : Int) == 0) = true := by rw [c3]; rfl
        go_enter Tryd.func21, Tryd.ntmps21
        go_wp2_with (go_at_call 38; refine HFd.out.mono ?_; rintro en w1 ⟨v0, rfl, hR, hb⟩; obtain ⟨A, c, rfl, hc, hC⟩ := Kd.R_reads hR)
        go_ret2
        exact ReadIs.no HQ.out.symm hb
      · have c4 : (rd_T51 l 0).f0 ≠ 35 := by
          rcases c2 with q | q
          · exact absurd q c3
          · exact q
        have t2 : ((l.length : Int) == 0) = false := by rw [beq_eq_false_iff_ne]; omega
        have t3 : ((rd_T51 l 0).f0 != 35) = true := by rw [bne_iff_ne]; exact c4
        go_enter Tryd.func21, Tryd.ntmps21
        go_wp2_with (go_at_call 38; refine HFd.out.mono ?_; rintro en w1 ⟨v0, rfl, hR, hb⟩; obtain ⟨A, c, rfl, hc, hC⟩ := Kd.R_reads hR; obtain ⟨ad, hA, h0, -⟩ := at_T51 hC 0 (by omega) (by omega); subst hA; have h00 : w1.cell? ad = some (.int .i64 (rd_T51 l 0).f0) := h0; clear h0)
        go_ret2
        exact ReadIs.no HQ.out.symm hb
    · rw [if_neg c2] at HQ
      have c3 : 0 < l.length := by omega
      have c4 : (rd_T51 l 0).f0 = 35 := by
        by_cases q : (rd_T51 l 0).f0 = 35
        · exact q
        · exact absurd (.inr q) c2
      have t1 : ((e : Int) != 0) = false := by rw [c1]; rfl
      have t2 : ((l.length : Int) == 0) = false := by rw [beq_eq_false_iff_ne]; omega
      have t3 : ((rd_T51 l 0).f0 != 35) = false := by rw [c4]; rfl
      have hmm := map_made39
      have hmm2 := map_made40
      go_enter Tryd.func21, Tryd.ntmps21
      go_wp2_with (go_at_call 38; refine HFd.out.mono ?_; rintro en w1 ⟨v0, rfl, hR, hb⟩; obtain ⟨A, c, rfl, hc, hC⟩ := Kd.R_reads hR; obtain ⟨ad, hA, h0, -⟩ := at_T51 hC 0 (by omega) (by omega); subst hA; have h00 : w1.cell? ad = some (.int .i64 (rd_T51 l 0).f0) := h0; have HC := Aside0.mk hC; have HBw := Aside0.mk hb; clear hC hR hb h0)
      change Code.wp _ _ _ _ (formW w1)
      go_loopw [35] (fun v35 wr => ∃ (i : Nat) (A : Option Addr) (c' : Nat), v35 = .int .i64 (i : Int) ∧ i ≤ l.length ∧ Aside0 (RdIs l w1.heap.size i A c' w1 wr) ∧ Aside0 (dupL (l.take i) (l.drop i) = dupL [] l)) (fun v35 _ => l.length - (intOf v35).toNat)
      case atStart => exact ⟨0, none, 0, rfl, Nat.zero_le _, ⟨read_start l w1⟩, ⟨rfl⟩⟩
      case round =>
        obtain ⟨i, A, c', rfl, hi, HD, HA⟩ := hrel
        by_cases hlt : i < l.length
        · have k1 : decide ((i : Int) < (l.length : Int)) = true := by rw [decide_eq_true_eq]; omega
          have HCr := Aside0.mk (Kd.C_below HC.out HD.out.low)
          obtain ⟨ad', hA', q0, q1⟩ := at_T51 HCr.out (i : Int) (by omega) (by omega)
          obtain rfl : ad = ad' := Option.some.inj hA'
          have k2 : (0 : Int) ≤ (i : Int) ∧ (i : Int) < (l.length : Int) := by omega
          have hti : ((i : Int)).toNat = i := Int.toNat_natCast i
          have hcl : Tryd.prog.cellsOf 51 = 2 := by kernel_rfl
          have hrd : rd_T51 l (i : Int) = l[i] := by simp [rd_T51, hlt]
          rw [hrd, hti] at q0 q1
          have hgd := hgood.out _ (List.getElem_mem hlt)
          have hdrop : l.drop i = l[i] :: l.drop (i + 1) := List.drop_eq_getElem_cons hlt
          have ht : i64ok l[i].f0 := i64ok_of (by omega) (by omega)
          have HH : Aside0 (∀ W, Below wr.heap.size wr W → Calls Tryd.prog 16 #[.pointer (some ⟨w1.heap.size + 1 + 1, 0, none⟩), .int .i64 l[i].f0] W fun e w' => e = .returned (.bool (valsOf (l.take i) l[i].f0).isSome) ∧ w' = W) :=
            ⟨fun W hW => form_has _ _ _ _ W (HD.out.form.below hW) l[i].f0 ht⟩
          rw [hdrop] at HA
          generalize hx : l[i] = x at *
          have HBX : Aside0 (Below wr.heap.size wr (wr.alloc (.cells #[.int .i64 x.f0, .string x.f1] 51))) := ⟨(Below.refl _ _).alloc (Nat.le_refl _) _⟩
          by_cases cd : (valsOf (l.take i) x.f0).isSome = true
          · have HA2 : Aside0 (dupL [] l = true) := ⟨by rw [← HA.out]; unfold dupL; rw [if_pos cd]⟩
            clear HA hdrop
            rw [cd] at HH
            go_wp2_with (go_at_call 16; refine (HH.out _ HBX.out).mono ?_; rintro e w' ⟨rfl, hh⟩; obtain rfl := hh.symm)
            go_ret2
            exact ReadIs.no (by rw [HQ.out, if_pos HA2.out]) (HBw.out.trans ((HD.out.low.trans (HBX.out.mono (by have := HD.out.size; omega))).mono HBw.out.size))
          · have cd' : (valsOf (l.take i) x.f0).isSome = false := by simpa using cd
            have HA2 : Aside0 (dupL (l.take i ++ [x]) (l.drop (i + 1)) = dupL [] l) := ⟨by have h1 := HA.out; rw [dupL_cons, if_neg cd] at h1; exact h1⟩
            rw [cd'] at HH
            have HRow := Aside0.mk (Kd.R_drew (Kd.R_alloc HD.out.row (.cells #[.int .i64 x.f0, .string x.f1] 51)))
            have hsz := HD.out.size
            have hlow : w1.heap.size + 1 + 1 < w1.heap.size + 3 := by omega
            have hlw : w1.heap.size + 1 + 1 < wr.heap.size := by omega
            have hln : (tagsOf (l.take i)).length = i := by unfold tagsOf; rw [List.length_map, List.length_take]; omega
            have hl8 : ((tagsOf (l.take i)).length + 1) * 8 ≤ 140737488355328 := by omega
            have hszW : w1.heap.size + 3 ≤ (wr.alloc (.cells #[.int .i64 x.f0, .string x.f1] 51)).drew.heap.size := by
              show _ ≤ (wr.alloc (.cells #[.int .i64 x.f0, .string x.f1] 51)).heap.size
              rw [World.size_alloc]; omega
            have hg0 : (wr.alloc (.cells #[.int .i64 x.f0, .string x.f1] 51)).cell? ⟨w1.heap.size + 1 + 1, 0, none⟩ = some (.slice A i c') := by
              have h := alloc_cell HD.out.form.c0 (.cells #[.int .i64 x.f0, .string x.f1] 51)
              rw [show (formOf (l.take i)).order.length = i from hln] at h
              exact h
            have hfz : (wr.alloc (.cells #[.int .i64 x.f0, .string x.f1] 51)).frozen? ⟨w1.heap.size + 1 + 1, 0, none⟩ = false := (HBX.out.frozen (p := ⟨w1.heap.size + 1 + 1, 0, none⟩) hlw).trans HD.out.live
            have hx0 : (wr.alloc (.cells #[.int .i64 x.f0, .string x.f1] 51)).cell? ⟨wr.heap.size, 0, none⟩ = some (.int .i64 x.f0) := by simp [go_sem]
            have hx1 : (wr.alloc (.cells #[.int .i64 x.f0, .string x.f1] 51)).cell? ⟨wr.heap.size, 1, none⟩ = some (.string x.f1) := by simp [go_sem]
            clear HA hdrop
            go_wp2_with (go_at_call 16; refine (HH.out _ HBX.out).mono ?_; rintro e w' ⟨rfl, hh⟩; obtain rfl := hh.symm)
            refine start_ (n := 12) (S := fun w' => w'.cell? ⟨w1.heap.size + 1 + 1, 0, none⟩ = some (.slice A i c') ∧ w'.cell? ⟨wr.heap.size, 0, none⟩ = some (.int .i64 x.f0)) (ds := [8, 11]) #[false, false, false, false, false, false, false, false, false, false, false, false] (by kernel_rfl) rfl rfl ⟨hg0, hx0⟩ (fun hHeld => ?_)
            refine pure_ (i := 0) (N := some 43) (v := ?_) (a' := ?_) #[true, false, false, false, false, false, false, false, false, false, false, false] rfl rfl (by kernel_rfl) (fun _ _ _ h => h) (Or.inl ⟨by rfl, ?_⟩) ?_ ?_
            rotate_left
            · intro w'
              go_simp
              with_reducible rfl
            rotate_left
            · simp only [Act.put, List.setIfInBounds_toArray, List.set_cons_zero, List.set_cons_succ, i64_w, i32_w]
              rfl
            refine pure_ (i := 1) (N := some 44) (v := ?_) (a' := ?_) #[true, true, false, false, false, false, false, false, false, false, false, false] rfl rfl (by kernel_rfl) (fun _ _ _ h => h) (Or.inl ⟨by rfl, ?_⟩) ?_ ?_
            rotate_left
            · intro w'
              go_simp
              with_reducible rfl
            rotate_left
            · simp only [Act.put, List.setIfInBounds_toArray, List.set_cons_zero, List.set_cons_succ, i64_w, i32_w]
              rfl
            refine pure_ (i := 2) (N := some 45) (v := ?_) (a' := ?_) #[true, true, true, false, false, false, false, false, false, false, false, false] rfl rfl (by kernel_rfl) (fun _ _ _ h => h) (Or.inl ⟨by rfl, ?_⟩) ?_ ?_
            rotate_left
            · intro w'
              go_simp
              with_reducible rfl
            rotate_left
            · simp only [Act.put, List.setIfInBounds_toArray, List.set_cons_zero, List.set_cons_succ, i64_w, i32_w]
              rfl
            refine pure_ (i := 3) (N := some 46) (v := ?_) (a' := ?_) #[true, true, true, true, false, false, false, false, false, false, false, false] rfl rfl (by kernel_rfl) (fun _ _ _ h => h) (Or.inl ⟨by rfl, ?_⟩) ?_ ?_
            rotate_left
            · intro w'
              go_simp
              with_reducible rfl
            rotate_left
            · simp only [Act.put, List.setIfInBounds_toArray, List.set_cons_zero, List.set_cons_succ, i64_w, i32_w]
              rfl
            refine pure_ (i := 5) (N := some 48) (v := ?_) (a' := ?_) #[true, true, true, true, false, true, false, false, false, false, false, false] rfl rfl (by kernel_rfl) (fun _ _ _ h => h) (Or.inl ⟨by rfl, ?_⟩) ?_ ?_
            rotate_left
            · intro w'
              go_simp
              with_reducible rfl
            rotate_left
            · simp only [Act.put, List.setIfInBounds_toArray, List.set_cons_zero, List.set_cons_succ, i64_w, i32_w]
              rfl
            refine take_ (i := 4) (N := some 47) (v := ?_) (a' := ?_) #[true, true, true, true, true, true, false, false, false, false, false, false] rfl rfl (by kernel_rfl) (fun _ _ _ h => h) (Or.inl ⟨by rfl, ?_⟩) hHeld ?_ ?_
            rotate_left
            · rintro w' ⟨s0, s1⟩
              go_simp
              with_reducible rfl
            rotate_left
            · simp only [Act.put, List.setIfInBounds_toArray, List.set_cons_zero, List.set_cons_succ, i64_w, i32_w]
              rfl
            refine take_ (i := 6) (N := some 49) (v := ?_) (a' := ?_) #[true, true, true, true, true, true, true, false, false, false, false, false] rfl rfl (by kernel_rfl) (fun _ _ _ h => h) (Or.inl ⟨by rfl, ?_⟩) hHeld ?_ ?_
            rotate_left
            · rintro w' ⟨s0, s1⟩
              go_simp
              with_reducible rfl
            rotate_left
            · simp only [Act.put, List.setIfInBounds_toArray, List.set_cons_zero, List.set_cons_succ, i64_w, i32_w]
              rfl
            refine one_ (i := 7) (N := some 50) #[true, true, true, true, true, true, true, true, false, false, false, false] rfl rfl (by kernel_rfl) (by decide) (fun K hK => ?_)
            refine value_ (w1 := ?_) (v := ?_) (by rfl) rfl ?_ ?_
            rotate_left 2
            · go_simp
              constructor
              · rfl
              · rfl
            refine hK.out _ _ ⟨alloc_cell hHeld.1 _, alloc_cell hHeld.2 _⟩ (fun hHeld => ?_)
            clear hK K
            refine norm_ (a' := ?_) ?_ ?_
            rotate_left
            · show Act.put _ (some 50) _ = _
              simp only [Act.put, List.setIfInBounds_toArray, List.set_cons_zero, List.set_cons_succ, i64_w, i32_w]
              rfl
            refine last_ (i := 8) (N := some 51) #[true, true, true, true, true, true, true, true, true, false, false, false] rfl rfl (by kernel_rfl) (by decide) (fun K hK => ?_)
            refine Kd.R_append_step (Kd.int .i64) (w0 := (wr.alloc (.cells #[.int .i64 x.f0, .string x.f1] 51)).drew) (w1.heap.size + 3) (by rfl) (.tmp 47) (.tmp 50) 27 3 (.int .i64 0) 8 rfl Tryd.underlying27 info_int rfl (by decide) (by decide) (.slice A i c') (tagsOf (l.take i)) x.f0 [.int .i64 x.f0] (fun _ => True) (fun _ => False) (by rfl) (by show _ = Value.slice (some ⟨(wr.alloc (.cells #[.int .i64 x.f0, .string x.f1] 51)).heap.size, 0, none⟩) 1 1; rw [World.size_alloc]; rfl) rfl (fun _ h => h.elim) (fun _ _ => trivial) HRow.out (Below.refl _ _) hszW hl8 ?_
            intro v1 w3 hR3 hb3 hg3 hat3
            obtain ⟨A3, c3, rfl, hc3, -⟩ := Kd.R_reads hR3
            have hcg := (hb3.cell (p := ⟨w1.heap.size + 1 + 1, 0, none⟩) hlow).trans hg0
            have hfg := (hb3.frozen (p := ⟨w1.heap.size + 1 + 1, 0, none⟩) hlow).trans hfz
            refine hK.out _ _ ?_
            clear hK K
            refine norm_ (a' := ?_) ?_ ?_
            rotate_left
            · show Act.put _ (some 51) _ = _
              simp only [Act.put, List.setIfInBounds_toArray, List.set_cons_zero, List.set_cons_succ, i64_w, i32_w]
              rfl
            refine pure_ (i := 9) (N := some 52) (v := ?_) (a' := ?_) #[true, true, true, true, true, true, true, true, true, true, false, false] rfl rfl (by kernel_rfl) (fun _ _ _ h => h) (Or.inl ⟨by rfl, ?_⟩) ?_ ?_
            rotate_left
            · intro w'
              go_simp
              with_reducible rfl
            rotate_left
            · simp only [Act.put, List.setIfInBounds_toArray, List.set_cons_zero, List.set_cons_succ, i64_w, i32_w]
              rfl
            refine pure_ (i := 10) (N := some 53) (v := ?_) (a' := ?_) #[true, true, true, true, true, true, true, true, true, true, true, false] rfl rfl (by kernel_rfl) (fun _ _ _ h => h) (Or.inl ⟨by rfl, ?_⟩) ?_ ?_
            rotate_left
            · intro w'
              go_simp
              with_reducible rfl
            rotate_left
            · simp only [Act.put, List.setIfInBounds_toArray, List.set_cons_zero, List.set_cons_succ, i64_w, i32_w]
              rfl
            refine last_ (i := 11) (N := none) #[true, true, true, true, true, true, true, true, true, true, true, true] rfl rfl (by kernel_rfl) (by decide) (fun K hK => ?_)
            refine skip_ (w1 := ?_) (by rfl) rfl ?_ ?_
            rotate_left
            · go_simp
              rfl
            refine hK.out _ _ ?_
            clear hK K
            refine done_ (by kernel_rfl) ?_
            have hRl := Kd.R_lt HD.out.row
            have e3 : (tagsOf (l.take i) ++ [x.f0]).length = i + 1 := by rw [List.length_append, hln]; rfl
            rw [e3] at hR3
            have hdn : valsOf (l.take i) x.f0 = none := by simpa using cd'
            obtain ⟨w5, hrun5, hD5⟩ := read_step HD.out hlt x hx hdn ht hgd.2.2 hlen (fun y hy => i64ok_of (by have := hgood.out y hy; omega) (by have := hgood.out y hy; omega)) HBX.out.drew hR3 hb3
            have HD5 := Aside0.mk hD5
            have hnb : ∀ v, v = (Value.slice A i c').ownBlock → some wr.heap.size ≠ v := fun v hv e => by
              have := hRl wr.heap.size (by rw [← hv, ← e])
              omega
            have hng : wr.heap.size ≠ w1.heap.size + 1 + 1 := by omega
            have hg1 : (w3.setCell ⟨w1.heap.size + 1 + 1, 0, none⟩ (.slice A3 (i + 1) c3)).cell? ⟨w1.heap.size + 1 + 1, 1, none⟩ = some (.map (some w1.heap.size)) :=
              (World.cell?_setCell_other _ _ _ _ (by simp)).trans ((hb3.cell (p := ⟨w1.heap.size + 1 + 1, 1, none⟩) hlow).trans (alloc_cell HD.out.form.c1 (.cells #[.int .i64 x.f0, .string x.f1] 51)))
            have hx30 : (w3.setCell ⟨w1.heap.size + 1 + 1, 0, none⟩ (.slice A3 (i + 1) c3)).cell? ⟨wr.heap.size, 0, none⟩ = some (.int .i64 x.f0) :=
              (World.cell?_setCell_other _ _ _ _ (by intro e; injection e; omega)).trans (hg3.cell (a := ⟨wr.heap.size, 0, none⟩) hx0 (hnb _ rfl))
            have hx31 : (w3.setCell ⟨w1.heap.size + 1 + 1, 0, none⟩ (.slice A3 (i + 1) c3)).cell? ⟨wr.heap.size, 1, none⟩ = some (.string x.f1) :=
              (World.cell?_setCell_other _ _ _ _ (by intro e; injection e; omega)).trans (hg3.cell (a := ⟨wr.heap.size, 1, none⟩) hx1 (hnb _ rfl))
            clear hD5 hR3 hb3 hg3 hat3 hRl hnb HRow hx0 hx1 hg0 hfz hcg hfg HCr q0 q1
            go_wp2
            refine start_ (n := 9) (S := fun w' => w'.cell? ⟨w1.heap.size + 1 + 1, 1, none⟩ = some (.map (some w1.heap.size)) ∧ w'.cell? ⟨wr.heap.size, 0, none⟩ = some (.int .i64 x.f0) ∧ w'.cell? ⟨wr.heap.size, 1, none⟩ = some (.string x.f1)) (ds := [8]) #[false, false, false, false, false, false, false, false, false] (by kernel_rfl) rfl rfl ⟨hg1, hx30, hx31⟩ (fun hHeld => ?_)
            refine pure_ (i := 0) (N := some 54) (v := ?_) (a' := ?_) #[true, false, false, false, false, false, false, false, false] rfl rfl (by kernel_rfl) (fun _ _ _ h => h) (Or.inl ⟨by rfl, ?_⟩) ?_ ?_
            rotate_left
            · intro w'
              go_simp
              with_reducible rfl
            rotate_left
            · simp only [Act.put, List.setIfInBounds_toArray, List.set_cons_zero, List.set_cons_succ, i64_w, i32_w]
              rfl
            refine pure_ (i := 1) (N := some 55) (v := ?_) (a' := ?_) #[true, true, false, false, false, false, false, false, false] rfl rfl (by kernel_rfl) (fun _ _ _ h => h) (Or.inl ⟨by rfl, ?_⟩) ?_ ?_
            rotate_left
            · intro w'
              go_simp
              with_reducible rfl
            rotate_left
            · simp only [Act.put, List.setIfInBounds_toArray, List.set_cons_zero, List.set_cons_succ, i64_w, i32_w]
              rfl
            refine pure_ (i := 2) (N := some 56) (v := ?_) (a' := ?_) #[true, true, true, false, false, false, false, false, false] rfl rfl (by kernel_rfl) (fun _ _ _ h => h) (Or.inl ⟨by rfl, ?_⟩) ?_ ?_
            rotate_left
            · intro w'
              go_simp
              with_reducible rfl
            rotate_left
            · simp only [Act.put, List.setIfInBounds_toArray, List.set_cons_zero, List.set_cons_succ, i64_w, i32_w]
              rfl
            refine pure_ (i := 4) (N := some 58) (v := ?_) (a' := ?_) #[true, true, true, false, true, false, false, false, false] rfl rfl (by kernel_rfl) (fun _ _ _ h => h) (Or.inl ⟨by rfl, ?_⟩) ?_ ?_
            rotate_left
            · intro w'
              go_simp
              with_reducible rfl
            rotate_left
            · simp only [Act.put, List.setIfInBounds_toArray, List.set_cons_zero, List.set_cons_succ, i64_w, i32_w]
              rfl
            refine pure_ (i := 6) (N := some 60) (v := ?_) (a' := ?_) #[true, true, true, false, true, false, true, false, false] rfl rfl (by kernel_rfl) (fun _ _ _ h => h) (Or.inl ⟨by rfl, ?_⟩) ?_ ?_
            rotate_left
            · intro w'
              go_simp
              with_reducible rfl
            rotate_left
            · simp only [Act.put, List.setIfInBounds_toArray, List.set_cons_zero, List.set_cons_succ, i64_w, i32_w]
              rfl
            refine take_ (i := 3) (N := some 57) (v := ?_) (a' := ?_) #[true, true, true, true, true, false, true, false, false] rfl rfl (by kernel_rfl) (fun _ _ _ h => h) (Or.inl ⟨by rfl, ?_⟩) hHeld ?_ ?_
            rotate_left
            · rintro w' ⟨s0, s1, s2⟩
              go_simp
              with_reducible rfl
            rotate_left
            · simp only [Act.put, List.setIfInBounds_toArray, List.set_cons_zero, List.set_cons_succ, i64_w, i32_w]
              rfl
            refine take_ (i := 5) (N := some 59) (v := ?_) (a' := ?_) #[true, true, true, true, true, true, true, false, false] rfl rfl (by kernel_rfl) (fun _ _ _ h => h) (Or.inl ⟨by rfl, ?_⟩) hHeld ?_ ?_
            rotate_left
            · rintro w' ⟨s0, s1, s2⟩
              go_simp
              with_reducible rfl
            rotate_left
            · simp only [Act.put, List.setIfInBounds_toArray, List.set_cons_zero, List.set_cons_succ, i64_w, i32_w]
              rfl
            refine take_ (i := 7) (N := some 61) (v := ?_) (a' := ?_) #[true, true, true, true, true, true, true, true, false] rfl rfl (by kernel_rfl) (fun _ _ _ h => h) (Or.inl ⟨by rfl, ?_⟩) hHeld ?_ ?_
            rotate_left
            · rintro w' ⟨s0, s1, s2⟩
              go_simp
              with_reducible rfl
            rotate_left
            · simp only [Act.put, List.setIfInBounds_toArray, List.set_cons_zero, List.set_cons_succ, i64_w, i32_w]
              rfl
            refine last_ (i := 8) (N := none) #[true, true, true, true, true, true, true, true, true] rfl rfl (by kernel_rfl) (by decide) (fun K hK => ?_)
            refine skip_ (w1 := ?_) (by rfl) rfl ?_ ?_
            rotate_left
            · go_simp
              rfl
            refine hK.out _ _ ?_
            clear hK K
            refine done_ (by kernel_rfl) ?_
            go_wp2
            have htk2 : l.take (i + 1) = l.take i ++ [x] := by rw [List.take_succ_eq_append_getElem hlt, hx]
            refine ⟨⟨i + 1, A3, c3, by rw [show ((i + 1 : Nat) : Int) = (i : Int) + 1 by omega], by omega, HD5, ⟨by rw [htk2]; exact HA2.out⟩⟩, ?_⟩
            show l.length - ((i : Int) + 1).toNat < l.length - ((i : Int)).toNat
            omega
        · have k1 : decide ((i : Int) < (l.length : Int)) = false := by rw [decide_eq_false_iff_not]; omega
          have hie : i = l.length := by omega
          subst hie
          have HF := Aside0.mk HD.out.form
          have HW := Aside0.mk HD.out.low
          rw [List.take_length] at HF HA
          have HA2 : Aside0 (dupL [] l = false) := ⟨by rw [← HA.out, List.drop_eq_nil_of_le (Nat.le_refl _)]; rfl⟩
          have HRb : Aside0 (∀ a, A = some a → w1.heap.size + 3 ≤ a.block) := ⟨fun a ha => Kd.R_base HD.out.row a.block (by rw [ha]; rfl)⟩
          clear HA HD
          go_wp2
          go_ret2
          have hbs := HBw.out.size
          exact ReadIs.yes (by rw [HQ.out, if_neg (by rw [HA2.out]; decide)]) (HBw.out.trans (HW.out.mono hbs)) HF.out (by omega) (by show w.heap.size ≤ w1.heap.size + 1; omega) hbs (fun a ha => Nat.le_trans (by omega) (HRb.out a ha))
  · rw [if_pos (by omega)] at HQ
    have t1 : ((e : Int) != 0) = true := by rw [bne_iff_ne]; omega
    go_enter Tryd.func21, Tryd.ntmps21
    go_wp2_with (go_at_call 38; refine HFd.out.mono ?_; rintro en w1 ⟨v0, rfl, hR, hb⟩; obtain ⟨A, c, rfl, hc, hC⟩ := Kd.R_reads hR)
    go_ret2
    exact ReadIs.no HQ.out.symm hb
end Go.Proofs.YtbkpkfbdpmjgoaaDoor.T
end
