/- The functions that the law reaches, as plain Lean functions, and their contracts: texts merged. -/
import Derived.Laws.StructEq
import Derived.Test.YtgfigkfcmkdjdaaGreatDoorzAskDecodes2
import Derived.Test.YtgfigkfcmkdjdaaGreatDoorzAskDecodes0
import Derived.Test.YtgfigkfcmkdjdaaGreatDoorzAskDecodes1
import Derived.Test.YtgfigkfcmkdjdaaGreatDoorzAskDecodes3
import Derived.Test.YtgfigkfcmkdjdaaGreatDoorzAskDecodes5
import Derived.Test.YtgfigkfcmkdjdaaGreatDoorzAskDecodes21
import Derived.Test.YtgfigkfcmkdjdaaGreatDoorzAskDecodes22
import Derived.Test.YtgfigkfcmkdjdaaGreatDoorzAskDecodes4
import Derived.Test.YtgfigkfcmkdjdaaGreatDoorzAskDecodes6
import Derived.Test.YtgfigkfcmkdjdaaGreatDoorzAskDecodes15
import Derived.Test.YtgfigkfcmkdjdaaGreatDoorzAskDecodes16
import Derived.Test.YtgfigkfcmkdjdaaGreatDoorzAskDecodes17
import Derived.Test.YtgfigkfcmkdjdaaGreatDoorzAskDecodes18
import Derived.Test.YtgfigkfcmkdjdaaGreatDoorzAskDecodes19
import Derived.Test.YtgfigkfcmkdjdaaGreatDoorzAskDecodes20
import Derived.Test.YtgfigkfcmkdjdaaGreatDoorzAskDecodes7
import Derived.Test.YtgfigkfcmkdjdaaGreatDoorzAskDecodes8
import Derived.Test.YtgfigkfcmkdjdaaGreatDoorzAskDecodes9
section
namespace Go.Proofs.YtgfigkfcmkdjdaaGreatDoor.B
open Go.RowKit Go.Proofs.YtgfigkfcmkdjdaaGreatDoorW.PrintWords Go.Proofs.YtgfigkfcmkdjdaaGreatDoorW.PrintLast Go.Proofs.YtgfigkfcmkdjdaaGreatDoorW.PrintMore
attribute [local go_sem] max2_int min2_int max_two min_two max_three min_three max_four min_four   -- for this text's walks alone
set_option linter.unusedVariables false
set_option linter.unusedSimpArgs false
def spigotref08_Fields_p.l0 : Nat → ByteArray → List (S84) → Int → Option ((List (S84)) × Int × Int)
  | 0, _, _, _ => none
  | k + 1, x0, x5, x6 => if x6 < (x0.size : Int) then (if (x5.length : Int) ≥ 64 then (some (x5, x6, 3)) else (if 0 ≤ x6 then (if x6 ≤ (x0.size : Int) then ((spigotref08_Next.f (x0.extract (x6 : Int).toNat x0.size)).bind fun bt193 => (if bt193.2.2.2 = 0 then (if x5.length < 5864062014805 then (spigotref08_Fields_p.l0 k x0 (x5 ++ [(⟨bt193.1, bt193.2.1⟩ : S84)]) (wrap64 (x6 + bt193.2.2.1))) else (none)) else (some (x5, x6, bt193.2.2.2)))) else (none)) else (none))) else (some (x5, x6, 0))
def spigotref08_Fields_p.f (k : Nat) (a0 : ByteArray) : Option ((List (S84)) × Int × Int) := spigotref08_Fields_p.l0 k a0 ([] : List (S84)) 0
theorem spigotref08_Fields_p.mono_l : ∀ k, (∀ y0 y1 y2, LeO (spigotref08_Fields_p.l0 k y0 y1 y2) (spigotref08_Fields_p.l0 (k + 1) y0 y1 y2))
  | 0 => fun _ _ _ r h => by simp [spigotref08_Fields_p.l0] at h
  | k + 1 => by
    have ih0 := spigotref08_Fields_p.mono_l k
    · intro y0 y1 y2
      unfold spigotref08_Fields_p.l0
      repeat' first
      | (with_reducible exact ih0 _ _ _)
      | (with_reducible exact LeO.refl _)
      | (with_reducible exact LeO.none _)
      | (with_reducible refine LeO.ite ?_ ?_)
      | (with_reducible refine LeO.bind ?_ (fun _ => ?_))
      | exact ih0 _ _ _
      | exact LeO.none _
      | refine LeO.ite ?_ ?_
      | refine LeO.bind ?_ (fun _ => ?_)
theorem spigotref08_Fields_p.mono : ∀ a0 k, LeO (spigotref08_Fields_p.f k a0) (spigotref08_Fields_p.f (k + 1) a0) := by
  intro a0 k
  have ih0 := spigotref08_Fields_p.mono_l k
  unfold spigotref08_Fields_p.f
  repeat' first
      | (with_reducible exact ih0 _ _ _)
      | (with_reducible exact LeO.refl _)
      | (with_reducible exact LeO.none _)
      | (with_reducible refine LeO.ite ?_ ?_)
      | (with_reducible refine LeO.bind ?_ (fun _ => ?_))
      | exact ih0 _ _ _
      | exact LeO.none _
      | refine LeO.ite ?_ ?_
      | refine LeO.bind ?_ (fun _ => ?_)
set_option maxHeartbeats 8000000 in
set_option maxRecDepth 100000 in
theorem spigotref08_Fields_p.calls (k : Nat) (a0 : ByteArray) (r1 : List (S84)) (r2 : Int) (r3 : Int) (w : World) (h : spigotref08_Fields_p.f k a0 = some (r1, r2, r3)) :
    Calls Tryz.prog 18 #[.string a0] w fun e w' => ∃ v0_ : Value, e = .returned (.tuple #[v0_, .int .i64 r2, .int .i64 r3]) ∧ Kd.R k84 84 w' w.heap.size (fun _ => True) v0_ r1 ∧ Below w.heap.size w w' := by
  have hu84 := Tryz.underlying84
  have HB := Aside0.mk (Below.refl w.heap.size w)
  have H : (spigotref08_Fields_p.l0 k a0 ([] : List (S84)) 0) = some (r1, r2, r3) := h
  clear h
  have H' := Aside0.mk H
  clear H
  go_enter Tryz.func18, Tryz.ntmps18
  go_wp2
  go_loopg [5, 6] k (fun kq v5 v6 w' => ∃ (x5_1 : List (S84)) (x6_1 : Int), v6 = .int .i64 x6_1 ∧ Aside0 (spigotref08_Fields_p.l0 kq a0 x5_1 x6_1 = some (r1, r2, r3)) ∧ Aside0 (kq ≤ k) ∧ Aside0 (Kd.R k84 84 w' w.heap.size (fun _ => True) v5 x5_1) ∧ Aside0 (Below w.heap.size w w'))
  case atStart => exact ⟨(([] : List (S84))), (0), (by first | rfl | (simp; done) | (simp [*]; done)), H', ⟨Nat.le_refl _⟩, ⟨by first | exact Kd.R_nil _ _ _ _ _ | exact Kd.N_nil _ _ _ _ _ | exact Kd.V_nil _ _ _ _ _ | exact Kd.Q_nil _ _ _ _ _ | exact Kd.S_nil _ _ _ _ _⟩, ⟨by repeat (first | (with_reducible first | exact HB.out | apply below_alloc | apply pw_below_drewN | apply below_drew1) | exact HB.out)⟩⟩
  case round =>
    clear H'
    try clear c1
    obtain ⟨x5_1, x6_1, rfl, HA, HK1, HO_5, HB⟩ := hrel
    cases gk with
    | zero => exact absurd HA.out (by simp [spigotref08_Fields_p.l0])
    | succ k1 =>
      have H := HA.out
      clear HA
      simp only [spigotref08_Fields_p.l0] at H
      by_cases c2 : x6_1 < (a0.size : Int)
      · rw [if_pos c2] at H
        have c2b0 : decide (x6_1 < (a0.size : Int)) = true := decide_eq_true c2
        clear c2
        by_cases c3 : (x5_1.length : Int) ≥ 64
        · rw [if_pos c3] at H
          have c3b0 : decide (64 ≤ (x5_1.length : Int)) = true := decide_eq_true c3
          have c3b1 : decide (64 ≤ x5_1.length) = true := decide_eq_true (by omega)
          clear c3
          simp only [Option.some.injEq, Prod.mk.injEq] at H
          obtain ⟨rfl, rfl, rfl⟩ := H
          obtain ⟨Ao4, co4, eo4⟩ := Kd.R_slice HO_5.out
          subst eo4
          go_wp2
          go_ret3
          exact ⟨_, by first | rfl | (simp [errW_none, errW_some] <;> rfl) | (simp [*, errW_none, errW_some] <;> rfl), by (with_reducible repeat (first | apply Kd.R_alloc | apply Kd.R_drewN | apply Kd.R_drew)); exact HO_5.out, by repeat (first | (with_reducible first | exact HB.out | apply below_alloc | apply pw_below_drewN | apply below_drew1) | exact HB.out)⟩
        · rw [if_neg c3] at H
          have c3b0 : decide (64 ≤ (x5_1.length : Int)) = false := decide_eq_false c3
          have c3b1 : decide (64 ≤ x5_1.length) = false := decide_eq_false (by omega)
          clear c3
          by_cases c5 : 0 ≤ x6_1
          · rw [if_pos c5] at H
            have c5b0 := eq_true c5
            have c5b1 : decide (0 ≤ x6_1) = true := decide_eq_true c5
            clear c5
            by_cases c6 : x6_1 ≤ (a0.size : Int)
            · rw [if_pos c6] at H
              have c6b0 := eq_true c6
              have c6b1 : decide (x6_1 ≤ (a0.size : Int)) = true := decide_eq_true c6
              clear c6
              replace H := Option.bind_eq_some_iff.mp H
              obtain ⟨⟨t193, t194, t195, t196⟩, A70, H⟩ := H
              replace H : (if t196 = 0 then (if x5_1.length < 5864062014805 then (spigotref08_Fields_p.l0 k1 a0 (x5_1 ++ [(⟨t193, t194⟩ : S84)]) (wrap64 (x6_1 + t195))) else (none)) else (some (x5_1, x6_1, t196))) = some (r1, r2, r3) := H
              have A7 := Aside0.mk A70
              clear A70
              by_cases c8 : t196 = 0
              · rw [if_pos c8] at H
                have c8b0 : (t196 == 0) = true := beq_iff_eq.mpr c8
                have c8b1 : (t196 != 0) = false := bne_eq_false_iff_eq.mpr c8
                clear c8
                by_cases c9 : x5_1.length < 5864062014805
                · rw [if_pos c9] at H
                  have LMc9 := Aside0.mk c9
                  clear c9
                  obtain ⟨y198, hy198⟩ : ∃ y_ : List (S84), y_ = (x5_1 ++ [(⟨t193, t194⟩ : S84)]) := ⟨_, rfl⟩
                  replace H : (spigotref08_Fields_p.l0 k1 a0 y198 (wrap64 (x6_1 + t195))) = some (r1, r2, r3) := by first | (rw [hy198]; with_reducible exact H) | (have H2_ := (Option.bind_some _ _).symm.trans H; rw [hy198]; with_reducible exact H2_) | (have H2_ := (Option.bind_some _ _).symm.trans H; with_reducible exact H2_) | with_reducible exact H | (rw [hy198]; exact H) | exact H
                  have Ny198 := Aside0.mk hy198
                  clear hy198
                  have H' := Aside0.mk H
                  clear H
                  obtain ⟨Ao10, co10, eo10⟩ := Kd.R_slice HO_5.out
                  subst eo10
                  go_wp2_with (first | ((with_reducible refine gate_callee (f := 49) rfl ?_); refine goesL_ (some 23) rfl rfl Tryz.func49 (by kernel_rfl) rfl #[.string (a0.extract (x6_1 : Int).toNat a0.size)] rfl (by (try simp only [List.map_toArray, List.map_cons, List.map_nil]); first | done | rfl | (simp only [List.length_drop, List.length_take]; rfl)) ?_; (with_reducible refine (spigotref08_Next.calls (a0.extract (x6_1 : Int).toNat a0.size) t193 t194 t195 t196 _ A7.out).mono ?_); rintro e w11 ⟨rfl, hb⟩; refine ⟨_, rfl, ?_⟩; have n0_ := Aside0.mk (Kd.R_below (by (with_reducible repeat (first | apply Kd.R_alloc | apply Kd.R_drewN | apply Kd.R_drew)); exact HO_5.out) hb); have n1_ := Aside0.mk (below_step (by repeat (first | (with_reducible first | exact HB.out | apply below_alloc | apply pw_below_drewN | apply below_drew1) | exact HB.out)) hb); clear HO_5; clear HB; have HO_5 := n0_; have HB := n1_; clear n0_ n1_; (try clear hb); (try clear hb2); (try clear hk); (try clear hi)) | ((with_reducible refine gate_dst (N := 7) rfl ?_); refine box_event ?hg (N := 7) ?hd (cs := #[.int .i64 0, .string (⟨#[]⟩ : ByteArray)]) (t := 84) ?hr ?_; (case hd => rfl); (case hg => rfl); (case hr => first | (go_simp; done) | (go_simp; rfl)); intro gb197 hg w12 hbox hb; have n0_ := Aside0.mk (Kd.R_below (Kd.R_elderB (by (with_reducible repeat (first | apply Kd.R_alloc | apply Kd.R_drewN | apply Kd.R_drew)); exact HO_5.out) gb197 (Nat.le_of_eq hg.symm)) hb); have n1_ := Aside0.mk (below_step (by repeat (first | (with_reducible first | exact HB.out | apply below_alloc | apply pw_below_drewN | apply below_drew1) | exact HB.out)) hb); have n2_ := Aside0.mk (hbox); have n3_ := Aside0.mk ((by rw [hg]; exact (below_size (by repeat (first | (with_reducible first | exact HB.out | apply below_alloc | apply pw_below_drewN | apply below_drew1) | exact HB.out))) : w.heap.size ≤ gb197)); have n4_ := Aside0.mk ((by rw [hg]; exact (below_size (by repeat (first | (with_reducible first | exact HB.out | apply below_alloc | apply pw_below_drewN | apply below_drew1) | exact HB.out))) : w.heap.size ≤ gb197)); clear HO_5; clear HB; have HO_5 := n0_; have HB := n1_; have BK197 := n2_; have GW197 := n3_; have GE197 := n4_; clear n0_ n1_ n2_ n3_ n4_; clear hb hbox hg; have hcz13_0 : w12.cell? ⟨gb197, 0, none⟩ = some (.int .i64 0) := (blk_cell BK197.out 0).trans rfl; have hcz13_1 : w12.cell? ⟨gb197, 1, none⟩ = some (.string (⟨#[]⟩ : ByteArray)) := (blk_cell BK197.out 1).trans rfl; have hfz13_0 := blk_frozen BK197.out 0; have hfz13_1 := blk_frozen BK197.out 1) | ((with_reducible refine gate_builtin (b := .append) (xs := #[.tmp 32, .tmp 34]) rfl ?_); at_builtin; refine Kd.R_append k84 (w0 := w) w.heap.size rfl (.tmp 32) (.tmp 34) 45 84 (.agg #[(.int .i64 0), (.string ⟨#[]⟩)]) 24 rfl Tryz.underlying45 info84 rfl (by decide) (by omega) (.slice Ao10 x5_1.length co10) x5_1 (⟨t193, t194⟩ : S84) [.int .i64 t193, .string t194] (fun k_ => k_ ≠ gb197) (fun _ => False) rfl (by first | (go_simp; done) | (go_simp; rfl)) ?aP (fun _ hk => hk.elim) ?aF ?aO ?aB ?aS ?aL ?_; (case aP => exact k84_mkM _ _ _ (⟨t193, t194⟩ : S84)); (case aB => exact (by repeat (first | (with_reducible first | exact HB.out | apply below_alloc | apply pw_below_drewN | apply below_drew1 | refine below_set ?_ GE197.out) | exact HB.out))); (case aF => exact (fun k_ hk => Kd.freshB (g := gb197) (o := .cells #[.int .i64 t193, .string t194] 84 (0, 0)) (by (with_reducible repeat (first | refine blk_drewN ?_ _ | refine blk_drew ?_ | refine blk_alloc ?_ _)); refine blk_put (cs := #[.int .i64 t193, .string (⟨#[]⟩ : ByteArray)]) ?_ 1 _ rfl; (with_reducible repeat (first | refine blk_drewN ?_ _ | refine blk_drew ?_ | refine blk_alloc ?_ _)); refine blk_put (cs := #[.int .i64 0, .string (⟨#[]⟩ : ByteArray)]) ?_ 0 _ rfl; (with_reducible repeat (first | refine blk_drewN ?_ _ | refine blk_drew ?_ | refine blk_alloc ?_ _)); exact BK197.out) k_ hk)); (case aO => exact (by (with_reducible repeat (first | apply Kd.R_alloc | apply Kd.R_drewN | apply Kd.R_drew)); exact Kd.R_mono (Kd.R_far (p := ⟨gb197, 1, none⟩) (Kd.R_far (p := ⟨gb197, 0, none⟩) (Kd.R_mono HO_5.out (fun k_ hk => (⟨hk, hk.2⟩ : _ ∧ k_ ≠ gb197))) (fun _ hk => hk.2) (.int .i64 t193)) (fun _ hk => hk.2) (.string t194)) (fun _ hk => hk.1.2))); (case aS => exact (below_size (by repeat (first | (with_reducible first | exact HB.out | apply below_alloc | apply pw_below_drewN | apply below_drew1 | refine below_set ?_ GE197.out) | exact HB.out)))); (case aL => have := LMc9.out; omega); intro v199 w14 ho hb hg hat; rw [← Ny198.out] at ho; have n0_ := Aside0.mk (blk_grown (g := gb197) (o := .cells #[.int .i64 t193, .string t194] 84 (0, 0)) (by (with_reducible repeat (first | refine blk_drewN ?_ _ | refine blk_drew ?_ | refine blk_alloc ?_ _)); refine blk_put (cs := #[.int .i64 t193, .string (⟨#[]⟩ : ByteArray)]) ?_ 1 _ rfl; (with_reducible repeat (first | refine blk_drewN ?_ _ | refine blk_drew ?_ | refine blk_alloc ?_ _)); refine blk_put (cs := #[.int .i64 0, .string (⟨#[]⟩ : ByteArray)]) ?_ 0 _ rfl; (with_reducible repeat (first | refine blk_drewN ?_ _ | refine blk_drew ?_ | refine blk_alloc ?_ _)); exact BK197.out) hg (Kd.R_away HO_5.out (fun _ hk => hk.2))); have n1_ := Aside0.mk (hb); have n2_ := Aside0.mk (ho); clear BK197; clear HB; clear HO_5; have BK197 := n0_; have HB := n1_; have HO200 := n2_; clear n0_ n1_ n2_; clear ho hb hg hat))
                  go_roundg k1
                  case measure => have := HK1.out; omega
                  case rel => exact ⟨(y198), (wrap64 (x6_1 + t195)), (by first | rfl | (simp; done) | (simp [*]; done)), H', ⟨by have := HK1.out; omega⟩, ⟨by (with_reducible repeat (first | apply Kd.R_alloc | apply Kd.R_drewN | apply Kd.R_drew)); exact Kd.R_mono HO200.out (fun _ hk => trivial)⟩, ⟨by repeat (first | (with_reducible first | exact HB.out | apply below_alloc | apply pw_below_drewN | apply below_drew1 | refine below_set ?_ GE197.out) | exact HB.out)⟩⟩
                · rw [if_neg c9] at H
                  exact absurd H (by simp)
              · rw [if_neg c8] at H
                have c8b0 : (t196 == 0) = false := beq_eq_false_iff_ne.mpr c8
                have c8b1 : (t196 != 0) = true := bne_iff_ne.mpr c8
                simp only [Option.some.injEq, Prod.mk.injEq] at H
                obtain ⟨rfl, rfl, rfl⟩ := H
                obtain ⟨Ao15, co15, eo15⟩ := Kd.R_slice HO_5.out
                subst eo15
                go_wp2_with (first | ((with_reducible refine gate_callee (f := 49) rfl ?_); refine goesL_ (some 23) rfl rfl Tryz.func49 (by kernel_rfl) rfl #[.string (a0.extract (x6_1 : Int).toNat a0.size)] rfl (by (try simp only [List.map_toArray, List.map_cons, List.map_nil]); first | done | rfl | (simp only [List.length_drop, List.length_take]; rfl)) ?_; (with_reducible refine (spigotref08_Next.calls (a0.extract (x6_1 : Int).toNat a0.size) t193 t194 t195 t196 _ A7.out).mono ?_); rintro e w16 ⟨rfl, hb⟩; refine ⟨_, rfl, ?_⟩; have n0_ := Aside0.mk (Kd.R_below (by (with_reducible repeat (first | apply Kd.R_alloc | apply Kd.R_drewN | apply Kd.R_drew)); exact HO_5.out) hb); have n1_ := Aside0.mk (below_step (by repeat (first | (with_reducible first | exact HB.out | apply below_alloc | apply pw_below_drewN | apply below_drew1) | exact HB.out)) hb); clear HO_5; clear HB; have HO_5 := n0_; have HB := n1_; clear n0_ n1_; (try clear hb); (try clear hb2); (try clear hk); (try clear hi)) | ((with_reducible refine gate_dst (N := 7) rfl ?_); refine box_event ?hg (N := 7) ?hd (cs := #[.int .i64 0, .string (⟨#[]⟩ : ByteArray)]) (t := 84) ?hr ?_; (case hd => rfl); (case hg => rfl); (case hr => first | (go_simp; done) | (go_simp; rfl)); intro gb197 hg w17 hbox hb; have n0_ := Aside0.mk (Kd.R_below (Kd.R_elderB (by (with_reducible repeat (first | apply Kd.R_alloc | apply Kd.R_drewN | apply Kd.R_drew)); exact HO_5.out) gb197 (Nat.le_of_eq hg.symm)) hb); have n1_ := Aside0.mk (below_step (by repeat (first | (with_reducible first | exact HB.out | apply below_alloc | apply pw_below_drewN | apply below_drew1) | exact HB.out)) hb); have n2_ := Aside0.mk (hbox); have n3_ := Aside0.mk ((by rw [hg]; exact (below_size (by repeat (first | (with_reducible first | exact HB.out | apply below_alloc | apply pw_below_drewN | apply below_drew1) | exact HB.out))) : w.heap.size ≤ gb197)); have n4_ := Aside0.mk ((by rw [hg]; exact (below_size (by repeat (first | (with_reducible first | exact HB.out | apply below_alloc | apply pw_below_drewN | apply below_drew1) | exact HB.out))) : w.heap.size ≤ gb197)); clear HO_5; clear HB; have HO_5 := n0_; have HB := n1_; have BK197 := n2_; have GW197 := n3_; have GE197 := n4_; clear n0_ n1_ n2_ n3_ n4_; clear hb hbox hg; have hcz18_0 : w17.cell? ⟨gb197, 0, none⟩ = some (.int .i64 0) := (blk_cell BK197.out 0).trans rfl; have hcz18_1 : w17.cell? ⟨gb197, 1, none⟩ = some (.string (⟨#[]⟩ : ByteArray)) := (blk_cell BK197.out 1).trans rfl; have hfz18_0 := blk_frozen BK197.out 0; have hfz18_1 := blk_frozen BK197.out 1))
                go_ret3
                exact ⟨_, by first | rfl | (simp [errW_none, errW_some] <;> rfl) | (simp [*, errW_none, errW_some] <;> rfl), by (with_reducible repeat (first | apply Kd.R_alloc | apply Kd.R_drewN | apply Kd.R_drew)); exact Kd.R_mono (Kd.R_far (p := ⟨gb197, 1, none⟩) (Kd.R_far (p := ⟨gb197, 0, none⟩) (Kd.R_mono HO_5.out (fun k_ hk => (⟨hk, hk.2⟩ : _ ∧ k_ ≠ gb197))) (fun _ hk => hk.2) (.int .i64 t193)) (fun _ hk => hk.2) (.string t194)) (fun _ hk => trivial), by repeat (first | (with_reducible first | exact HB.out | apply below_alloc | apply pw_below_drewN | apply below_drew1 | refine below_set ?_ GE197.out) | exact HB.out)⟩
            · rw [if_neg c6] at H
              exact absurd H (by simp)
          · rw [if_neg c5] at H
            exact absurd H (by simp)
      · rw [if_neg c2] at H
        have c2b0 : decide (x6_1 < (a0.size : Int)) = false := decide_eq_false c2
        clear c2
        simp only [Option.some.injEq, Prod.mk.injEq] at H
        obtain ⟨rfl, rfl, rfl⟩ := H
        go_wp2
        go_ret3
        exact ⟨_, by first | rfl | (simp [errW_none, errW_some] <;> rfl) | (simp [*, errW_none, errW_some] <;> rfl), by (with_reducible repeat (first | apply Kd.R_alloc | apply Kd.R_drewN | apply Kd.R_drew)); exact HO_5.out, by repeat (first | (with_reducible first | exact HB.out | apply below_alloc | apply pw_below_drewN | apply below_drew1) | exact HB.out)⟩
def mkG (p : Nat × List UInt8) : S84 := ⟨(p.1 : Int), ⟨p.2.toArray⟩⟩
theorem spigotref08_Fields_loop (s : ByteArray) (hs : s.size ≤ big) (d : Nat) : ∀ (k pos : Nat) (xs : List S84), pos ≤ s.size → s.size - pos ≤ d → d < k → xs.length ≤ 64 →
    spigotref08_Fields_p.l0 k s xs (pos : Int) = some (xs ++ (fieldsL (s.data.toList.drop pos) xs.length pos).1.map mkG, ((fieldsL (s.data.toList.drop pos) xs.length pos).2.1 : Int), ((fieldsL (s.data.toList.drop pos) xs.length pos).2.2 : Int)) := by
  induction d with
  | zero =>
    intro k pos xs hp hd hk hx
    obtain ⟨k, rfl⟩ : ∃ m, k = m + 1 := ⟨k - 1, by omega⟩
    simp only [spigotref08_Fields_p.l0]
    rw [if_neg (by omega), drop_nil_of s pos (by omega), fieldsL_nil]
    simp
  | succ d ih =>
    intro k pos xs hp hd hk hx
    obtain ⟨k, rfl⟩ : ∃ m, k = m + 1 := ⟨k - 1, by omega⟩
    by_cases hlt : pos < s.size
    · have hne := drop_ne_nil s pos hlt
      simp only [spigotref08_Fields_p.l0]
      rw [if_pos (by omega)]
      by_cases h64 : xs.length = 64
      · rw [if_pos (by omega), fieldsL_full _ hne _ _ (by omega)]; simp
      · rw [if_neg (by omega), if_pos (by omega), if_pos (by omega), Int.toNat_natCast]
        unfold spigotref08_Next.f
        rw [if_pos (by rw [ByteArray.size_extract]; omega), drop_list]
        simp only [Option.bind_some]
        by_cases he : (nextL (s.data.toList.drop pos)).2.2 = 0
        · have h1 := nextL_pos _ he
          have h2 := nextL_le _ he
          rw [List.length_drop, size_list] at h2
          unfold big at hs
          rw [if_pos (by omega), if_pos (by omega), fieldsL_next _ hne _ _ (by omega) he, w64 (by omega) (by omega), ← Int.natCast_add, ih k (pos + (nextL (s.data.toList.drop pos)).2.1) _ (by omega) (by omega) (by omega) (by simp; omega)]
          simp [List.drop_drop, mkG]
        · rw [if_neg (by omega), fieldsL_err _ hne _ _ (by omega) he]; simp
    · simp only [spigotref08_Fields_p.l0]
      rw [if_neg (by omega), drop_nil_of s pos hlt, fieldsL_nil]
      simp
def spigotref08_Fields.f (a0 : ByteArray) : Option ((List S84) × Int × Int) := if a0.size ≤ big then some ((fieldsL a0.data.toList 0 0).1.map mkG, ((fieldsL a0.data.toList 0 0).2.1 : Int), ((fieldsL a0.data.toList 0 0).2.2 : Int)) else none
theorem spigotref08_Fields.calls (a0 : ByteArray) (r1 : List S84) (r2 : Int) (r3 : Int) (w : World) (h : spigotref08_Fields.f a0 = some (r1, r2, r3)) :
    Calls Tryz.prog 18 #[.string a0] w fun e w' => ∃ v0_ : Value, e = .returned (.tuple #[v0_, .int .i64 r2, .int .i64 r3]) ∧ Kd.R k84 84 w' w.heap.size (fun _ => True) v0_ r1 ∧ Below w.heap.size w w' := by
  unfold spigotref08_Fields.f at h
  by_cases c : a0.size ≤ big
  · rw [if_pos c] at h
    refine spigotref08_Fields_p.calls (a0.size + 1) a0 r1 r2 r3 w (Eq.trans ?_ h)
    have := spigotref08_Fields_loop a0 c a0.size (a0.size + 1) 0 [] (by omega) (by omega) (by omega) (by simp)
    simpa [spigotref08_Fields_p.f] using this
  · rw [if_neg c] at h; cases h
end Go.Proofs.YtgfigkfcmkdjdaaGreatDoor.B
end
section
namespace Go.Proofs.YtgfigkfcmkdjdaaGreatDoor.B
open Go.RowKit Go.Proofs.YtgfigkfcmkdjdaaGreatDoorW.PrintWords Go.Proofs.YtgfigkfcmkdjdaaGreatDoorW.PrintLast Go.Proofs.YtgfigkfcmkdjdaaGreatDoorW.PrintMore
attribute [local go_sem] max2_int min2_int max_two min_two max_three min_three max_four min_four   -- for this text's walks alone
set_option linter.unusedVariables false
set_option linter.unusedSimpArgs false
theorem valsOf_isSome (l : List S74) (t : Int) : (valsOf l t).isSome = true ↔ t ∈ tagsOf l := by
  unfold valsOf tagsOf
  rw [Option.isSome_map, List.find?_isSome, List.mem_map]
  constructor
  · rintro ⟨x, hx, e⟩; exact ⟨x, hx, by simpa using e⟩
  · rintro ⟨x, hx, e⟩; exact ⟨x, hx, by simpa using e⟩
def RefReadIs (L : List S74) (r : Option FormS × Int) (w : World) (e : Ending) (w' : World) : Prop := Below w.heap.size w w' ∧
  match r with
  | (none, x) => e = .returned (.tuple #[.pointer none, .int .i64 x])
  | (some F, x) => ∃ g A c, e = .returned (.tuple #[.pointer (some ⟨g, 0, none⟩), .int .i64 x]) ∧ RefIs (fun j => j < g) g A c L F 0 w' ∧ w.heap.size ≤ g
theorem RefReadIs.no {L : List S74} {r : Option FormS × Int} {w w' : World} {x : Int} (h : (none, x) = r) (hb : Below w.heap.size w w') : RefReadIs L r w (.returned (.tuple #[.pointer none, .int .i64 x])) w' := by
  subst h; exact ⟨hb, rfl⟩
theorem RefReadIs.yes {L : List S74} {r : Option FormS × Int} {w w' : World} {x : Int} {F : FormS} {g : Nat} {A : Option Addr} {c : Nat} (h : (some F, x) = r) (hb : Below w.heap.size w w') (hf : RefIs (fun j => j < g) g A c L F 0 w') (h1 : w.heap.size ≤ g) :
    RefReadIs L r w (.returned (.tuple #[.pointer (some ⟨g, 0, none⟩), .int .i64 x])) w' := by
  subst h; exact ⟨hb, g, A, c, rfl, hf, h1⟩
theorem RefIs.fresh {A : Option Addr} {c : Nat} {L : List S74} {w : World} (hC : Kd.C k84 w A L.length (L.map refF)) (hc : L.length ≤ c) :
    RefIs (fun j => j < w.heap.size) w.heap.size A c L (formOf L) 0 (w.alloc (.cells #[.slice A L.length c, .slice none 0 0, .int .i64 0, .int .i64 0] 100)) := by
  refine ⟨by simp [go_sem], ⟨.slice none 0 0, [], by simp [go_sem], Kd.R_nil _ _ _ _ _, Nat.le_refl _, fun t => by simp [formOf]⟩, by simp [go_sem, formOf], by simp [go_sem, formOf], by simp [go_sem], by simp [go_sem], by simp [go_sem], ⟨w, Nat.le_refl _, (Below.refl _ _).alloc (Nat.le_refl _) _, hC⟩, hc, rfl, rfl, fun j hj => by rw [World.size_alloc]; omega, Nat.lt_irrefl _, fun j hj => hj⟩
set_option maxRecDepth 100000 in
set_option maxHeartbeats 4000000 in
theorem ref_read_walk (s : ByteArray) (w : World) (hs : s.size ≤ 140737488351232) :
    Calls Tryz.prog 33 #[.string s] w (RefReadIs (fieldsB s) (readB s) w) := by
  have hfd : spigotref08_Fields.f s = some ((fieldsB s).map refF, ((fieldsL s.data.toList 0 0).2.1 : Int), ((fieldsL s.data.toList 0 0).2.2 : Int)) := by
    unfold spigotref08_Fields.f; rw [if_pos (by unfold big; omega)]
    unfold fieldsB
    rw [List.map_map]; rfl
  have HFd := Aside0.mk (spigotref08_Fields.calls s _ _ _ w hfd)
  clear hfd
  have HQ : Aside0 (readB s = if (fieldsL s.data.toList 0 0).2.2 ≠ 0 then (none, ((fieldsL s.data.toList 0 0).2.2 : Int)) else if (fieldsB s).length = 0 ∨ (rd_T74 (fieldsB s) 0).f0 ≠ 35 then (none, 110) else if dupL [] (fieldsB s) = true then (none, 111) else (some (formOf (fieldsB s)), 0)) := ⟨rfl⟩
  generalize readB s = rr at *
  have hlen := fieldsB_len s
  generalize fieldsB s = l at *
  generalize (fieldsL s.data.toList 0 0).2.2 = e at *
  generalize (fieldsL s.data.toList 0 0).2.1 = pl at *
  have hml : (l.map refF).length = l.length := List.length_map _
  by_cases c1 : e = 0
  · rw [if_neg (by omega)] at HQ
    have t1 : ((e : Int) != 0) = false := by rw [c1]; rfl
    by_cases c3 : l.length = 0
    · rw [if_pos (.inl c3)] at HQ
      have t2 : ((l.length : Int) == 0) = true := by rw [c3]; rfl
      clear c1 c3
      go_enter Tryz.func33, Tryz.ntmps33
      go_wp2_with (go_at_call 18; refine HFd.out.mono ?_; rintro en w1 ⟨v0, rfl, hR, hb⟩; obtain ⟨A, c, rfl, hc, hC⟩ := Kd.R_reads hR; rw [hml]; rw [hml] at hc hC)
      go_ret2
      exact RefReadIs.no HQ.out.symm hb
    · have t2 : ((l.length : Int) == 0) = false := by rw [beq_eq_false_iff_ne]; omega
      have h0 : 0 < l.length := by omega
      have hr0 : rd_T84 (l.map refF) 0 = refF l[0] := rdR_at l 0 h0
      have hr1 : rd_T74 l 0 = l[0] := by simp [rd_T74, h0]
      rw [hr1] at HQ
      by_cases c4 : l[0].f0 = 35
      · rw [if_neg (fun g => g.elim c3 (fun g => g c4))] at HQ
        have t3 : (l[0].f0 != 35) = false := by rw [c4]; rfl
        have k0 : (0 : Int) < (l.length : Int) := by omega
        have hcl : Tryz.prog.cellsOf 84 = 2 := by kernel_rfl
        clear c1 c3 c4 hr1
        go_enter Tryz.func33, Tryz.ntmps33
        go_wp2_with (go_at_call 18; refine HFd.out.mono ?_; rintro en w1 ⟨v0, rfl, hR, hb⟩; obtain ⟨A, c, rfl, hc, hC⟩ := Kd.R_reads hR; rw [hml]; rw [hml] at hc hC; obtain ⟨ad, hA, h00, -⟩ := at_T84 hC 0 (by omega) (by omega); subst hA; rw [hr0] at h00; have h01 : w1.cell? ad = some (.int .i64 l[0].f0) := h00; have HC := Aside0.mk hC; have HBw := Aside0.mk hb; clear hC hR hb h00)
        have HHC := Aside0.mk hc
        clear h01 hc
        go_loopw [7] (fun v7 wr => ∃ i q : Nat, v7 = .int .i64 (i : Int) ∧ i ≤ l.length ∧ wr = w1.drewN q ∧ Aside0 (dupL (l.take i) (l.drop i) = dupL [] l)) (fun v7 _ => l.length - (intOf v7).toNat)
        case atStart => exact ⟨0, 0, rfl, Nat.zero_le _, rfl, ⟨rfl⟩⟩
        case round =>
          obtain ⟨i, q, rfl, hi, rfl, HA⟩ := hrel
          by_cases hlt : i < l.length
          · have k1 : decide ((i : Int) < (l.length : Int)) = true := by rw [decide_eq_true_eq]; omega
            have k2 : (0 : Int) ≤ (i : Int) ∧ (i : Int) < (l.length : Int) := by omega
            have hti : ((i : Int)).toNat = i := Int.toNat_natCast i
            obtain ⟨ad', hA', q0, -⟩ := at_T84 HC.out (i : Int) (by omega) (by omega)
            obtain rfl : ad = ad' := Option.some.inj hA'
            rw [rdR_at l i hlt, hti] at q0
            have q0' : w1.cell? (ad.add (i * 2)) = some (.int .i64 l[i].f0) := q0
            rw [List.drop_eq_getElem_cons hlt] at HA
            have HTk : Aside0 (l.take (i + 1) = l.take i ++ [l[i]]) := ⟨List.take_succ_eq_append_getElem hlt⟩
            clear q0
            generalize l[i] = x at *
            have q1' : w1.cell? (ad.add (i * 2)) = some (.int .i64 x.f0) := q0'
            clear q0'
            go_wp2
            go_loopw [8] (fun v8 wr => ∃ j q : Nat, v8 = .int .i64 (j : Int) ∧ j ≤ i ∧ wr = w1.drewN q ∧ Aside0 (x.f0 ∉ tagsOf (l.take j))) (fun v8 _ => i - (intOf v8).toNat)
            case atStart => exact ⟨0, q, rfl, Nat.zero_le _, rfl, ⟨by simp [tagsOf]⟩⟩
            case round =>
              obtain ⟨j, q2, rfl, hj, rfl, HN⟩ := hrel
              by_cases hjl : j < i
              · have hjll : j < l.length := by omega
                have m1 : decide ((j : Int) < (i : Int)) = true := by rw [decide_eq_true_eq]; omega
                have m2 : (0 : Int) ≤ (j : Int) ∧ (j : Int) < (l.length : Int) := by omega
                have htj : ((j : Int)).toNat = j := Int.toNat_natCast j
                obtain ⟨ad', hA', q0, -⟩ := at_T84 HC.out (j : Int) (by omega) (by omega)
                obtain rfl : ad = ad' := Option.some.inj hA'
                rw [rdR_at l j hjll, htj] at q0
                have q2' : w1.cell? (ad.add (j * 2)) = some (.int .i64 l[j].f0) := q0
                have HTj : Aside0 (tagsOf (l.take (j + 1)) = tagsOf (l.take j) ++ [l[j].f0]) := ⟨by unfold tagsOf; rw [List.take_succ_eq_append_getElem hjll, List.map_append]; rfl⟩
                have HIn : Aside0 (l[j].f0 ∈ tagsOf (l.take i)) := ⟨List.mem_map.2 ⟨l[j], by rw [List.mem_take_iff_getElem]; exact ⟨j, by omega, rfl⟩, rfl⟩⟩
                clear q0 hA'
                generalize l[j].f0 = y at *
                by_cases cy : y = x.f0
                · have HD : Aside0 (dupL [] l = true) := ⟨by rw [← HA.out, dupL_cons, if_pos ((valsOf_isSome _ _).2 (cy ▸ HIn.out))]⟩
                  have n1 : (y == x.f0) = true := by rw [cy]; exact beq_self_eq_true _
                  clear HA HTk HN HTj HIn cy
                  go_wp2
                  go_quiet (fail)
                  go_wp2
                  go_ret2
                  exact RefReadIs.no (by rw [HQ.out, if_pos HD.out]) (pw_below_drewN (pw_below_drewN HBw.out _) _)
                · have HN2 : Aside0 (x.f0 ∉ tagsOf (l.take (j + 1))) := ⟨by
                    rw [HTj.out, List.mem_append, List.mem_singleton]
                    exact fun g => g.elim HN.out (fun g => cy g.symm)⟩
                  have n1 : (y == x.f0) = false := by rw [beq_eq_false_iff_ne]; exact cy
                  clear HN HTj HIn cy
                  go_wp2
                  go_quiet (fail)
                  go_wp2
                  refine ⟨⟨j + 1, _, by rw [show ((j + 1 : Nat) : Int) = (j : Int) + 1 by omega], by omega, rfl, HN2⟩, ?_⟩
                  show i - ((j : Int) + 1).toNat < i - ((j : Int)).toNat
                  omega
              · have m1 : decide ((j : Int) < (i : Int)) = false := by rw [decide_eq_false_iff_not]; omega
                obtain rfl : j = i := by omega
                have HA2 : Aside0 (dupL (l.take (j + 1)) (l.drop (j + 1)) = dupL [] l) := ⟨by
                  have h1 := HA.out
                  rw [dupL_cons, if_neg (fun g => HN.out ((valsOf_isSome _ _).1 g)), ← HTk.out] at h1
                  exact h1⟩
                clear HA HTk HN
                go_wp2
                refine ⟨⟨j + 1, _, by rw [show ((j + 1 : Nat) : Int) = (j : Int) + 1 by omega], by omega, rfl, HA2⟩, ?_⟩
                show l.length - ((j : Int) + 1).toNat < l.length - ((j : Int)).toNat
                omega
          · have k1 : decide ((i : Int) < (l.length : Int)) = false := by rw [decide_eq_false_iff_not]; omega
            have hie : i = l.length := by omega
            have HD : Aside0 (dupL [] l = false) := ⟨by rw [← HA.out, List.drop_eq_nil_of_le (by omega)]; rfl⟩
            clear HA hie
            go_wp2
            go_ret2
            have hbs := HBw.out.size
            exact RefReadIs.yes (by rw [HQ.out, if_neg (by rw [HD.out]; decide)]) ((pw_below_drewN HBw.out q).alloc hbs _) (RefIs.fresh (w := w1.drewN q) (Kd.C_drewN HC.out q) HHC.out) hbs
      · rw [if_pos (.inr c4)] at HQ
        have t3 : (l[0].f0 != 35) = true := by rw [bne_iff_ne]; exact c4
        have k0 : (0 : Int) < (l.length : Int) := by omega
        have hcl : Tryz.prog.cellsOf 84 = 2 := by kernel_rfl
        clear c1 c3 c4 hr1
        go_enter Tryz.func33, Tryz.ntmps33
        go_wp2_with (go_at_call 18; refine HFd.out.mono ?_; rintro en w1 ⟨v0, rfl, hR, hb⟩; obtain ⟨A, c, rfl, hc, hC⟩ := Kd.R_reads hR; rw [hml]; rw [hml] at hc hC; obtain ⟨ad, hA, h00, -⟩ := at_T84 hC 0 (by omega) (by omega); subst hA; rw [hr0] at h00; have h01 : w1.cell? ad = some (.int .i64 l[0].f0) := h00; clear hC hR h00)
        go_ret2
        exact RefReadIs.no HQ.out.symm hb
  · rw [if_pos (by omega)] at HQ
    have t1 : ((e : Int) != 0) = true := by rw [bne_iff_ne]; omega
    clear c1
    go_enter Tryz.func33, Tryz.ntmps33
    go_wp2_with (go_at_call 18; refine HFd.out.mono ?_; rintro en w1 ⟨v0, rfl, hR, hb⟩; obtain ⟨A, c, rfl, hc, hC⟩ := Kd.R_reads hR; rw [hml]; rw [hml] at hc hC)
    go_ret2
    exact RefReadIs.no HQ.out.symm hb
structure RefBox (w : World) (X : Nat → Prop) (g : Nat) (A : Option Addr) (c : Nat) (L : List S74) (b0 b : Nat) (T : TypeId) (Z : Array Value) (F : FormS) (k : Nat) (cs : Array Value) (W : World) : Prop where
  form : RefIs X g A c L F k W
  res : W.heap[b0]? = some (.cells Z T (0, 0))
  box : W.heap[b]? = some (.cells cs T (0, 0))
  low : Below w.heap.size w W
  xb : X b
  gb : g < b
  b0g : b0 < g
  wb0 : w.heap.size ≤ b0
section
variable {w : World} {X : Nat → Prop} {g : Nat} {A : Option Addr} {c : Nat} {L : List S74} {b0 b : Nat} {T : TypeId} {Z : Array Value} {F F' : FormS} {k k' : Nat} {cs : Array Value} {W W' : World}
theorem RefBox.call (h : RefBox w X g A c L b0 b T Z F k cs W) (hf : RefIs X g A c L F' k' W') (ht : Turned (fun j => ¬ X j) W W') : RefBox w X g A c L b0 b T Z F' k' cs W' := by
  have hx0 : X b0 := h.form.xl b0 h.b0g
  refine ⟨hf, (ht.block b0 (blk_lt h.res) (fun g => g hx0)).trans h.res, (ht.block b (blk_lt h.box) (fun g => g h.xb)).trans h.box, h.low.trans (ht.below (fun j hj => ?_) h.low.size), h.xb, h.gb, h.b0g, h.wb0⟩
  rcases Nat.lt_or_ge j w.heap.size with hl | hl
  · exact absurd (h.form.xl j (by have := h.wb0; have := h.b0g; omega)) hj
  · exact hl
theorem RefBox.set (h : RefBox w X g A c L b0 b T Z F k cs W) (j : Nat) (v : Value) : RefBox w X g A c L b0 b T Z F k (cs.setIfInBounds j v) (W.setCell ⟨b, j, none⟩ v) := by
  have hg := h.gb
  have h0 := h.b0g
  have hw := h.wb0
  refine ⟨h.form.turned (S := fun x => x = b) (Turned.setCell (S := fun x => x = b) (Turned.refl _ _) (p := ⟨b, j, none⟩) rfl _) (by omega) (fun x hx => hx ▸ h.xb) (fun x hx => by omega), blk_far h.res (by show b0 ≠ b; omega) _, blk_set h.box j v, h.low.setCell (by show w.heap.size ≤ b; omega) _, h.xb, h.gb, h.b0g, h.wb0⟩
theorem RefBox.drewN (h : RefBox w X g A c L b0 b T Z F k cs W) (q : Nat) : RefBox w X g A c L b0 b T Z F k cs (W.drewN q) :=
  ⟨h.form.below (pw_below_drewN (Below.refl _ _) q), h.res, h.box, pw_below_drewN h.low q, h.xb, h.gb, h.b0g, h.wb0⟩
theorem RefBox.start {w1 : World} {Z0 : Array Value} (hf : RefIs (fun j => j < g) g A c L F k w1) (hr : w1.heap[b0]? = some (.cells Z T (0, 0))) (hl : Below w.heap.size w w1) (h0 : b0 < g) (hw : w.heap.size ≤ b0) :
    RefBox w (fun j => j < g ∨ j = w1.heap.size) g A c L b0 w1.heap.size T Z F k Z0 (w1.alloc (.cells Z0 T)) :=
  ⟨hf.guard _, blk_alloc hr _, blk_new _ _, hl.alloc hl.size _, .inr rfl, hf.glt, h0, hw⟩
theorem RefBox.name (h : RefBox w X g A c L b0 b T Z F k cs W) {t : Int} {v : ByteArray} (E : askL takeName ⟨#[]⟩ F t = (v, F')) (hL : L.length ≤ 1000000) (hk : k ≤ 1000) (hz : ∀ y ∈ L, y.f1.size ≤ 512) :
    Calls Tryz.prog 36 #[.pointer (some ⟨g, 0, none⟩), .int .i64 t] W fun e w' => e = .returned (.string v) ∧ RefBox w X g A c L b0 b T Z F' (k + 1) cs w' := by
  have h1 := ref_name W h.form hL (by omega) hz t
  rw [E] at h1
  exact h1.mono fun e w' hh => ⟨hh.1, h.call hh.2.1 hh.2.2⟩
theorem RefBox.int (h : RefBox w X g A c L b0 b T Z F k cs W) {t low high : Int} {v : Int} (E : askL (fun s => takeInt s low high) 0 F t = (v, F')) (hL : L.length ≤ 1000000) (hk : k ≤ 1000) (hz : ∀ y ∈ L, y.f1.size ≤ 512) :
    Calls Tryz.prog 37 #[.pointer (some ⟨g, 0, none⟩), .int .i64 t, .int .i64 low, .int .i64 high] W fun e w' => e = .returned (.int .i64 v) ∧ RefBox w X g A c L b0 b T Z F' (k + 1) cs w' := by
  have h1 := ref_int W h.form hL (by omega) hz t low high
  rw [E] at h1
  exact h1.mono fun e w' hh => ⟨hh.1, h.call hh.2.1 hh.2.2⟩
theorem RefBox.kind (h : RefBox w X g A c L b0 b T Z F k cs W) (hL : L.length ≤ 1000000) (hk : k ≤ 1000) (h0 : 0 < L.length) (he : F.e = 0) {s : ByteArray} (hs : L[0].f1 = s) :
    Calls Tryz.prog 34 #[.pointer (some ⟨g, 0, none⟩)] W fun e w' => e = .returned (.string s) ∧ RefBox w X g A c L b0 b T Z (F.mark 35) (k + 1) cs w' := by
  have h1 := ref_kind W h.form hL (by omega) h0 he
  rw [hs] at h1
  exact h1.mono fun e w' hh => ⟨hh.1, h.call hh.2.1 hh.2.2⟩
theorem RefBox.done (h : RefBox w X g A c L b0 b T Z F k cs W) (hL : L.length ≤ 1000000) (hk : k ≤ 1000) {t e0 : Int} (hd : doneL F = (t, e0)) :
    Calls Tryz.prog 39 #[.pointer (some ⟨g, 0, none⟩)] W fun e w' => e = .returned (.tuple #[.int .i64 t, .int .i64 e0]) ∧ RefBox w X g A c L b0 b T Z F k cs w' := by
  have h1 := ref_done W h.form hL (by omega)
  rw [hd] at h1
  refine h1.mono fun e w' hh => ?_
  obtain ⟨h2, q, rfl⟩ := hh
  exact ⟨h2, h.drewN q⟩
end
end Go.Proofs.YtgfigkfcmkdjdaaGreatDoor.B
end
section
namespace Go.Proofs.YtgfigkfcmkdjdaaGreatDoor.B
open Go.RowKit Go.Proofs.YtgfigkfcmkdjdaaGreatDoorW.PrintWords Go.Proofs.YtgfigkfcmkdjdaaGreatDoorW.PrintLast Go.Proofs.YtgfigkfcmkdjdaaGreatDoorW.PrintMore
attribute [local go_sem] max2_int min2_int max_two min_two max_three min_three max_four min_four   -- for this text's walks alone
set_option linter.unusedVariables false
set_option linter.unusedSimpArgs false
set_option maxRecDepth 100000 in
theorem ref12_word_walk (k : Int) (h : 0 ≤ k ∧ k ≤ 5) (w : World) : Calls Tryz.prog 35 #[.int .i64 k] w fun e w' => e = .returned (.string (askKindW k)) ∧ Below w.heap.size w w' := by
  rcases (show k = 0 ∨ k = 1 ∨ k = 2 ∨ k = 3 ∨ k = 4 ∨ k = 5 by omega) with rfl | rfl | rfl | rfl | rfl | rfl
  all_goals
    clear h
    go_enter Tryz.func35, Tryz.ntmps35
    go_wp2
    go_ret
    exact ⟨rfl, (Below.refl _ _).alloc (Nat.le_refl _) _⟩
end Go.Proofs.YtgfigkfcmkdjdaaGreatDoor.B
end
