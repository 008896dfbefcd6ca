/- The functions that the law reaches, as plain Lean functions, and their contracts: texts merged. -/
import Derived.Laws.StructEq
import Derived.Test.YtgfigkfcmkdjdaaGreatDoorzAskEncodes2
import Derived.Test.YtgfigkfcmkdjdaaGreatDoorzAskEncodes0
import Derived.Test.YtgfigkfcmkdjdaaGreatDoorzAskEncodes1
import Derived.Test.YtgfigkfcmkdjdaaGreatDoorzAskEncodes3
import Derived.Test.YtgfigkfcmkdjdaaGreatDoorzAskEncodes4
import Derived.Test.YtgfigkfcmkdjdaaGreatDoorzAskEncodes5
import Derived.Test.YtgfigkfcmkdjdaaGreatDoorzAskEncodes20
import Derived.Test.YtgfigkfcmkdjdaaGreatDoorzAskEncodes21
import Derived.Test.YtgfigkfcmkdjdaaGreatDoorzAskEncodes6
import Derived.Test.YtgfigkfcmkdjdaaGreatDoorzAskEncodes7
import Derived.Test.YtgfigkfcmkdjdaaGreatDoorzAskEncodes8
import Derived.Test.YtgfigkfcmkdjdaaGreatDoorzAskEncodes9
import Derived.Test.YtgfigkfcmkdjdaaGreatDoorzAskEncodes10
import Derived.Test.YtgfigkfcmkdjdaaGreatDoorzAskEncodes11
import Derived.Test.YtgfigkfcmkdjdaaGreatDoorzAskEncodes12
import Derived.Test.YtgfigkfcmkdjdaaGreatDoorzAskEncodes13
import Derived.Test.YtgfigkfcmkdjdaaGreatDoorzAskEncodes15
import Derived.Test.YtgfigkfcmkdjdaaGreatDoorzAskEncodes16
import Derived.Test.YtgfigkfcmkdjdaaGreatDoorzAskEncodes17
import Derived.Test.YtgfigkfcmkdjdaaGreatDoorzAskEncodes18
import Derived.Test.YtgfigkfcmkdjdaaGreatDoorzAskEncodes19
section
namespace Go.Proofs.YtgfigkfcmkdjdaaGreatDoor.B
open Go.RowKit Go.Proofs.YtgfigkfcmkdjdaaGreatDoorW.PrintWords Go.Proofs.YtgfigkfcmkdjdaaGreatDoorW.PrintLast Go.Proofs.YtgfigkfcmkdjdaaGreatDoorW.PrintMore
attribute [local go_sem] max2_int min2_int max_two min_two max_three min_three max_four min_four   -- for this text's walks alone
set_option linter.unusedVariables false
set_option linter.unusedSimpArgs false
def spigotref08_Fields_p.l0 : Nat → ByteArray → List (S84) → Int → Option ((List (S84)) × Int × Int)
  | 0, _, _, _ => none
  | k + 1, x0, x5, x6 => if x6 < (x0.size : Int) then (if (x5.length : Int) ≥ 64 then (some (x5, x6, 3)) else (if 0 ≤ x6 then (if x6 ≤ (x0.size : Int) then ((spigotref08_Next.f (x0.extract (x6 : Int).toNat x0.size)).bind fun bt203 => (if bt203.2.2.2 = 0 then (if x5.length < 5864062014805 then (spigotref08_Fields_p.l0 k x0 (x5 ++ [(⟨bt203.1, bt203.2.1⟩ : S84)]) (wrap64 (x6 + bt203.2.2.1))) else (none)) else (some (x5, x6, bt203.2.2.2)))) else (none)) else (none))) else (some (x5, x6, 0))
def spigotref08_Fields_p.f (k : Nat) (a0 : ByteArray) : Option ((List (S84)) × Int × Int) := spigotref08_Fields_p.l0 k a0 ([] : List (S84)) 0
theorem spigotref08_Fields_p.mono_l : ∀ k, (∀ y0 y1 y2, LeO (spigotref08_Fields_p.l0 k y0 y1 y2) (spigotref08_Fields_p.l0 (k + 1) y0 y1 y2))
  | 0 => fun _ _ _ r h => by simp [spigotref08_Fields_p.l0] at h
  | k + 1 => by
    have ih0 := spigotref08_Fields_p.mono_l k
    · intro y0 y1 y2
      unfold spigotref08_Fields_p.l0
      repeat' first
      | (with_reducible exact ih0 _ _ _)
      | (with_reducible exact LeO.refl _)
      | (with_reducible exact LeO.none _)
      | (with_reducible refine LeO.ite ?_ ?_)
      | (with_reducible refine LeO.bind ?_ (fun _ => ?_))
      | exact ih0 _ _ _
      | exact LeO.none _
      | refine LeO.ite ?_ ?_
      | refine LeO.bind ?_ (fun _ => ?_)
theorem spigotref08_Fields_p.mono : ∀ a0 k, LeO (spigotref08_Fields_p.f k a0) (spigotref08_Fields_p.f (k + 1) a0) := by
  intro a0 k
  have ih0 := spigotref08_Fields_p.mono_l k
  unfold spigotref08_Fields_p.f
  repeat' first
      | (with_reducible exact ih0 _ _ _)
      | (with_reducible exact LeO.refl _)
      | (with_reducible exact LeO.none _)
      | (with_reducible refine LeO.ite ?_ ?_)
      | (with_reducible refine LeO.bind ?_ (fun _ => ?_))
      | exact ih0 _ _ _
      | exact LeO.none _
      | refine LeO.ite ?_ ?_
      | refine LeO.bind ?_ (fun _ => ?_)
set_option maxHeartbeats 8000000 in
set_option maxRecDepth 100000 in
theorem spigotref08_Fields_p.calls (k : Nat) (a0 : ByteArray) (r1 : List (S84)) (r2 : Int) (r3 : Int) (w : World) (h : spigotref08_Fields_p.f k a0 = some (r1, r2, r3)) :
    Calls Tryz.prog 18 #[.string a0] w fun e w' => ∃ v0_ : Value, e = .returned (.tuple #[v0_, .int .i64 r2, .int .i64 r3]) ∧ Kd.R k84 84 w' w.heap.size (fun _ => True) v0_ r1 ∧ Below w.heap.size w w' := by
  have hu84 := Tryz.underlying84
  have HB := Aside0.mk (Below.refl w.heap.size w)
  have H : (spigotref08_Fields_p.l0 k a0 ([] : List (S84)) 0) = some (r1, r2, r3) := h
  clear h
  have H' := Aside0.mk H
  clear H
  go_enter Tryz.func18, Tryz.ntmps18
  go_wp2
  go_loopg [5, 6] k (fun kq v5 v6 w' => ∃ (x5_1 : List (S84)) (x6_1 : Int), v6 = .int .i64 x6_1 ∧ Aside0 (spigotref08_Fields_p.l0 kq a0 x5_1 x6_1 = some (r1, r2, r3)) ∧ Aside0 (kq ≤ k) ∧ Aside0 (Kd.R k84 84 w' w.heap.size (fun _ => True) v5 x5_1) ∧ Aside0 (Below w.heap.size w w'))
  case atStart => exact ⟨(([] : List (S84))), (0), (by first | rfl | (simp; done) | (simp [*]; done)), H', ⟨Nat.le_refl _⟩, ⟨by first | exact Kd.R_nil _ _ _ _ _ | exact Kd.N_nil _ _ _ _ _ | exact Kd.V_nil _ _ _ _ _ | exact Kd.Q_nil _ _ _ _ _ | exact Kd.S_nil _ _ _ _ _⟩, ⟨by repeat (first | (with_reducible first | exact HB.out | apply below_alloc | apply pw_below_drewN | apply below_drew1) | exact HB.out)⟩⟩
  case round =>
    clear H'
    try clear c1
    obtain ⟨x5_1, x6_1, rfl, HA, HK1, HO_5, HB⟩ := hrel
    cases gk with
    | zero => exact absurd HA.out (by simp [spigotref08_Fields_p.l0])
    | succ k1 =>
      have H := HA.out
      clear HA
      simp only [spigotref08_Fields_p.l0] at H
      by_cases c2 : x6_1 < (a0.size : Int)
      · rw [if_pos c2] at H
        have c2b0 : decide (x6_1 < (a0.size : Int)) = true := decide_eq_true c2
        clear c2
        by_cases c3 : (x5_1.length : Int) ≥ 64
        · rw [if_pos c3] at H
          have c3b0 : decide (64 ≤ (x5_1.length : Int)) = true := decide_eq_true c3
          have c3b1 : decide (64 ≤ x5_1.length) = true := decide_eq_true (by omega)
          clear c3
          simp only [Option.some.injEq, Prod.mk.injEq] at H
          obtain ⟨rfl, rfl, rfl⟩ := H
          obtain ⟨Ao4, co4, eo4⟩ := Kd.R_slice HO_5.out
          subst eo4
          go_wp2
          go_ret3
          exact ⟨_, by first | rfl | (simp [errW_none, errW_some] <;> rfl) | (simp [*, errW_none, errW_some] <;> rfl), by (with_reducible repeat (first | apply Kd.R_alloc | apply Kd.R_drewN | apply Kd.R_drew)); exact HO_5.out, by repeat (first | (with_reducible first | exact HB.out | apply below_alloc | apply pw_below_drewN | apply below_drew1) | exact HB.out)⟩
        · rw [if_neg c3] at H
          have c3b0 : decide (64 ≤ (x5_1.length : Int)) = false := decide_eq_false c3
          have c3b1 : decide (64 ≤ x5_1.length) = false := decide_eq_false (by omega)
          clear c3
          by_cases c5 : 0 ≤ x6_1
          · rw [if_pos c5] at H
            have c5b0 := eq_true c5
            have c5b1 : decide (0 ≤ x6_1) = true := decide_eq_true c5
            clear c5
            by_cases c6 : x6_1 ≤ (a0.size : Int)
            · rw [if_pos c6] at H
              have c6b0 := eq_true c6
              have c6b1 : decide (x6_1 ≤ (a0.size : Int)) = true := decide_eq_true c6
              clear c6
              replace H := Option.bind_eq_some_iff.mp H
              obtain ⟨⟨t203, t204, t205, t206⟩, A70, H⟩ := H
              replace H : (if t206 = 0 then (if x5_1.length < 5864062014805 then (spigotref08_Fields_p.l0 k1 a0 (x5_1 ++ [(⟨t203, t204⟩ : S84)]) (wrap64 (x6_1 + t205))) else (none)) else (some (x5_1, x6_1, t206))) = some (r1, r2, r3) := H
              have A7 := Aside0.mk A70
              clear A70
              by_cases c8 : t206 = 0
              · rw [if_pos c8] at H
                have c8b0 : (t206 == 0) = true := beq_iff_eq.mpr c8
                have c8b1 : (t206 != 0) = false := bne_eq_false_iff_eq.mpr c8
                clear c8
                by_cases c9 : x5_1.length < 5864062014805
                · rw [if_pos c9] at H
                  have LMc9 := Aside0.mk c9
                  clear c9
                  obtain ⟨y208, hy208⟩ : ∃ y_ : List (S84), y_ = (x5_1 ++ [(⟨t203, t204⟩ : S84)]) := ⟨_, rfl⟩
                  replace H : (spigotref08_Fields_p.l0 k1 a0 y208 (wrap64 (x6_1 + t205))) = some (r1, r2, r3) := by first | (rw [hy208]; with_reducible exact H) | (have H2_ := (Option.bind_some _ _).symm.trans H; rw [hy208]; with_reducible exact H2_) | (have H2_ := (Option.bind_some _ _).symm.trans H; with_reducible exact H2_) | with_reducible exact H | (rw [hy208]; exact H) | exact H
                  have Ny208 := Aside0.mk hy208
                  clear hy208
                  have H' := Aside0.mk H
                  clear H
                  obtain ⟨Ao10, co10, eo10⟩ := Kd.R_slice HO_5.out
                  subst eo10
                  go_wp2_with (first | ((with_reducible refine gate_callee (f := 49) rfl ?_); refine goesL_ (some 23) rfl rfl Tryz.func49 (by kernel_rfl) rfl #[.string (a0.extract (x6_1 : Int).toNat a0.size)] rfl (by (try simp only [List.map_toArray, List.map_cons, List.map_nil]); first | done | rfl | (simp only [List.length_drop, List.length_take]; rfl)) ?_; (with_reducible refine (spigotref08_Next.calls (a0.extract (x6_1 : Int).toNat a0.size) t203 t204 t205 t206 _ A7.out).mono ?_); rintro e w11 ⟨rfl, hb⟩; refine ⟨_, rfl, ?_⟩; have n0_ := Aside0.mk (Kd.R_below (by (with_reducible repeat (first | apply Kd.R_alloc | apply Kd.R_drewN | apply Kd.R_drew)); exact HO_5.out) hb); have n1_ := Aside0.mk (below_step (by repeat (first | (with_reducible first | exact HB.out | apply below_alloc | apply pw_below_drewN | apply below_drew1) | exact HB.out)) hb); clear HO_5; clear HB; have HO_5 := n0_; have HB := n1_; clear n0_ n1_; (try clear hb); (try clear hb2); (try clear hk); (try clear hi)) | ((with_reducible refine gate_dst (N := 7) rfl ?_); refine box_event ?hg (N := 7) ?hd (cs := #[.int .i64 0, .string (⟨#[]⟩ : ByteArray)]) (t := 84) ?hr ?_; (case hd => rfl); (case hg => rfl); (case hr => first | (go_simp; done) | (go_simp; rfl)); intro gb207 hg w12 hbox hb; have n0_ := Aside0.mk (Kd.R_below (Kd.R_elderB (by (with_reducible repeat (first | apply Kd.R_alloc | apply Kd.R_drewN | apply Kd.R_drew)); exact HO_5.out) gb207 (Nat.le_of_eq hg.symm)) hb); have n1_ := Aside0.mk (below_step (by repeat (first | (with_reducible first | exact HB.out | apply below_alloc | apply pw_below_drewN | apply below_drew1) | exact HB.out)) hb); have n2_ := Aside0.mk (hbox); have n3_ := Aside0.mk ((by rw [hg]; exact (below_size (by repeat (first | (with_reducible first | exact HB.out | apply below_alloc | apply pw_below_drewN | apply below_drew1) | exact HB.out))) : w.heap.size ≤ gb207)); have n4_ := Aside0.mk ((by rw [hg]; exact (below_size (by repeat (first | (with_reducible first | exact HB.out | apply below_alloc | apply pw_below_drewN | apply below_drew1) | exact HB.out))) : w.heap.size ≤ gb207)); clear HO_5; clear HB; have HO_5 := n0_; have HB := n1_; have BK207 := n2_; have GW207 := n3_; have GE207 := n4_; clear n0_ n1_ n2_ n3_ n4_; clear hb hbox hg; have hcz13_0 : w12.cell? ⟨gb207, 0, none⟩ = some (.int .i64 0) := (blk_cell BK207.out 0).trans rfl; have hcz13_1 : w12.cell? ⟨gb207, 1, none⟩ = some (.string (⟨#[]⟩ : ByteArray)) := (blk_cell BK207.out 1).trans rfl; have hfz13_0 := blk_frozen BK207.out 0; have hfz13_1 := blk_frozen BK207.out 1) | ((with_reducible refine gate_builtin (b := .append) (xs := #[.tmp 32, .tmp 34]) rfl ?_); at_builtin; refine Kd.R_append k84 (w0 := w) w.heap.size rfl (.tmp 32) (.tmp 34) 45 84 (.agg #[(.int .i64 0), (.string ⟨#[]⟩)]) 24 rfl Tryz.underlying45 info84 rfl (by decide) (by omega) (.slice Ao10 x5_1.length co10) x5_1 (⟨t203, t204⟩ : S84) [.int .i64 t203, .string t204] (fun k_ => k_ ≠ gb207) (fun _ => False) rfl (by first | (go_simp; done) | (go_simp; rfl)) ?aP (fun _ hk => hk.elim) ?aF ?aO ?aB ?aS ?aL ?_; (case aP => exact k84_mkM _ _ _ (⟨t203, t204⟩ : S84)); (case aB => exact (by repeat (first | (with_reducible first | exact HB.out | apply below_alloc | apply pw_below_drewN | apply below_drew1 | refine below_set ?_ GE207.out) | exact HB.out))); (case aF => exact (fun k_ hk => Kd.freshB (g := gb207) (o := .cells #[.int .i64 t203, .string t204] 84 (0, 0)) (by (with_reducible repeat (first | refine blk_drewN ?_ _ | refine blk_drew ?_ | refine blk_alloc ?_ _)); refine blk_put (cs := #[.int .i64 t203, .string (⟨#[]⟩ : ByteArray)]) ?_ 1 _ rfl; (with_reducible repeat (first | refine blk_drewN ?_ _ | refine blk_drew ?_ | refine blk_alloc ?_ _)); refine blk_put (cs := #[.int .i64 0, .string (⟨#[]⟩ : ByteArray)]) ?_ 0 _ rfl; (with_reducible repeat (first | refine blk_drewN ?_ _ | refine blk_drew ?_ | refine blk_alloc ?_ _)); exact BK207.out) k_ hk)); (case aO => exact (by (with_reducible repeat (first | apply Kd.R_alloc | apply Kd.R_drewN | apply Kd.R_drew)); exact Kd.R_mono (Kd.R_far (p := ⟨gb207, 1, none⟩) (Kd.R_far (p := ⟨gb207, 0, none⟩) (Kd.R_mono HO_5.out (fun k_ hk => (⟨hk, hk.2⟩ : _ ∧ k_ ≠ gb207))) (fun _ hk => hk.2) (.int .i64 t203)) (fun _ hk => hk.2) (.string t204)) (fun _ hk => hk.1.2))); (case aS => exact (below_size (by repeat (first | (with_reducible first | exact HB.out | apply below_alloc | apply pw_below_drewN | apply below_drew1 | refine below_set ?_ GE207.out) | exact HB.out)))); (case aL => have := LMc9.out; omega); intro v209 w14 ho hb hg hat; rw [← Ny208.out] at ho; have n0_ := Aside0.mk (blk_grown (g := gb207) (o := .cells #[.int .i64 t203, .string t204] 84 (0, 0)) (by (with_reducible repeat (first | refine blk_drewN ?_ _ | refine blk_drew ?_ | refine blk_alloc ?_ _)); refine blk_put (cs := #[.int .i64 t203, .string (⟨#[]⟩ : ByteArray)]) ?_ 1 _ rfl; (with_reducible repeat (first | refine blk_drewN ?_ _ | refine blk_drew ?_ | refine blk_alloc ?_ _)); refine blk_put (cs := #[.int .i64 0, .string (⟨#[]⟩ : ByteArray)]) ?_ 0 _ rfl; (with_reducible repeat (first | refine blk_drewN ?_ _ | refine blk_drew ?_ | refine blk_alloc ?_ _)); exact BK207.out) hg (Kd.R_away HO_5.out (fun _ hk => hk.2))); have n1_ := Aside0.mk (hb); have n2_ := Aside0.mk (ho); clear BK207; clear HB; clear HO_5; have BK207 := n0_; have HB := n1_; have HO210 := n2_; clear n0_ n1_ n2_; clear ho hb hg hat))
                  go_roundg k1
                  case measure => have := HK1.out; omega
                  case rel => exact ⟨(y208), (wrap64 (x6_1 + t205)), (by first | rfl | (simp; done) | (simp [*]; done)), H', ⟨by have := HK1.out; omega⟩, ⟨by (with_reducible repeat (first | apply Kd.R_alloc | apply Kd.R_drewN | apply Kd.R_drew)); exact Kd.R_mono HO210.out (fun _ hk => trivial)⟩, ⟨by repeat (first | (with_reducible first | exact HB.out | apply below_alloc | apply pw_below_drewN | apply below_drew1 | refine below_set ?_ GE207.out) | exact HB.out)⟩⟩
                · rw [if_neg c9] at H
                  exact absurd H (by simp)
              · rw [if_neg c8] at H
                have c8b0 : (t206 == 0) = false := beq_eq_false_iff_ne.mpr c8
                have c8b1 : (t206 != 0) = true := bne_iff_ne.mpr c8
                simp only [Option.some.injEq, Prod.mk.injEq] at H
                obtain ⟨rfl, rfl, rfl⟩ := H
                obtain ⟨Ao15, co15, eo15⟩ := Kd.R_slice HO_5.out
                subst eo15
                go_wp2_with (first | ((with_reducible refine gate_callee (f := 49) rfl ?_); refine goesL_ (some 23) rfl rfl Tryz.func49 (by kernel_rfl) rfl #[.string (a0.extract (x6_1 : Int).toNat a0.size)] rfl (by (try simp only [List.map_toArray, List.map_cons, List.map_nil]); first | done | rfl | (simp only [List.length_drop, List.length_take]; rfl)) ?_; (with_reducible refine (spigotref08_Next.calls (a0.extract (x6_1 : Int).toNat a0.size) t203 t204 t205 t206 _ A7.out).mono ?_); rintro e w16 ⟨rfl, hb⟩; refine ⟨_, rfl, ?_⟩; have n0_ := Aside0.mk (Kd.R_below (by (with_reducible repeat (first | apply Kd.R_alloc | apply Kd.R_drewN | apply Kd.R_drew)); exact HO_5.out) hb); have n1_ := Aside0.mk (below_step (by repeat (first | (with_reducible first | exact HB.out | apply below_alloc | apply pw_below_drewN | apply below_drew1) | exact HB.out)) hb); clear HO_5; clear HB; have HO_5 := n0_; have HB := n1_; clear n0_ n1_; (try clear hb); (try clear hb2); (try clear hk); (try clear hi)) | ((with_reducible refine gate_dst (N := 7) rfl ?_); refine box_event ?hg (N := 7) ?hd (cs := #[.int .i64 0, .string (⟨#[]⟩ : ByteArray)]) (t := 84) ?hr ?_; (case hd => rfl); (case hg => rfl); (case hr => first | (go_simp; done) | (go_simp; rfl)); intro gb207 hg w17 hbox hb; have n0_ := Aside0.mk (Kd.R_below (Kd.R_elderB (by (with_reducible repeat (first | apply Kd.R_alloc | apply Kd.R_drewN | apply Kd.R_drew)); exact HO_5.out) gb207 (Nat.le_of_eq hg.symm)) hb); have n1_ := Aside0.mk (below_step (by repeat (first | (with_reducible first | exact HB.out | apply below_alloc | apply pw_below_drewN | apply below_drew1) | exact HB.out)) hb); have n2_ := Aside0.mk (hbox); have n3_ := Aside0.mk ((by rw [hg]; exact (below_size (by repeat (first | (with_reducible first | exact HB.out | apply below_alloc | apply pw_below_drewN | apply below_drew1) | exact HB.out))) : w.heap.size ≤ gb207)); have n4_ := Aside0.mk ((by rw [hg]; exact (below_size (by repeat (first | (with_reducible first | exact HB.out | apply below_alloc | apply pw_below_drewN | apply below_drew1) | exact HB.out))) : w.heap.size ≤ gb207)); clear HO_5; clear HB; have HO_5 := n0_; have HB := n1_; have BK207 := n2_; have GW207 := n3_; have GE207 := n4_; clear n0_ n1_ n2_ n3_ n4_; clear hb hbox hg; have hcz18_0 : w17.cell? ⟨gb207, 0, none⟩ = some (.int .i64 0) := (blk_cell BK207.out 0).trans rfl; have hcz18_1 : w17.cell? ⟨gb207, 1, none⟩ = some (.string (⟨#[]⟩ : ByteArray)) := (blk_cell BK207.out 1).trans rfl; have hfz18_0 := blk_frozen BK207.out 0; have hfz18_1 := blk_frozen BK207.out 1))
                go_ret3
                exact ⟨_, by first | rfl | (simp [errW_none, errW_some] <;> rfl) | (simp [*, errW_none, errW_some] <;> rfl), by (with_reducible repeat (first | apply Kd.R_alloc | apply Kd.R_drewN | apply Kd.R_drew)); exact Kd.R_mono (Kd.R_far (p := ⟨gb207, 1, none⟩) (Kd.R_far (p := ⟨gb207, 0, none⟩) (Kd.R_mono HO_5.out (fun k_ hk => (⟨hk, hk.2⟩ : _ ∧ k_ ≠ gb207))) (fun _ hk => hk.2) (.int .i64 t203)) (fun _ hk => hk.2) (.string t204)) (fun _ hk => trivial), by repeat (first | (with_reducible first | exact HB.out | apply below_alloc | apply pw_below_drewN | apply below_drew1 | refine below_set ?_ GE207.out) | exact HB.out)⟩
            · rw [if_neg c6] at H
              exact absurd H (by simp)
          · rw [if_neg c5] at H
            exact absurd H (by simp)
      · rw [if_neg c2] at H
        have c2b0 : decide (x6_1 < (a0.size : Int)) = false := decide_eq_false c2
        clear c2
        simp only [Option.some.injEq, Prod.mk.injEq] at H
        obtain ⟨rfl, rfl, rfl⟩ := H
        go_wp2
        go_ret3
        exact ⟨_, by first | rfl | (simp [errW_none, errW_some] <;> rfl) | (simp [*, errW_none, errW_some] <;> rfl), by (with_reducible repeat (first | apply Kd.R_alloc | apply Kd.R_drewN | apply Kd.R_drew)); exact HO_5.out, by repeat (first | (with_reducible first | exact HB.out | apply below_alloc | apply pw_below_drewN | apply below_drew1) | exact HB.out)⟩
def mkG (p : Nat × List UInt8) : S84 := ⟨(p.1 : Int), ⟨p.2.toArray⟩⟩
theorem spigotref08_Fields_loop (s : ByteArray) (hs : s.size ≤ big) (d : Nat) : ∀ (k pos : Nat) (xs : List S84), pos ≤ s.size → s.size - pos ≤ d → d < k → xs.length ≤ 64 →
    spigotref08_Fields_p.l0 k s xs (pos : Int) = some (xs ++ (fieldsL (s.data.toList.drop pos) xs.length pos).1.map mkG, ((fieldsL (s.data.toList.drop pos) xs.length pos).2.1 : Int), ((fieldsL (s.data.toList.drop pos) xs.length pos).2.2 : Int)) := by
  induction d with
  | zero =>
    intro k pos xs hp hd hk hx
    obtain ⟨k, rfl⟩ : ∃ m, k = m + 1 := ⟨k - 1, by omega⟩
    simp only [spigotref08_Fields_p.l0]
    rw [if_neg (by omega), drop_nil_of s pos (by omega), fieldsL_nil]
    simp
  | succ d ih =>
    intro k pos xs hp hd hk hx
    obtain ⟨k, rfl⟩ : ∃ m, k = m + 1 := ⟨k - 1, by omega⟩
    by_cases hlt : pos < s.size
    · have hne := drop_ne_nil s pos hlt
      simp only [spigotref08_Fields_p.l0]
      rw [if_pos (by omega)]
      by_cases h64 : xs.length = 64
      · rw [if_pos (by omega), fieldsL_full _ hne _ _ (by omega)]; simp
      · rw [if_neg (by omega), if_pos (by omega), if_pos (by omega), Int.toNat_natCast]
        unfold spigotref08_Next.f
        rw [if_pos (by rw [ByteArray.size_extract]; omega), drop_list]
        simp only [Option.bind_some]
        by_cases he : (nextL (s.data.toList.drop pos)).2.2 = 0
        · have h1 := nextL_pos _ he
          have h2 := nextL_le _ he
          rw [List.length_drop, size_list] at h2
          unfold big at hs
          rw [if_pos (by omega), if_pos (by omega), fieldsL_next _ hne _ _ (by omega) he, w64 (by omega) (by omega), ← Int.natCast_add, ih k (pos + (nextL (s.data.toList.drop pos)).2.1) _ (by omega) (by omega) (by omega) (by simp; omega)]
          simp [List.drop_drop, mkG]
        · rw [if_neg (by omega), fieldsL_err _ hne _ _ (by omega) he]; simp
    · simp only [spigotref08_Fields_p.l0]
      rw [if_neg (by omega), drop_nil_of s pos hlt, fieldsL_nil]
      simp
def spigotref08_Fields.f (a0 : ByteArray) : Option ((List S84) × Int × Int) := if a0.size ≤ big then some ((fieldsL a0.data.toList 0 0).1.map mkG, ((fieldsL a0.data.toList 0 0).2.1 : Int), ((fieldsL a0.data.toList 0 0).2.2 : Int)) else none
theorem spigotref08_Fields.calls (a0 : ByteArray) (r1 : List S84) (r2 : Int) (r3 : Int) (w : World) (h : spigotref08_Fields.f a0 = some (r1, r2, r3)) :
    Calls Tryz.prog 18 #[.string a0] w fun e w' => ∃ v0_ : Value, e = .returned (.tuple #[v0_, .int .i64 r2, .int .i64 r3]) ∧ Kd.R k84 84 w' w.heap.size (fun _ => True) v0_ r1 ∧ Below w.heap.size w w' := by
  unfold spigotref08_Fields.f at h
  by_cases c : a0.size ≤ big
  · rw [if_pos c] at h
    refine spigotref08_Fields_p.calls (a0.size + 1) a0 r1 r2 r3 w (Eq.trans ?_ h)
    have := spigotref08_Fields_loop a0 c a0.size (a0.size + 1) 0 [] (by omega) (by omega) (by omega) (by simp)
    simpa [spigotref08_Fields_p.f] using this
  · rw [if_neg c] at h; cases h
end Go.Proofs.YtgfigkfcmkdjdaaGreatDoor.B
end
section
namespace Go.Proofs.YtgfigkfcmkdjdaaGreatDoor.B
open Go.RowKit Go.Proofs.YtgfigkfcmkdjdaaGreatDoorW.PrintWords Go.Proofs.YtgfigkfcmkdjdaaGreatDoorW.PrintLast Go.Proofs.YtgfigkfcmkdjdaaGreatDoorW.PrintMore
attribute [local go_sem] max2_int min2_int max_two min_two max_three min_three max_four min_four   -- for this text's walks alone
set_option linter.unusedVariables false
set_option linter.unusedSimpArgs false
def smallNs (l : List Int) : Prop := ∀ x ∈ l, 0 ≤ x ∧ x ≤ 1048576
theorem smallNs_i63 {l : List Int} (h : smallNs l) : ∀ x ∈ l, i63 x := fun x hx => by have := h x hx; exact ⟨this.1, by omega⟩
theorem allMay_ascii : ∀ l : List UInt8, (∀ b ∈ l, 32 ≤ b.toNat ∧ b.toNat < 127) → allMay l = true
  | [], _ => allMay_nil
  | b :: t, h => by
    have hb := h b (by simp)
    rw [may_cons b (by omega) (by rw [mayB_eq]; omega) t]
    exact allMay_ascii t (fun x hx => h x (by simp [hx]))
theorem join_small : ∀ (l : List Int), l ≠ [] → smallNs l → (Lib.join ((l.map digitsB).map (·.data.toList)) [44]).length + 1 ≤ 8 * l.length ∧ 1 ≤ (Lib.join ((l.map digitsB).map (·.data.toList)) [44]).length ∧ (∀ b ∈ Lib.join ((l.map digitsB).map (·.data.toList)) [44], 32 ≤ b.toNat ∧ b.toNat < 127)
  | [], h, _ => absurd rfl h
  | [x], _, h => by
    have hx := h x (by simp)
    have h1 := digitsN_len 6 x.toNat (by omega)
    have h2 := digitsN_pos x.toNat
    have e : Lib.join (([x].map digitsB).map (·.data.toList)) [44] = digitsN x.toNat := by simp [Lib.join, digitsB_list]
    rw [e]
    refine ⟨by simp; omega, h2, fun b hb => ?_⟩
    have := digitsN_dig _ b hb
    unfold isDig at this
    omega
  | x :: y :: r, _, h => by
    have hx := h x (by simp)
    have h1 := digitsN_len 6 x.toNat (by omega)
    obtain ⟨i1, i2, i3⟩ := join_small (y :: r) (by simp) (fun z hz => h z (by simp only [List.mem_cons] at hz ⊢; exact .inr hz))
    have e : Lib.join (((x :: y :: r).map digitsB).map (·.data.toList)) [44] = digitsN x.toNat ++ 44 :: Lib.join (((y :: r).map digitsB).map (·.data.toList)) [44] := by
      rw [← digitsB_list]; simp [Lib.join]
    rw [e]
    generalize Lib.join (((y :: r).map digitsB).map (·.data.toList)) [44] = t at *
    refine ⟨by simp only [List.length_append, List.length_cons] at i1 ⊢; omega, by simp only [List.length_append, List.length_cons]; omega, fun b hb => ?_⟩
    rcases List.mem_append.1 hb with hb | hb
    · have := digitsN_dig _ b hb
      unfold isDig at this
      omega
    · rcases List.mem_cons.1 hb with rfl | hb
      · decide
      · exact i3 b hb
theorem goodF_nums (t : Int) (l : List Int) (h1 : 1 ≤ t) (h2 : t ≤ 99999) (hl : l ≠ []) (h64 : l.length ≤ 64) (h : smallNs l) : goodF (t, (numsB l).data.toList) := by
  obtain ⟨i1, i2, i3⟩ := join_small l hl h
  have e : (numsB l).data.toList = Lib.join ((l.map digitsB).map (·.data.toList)) [44] := by unfold numsB joinB; simp
  refine ⟨h1, h2, ?_⟩
  show valueL (numsB l).data.toList = true
  rw [e]
  unfold valueL
  rw [decide_eq_true i2, decide_eq_true (show (Lib.join ((l.map digitsB).map (·.data.toList)) [44]).length ≤ 512 by omega), allMay_ascii _ i3]; rfl
theorem curveGo_small : ∀ (l : List Int) (b : Bool), curveGo b l = true → smallNs l
  | [], _, _ => fun x hx => absurd hx List.not_mem_nil
  | x :: r, b, h => by
    rw [curveGo] at h
    split at h
    · cases h
    split at h
    · cases h
    intro y hy
    rcases List.mem_cons.1 hy with rfl | hy
    · omega
    split at h
    · exact curveGo_small r _ h y hy
    · exact curveGo_small r _ h y hy
theorem curveOk_iff {l : List Int} (h : curveOk l = true) : l ≠ [] ∧ l.length ≤ 64 ∧ smallNs l := by
  unfold curveOk at h
  simp only [Bool.and_eq_true, decide_eq_true_eq] at h
  exact ⟨fun e => by rw [e] at h; simp at h, h.1.2, curveGo_small l _ h.2⟩
theorem ask_form_1_1 (i ac sy : ByteArray) (sd q p st en : Int) (n_i : nameL i.data.toList 0 = true) (n_ac : nameL ac.data.toList 0 = true) (n_sy : nameL sy.data.toList 0 = true) (h_sd : 1 ≤ sd ∧ sd ≤ 2) (h_q : 1 ≤ q ∧ q ≤ 1099511627776) (h_p : 1 ≤ p ∧ p ≤ 1099511627776) (h_st : 0 ≤ st ∧ st ≤ 1099511627776) (h_en : 0 ≤ en ∧ en ≤ 1099511627776) : allFormsL ((askF ⟨1, i, ⟨#[]⟩, ac, sy, sd, q, p, 1, st, en, 0, 0, []⟩).map pairF) = ((((askF ⟨1, i, ⟨#[]⟩, ac, sy, sd, q, p, 1, st, en, 0, 0, []⟩).map pairF).map fieldL).flatten, 0) := by
  have eL : askF ⟨1, i, ⟨#[]⟩, ac, sy, sd, q, p, 1, st, en, 0, 0, []⟩ = [⟨35, ⟨#[68]⟩⟩, ⟨11, i⟩, ⟨1, ac⟩, ⟨55, sy⟩, ⟨54, digitsB sd⟩, ⟨38, digitsB q⟩, ⟨44, digitsB p⟩, ⟨5001, digitsB 1⟩, ⟨5002, digitsB st⟩, ⟨5003, digitsB en⟩] := rfl
  refine allFormsL_good _ (by rw [eL]; simp) ?_
  rw [eL]
  simp only [List.map_cons, List.map_nil, pairF, List.forall_mem_cons]
  exact ⟨goodF_one 35 68 (by decide) (by decide) (by decide) (by decide), goodF_name 11 i (by decide) (by decide) n_i, goodF_name 1 ac (by decide) (by decide) n_ac, goodF_name 55 sy (by decide) (by decide) n_sy, goodF_num 54 sd (by decide) (by decide) (by omega), goodF_num 38 q (by decide) (by decide) (by omega), goodF_num 44 p (by decide) (by decide) (by omega), goodF_num 5001 1 (by decide) (by decide) (by omega), goodF_num 5002 st (by decide) (by decide) (by omega), goodF_num 5003 en (by decide) (by decide) (by omega), fun _ h => absurd h List.not_mem_nil⟩
theorem ask_form_1_2 (i ac sy : ByteArray) (sd q p st en : Int) (l : List Int) (n_i : nameL i.data.toList 0 = true) (n_ac : nameL ac.data.toList 0 = true) (n_sy : nameL sy.data.toList 0 = true) (h_sd : 1 ≤ sd ∧ sd ≤ 2) (h_q : 1 ≤ q ∧ q ≤ 1099511627776) (h_p : 1 ≤ p ∧ p ≤ 1099511627776) (h_st : 0 ≤ st ∧ st ≤ 1099511627776) (h_en : 0 ≤ en ∧ en ≤ 1099511627776) (hcv : curveOk l = true) : allFormsL ((askF ⟨1, i, ⟨#[]⟩, ac, sy, sd, q, p, 2, st, en, 0, 0, l⟩).map pairF) = ((((askF ⟨1, i, ⟨#[]⟩, ac, sy, sd, q, p, 2, st, en, 0, 0, l⟩).map pairF).map fieldL).flatten, 0) := by
  have eL : askF ⟨1, i, ⟨#[]⟩, ac, sy, sd, q, p, 2, st, en, 0, 0, l⟩ = [⟨35, ⟨#[68]⟩⟩, ⟨11, i⟩, ⟨1, ac⟩, ⟨55, sy⟩, ⟨54, digitsB sd⟩, ⟨38, digitsB q⟩, ⟨44, digitsB p⟩, ⟨5001, digitsB 2⟩, ⟨5002, digitsB st⟩, ⟨5003, digitsB en⟩, ⟨5006, numsB l⟩] := rfl
  refine allFormsL_good _ (by rw [eL]; simp) ?_
  rw [eL]
  simp only [List.map_cons, List.map_nil, pairF, List.forall_mem_cons]
  exact ⟨goodF_one 35 68 (by decide) (by decide) (by decide) (by decide), goodF_name 11 i (by decide) (by decide) n_i, goodF_name 1 ac (by decide) (by decide) n_ac, goodF_name 55 sy (by decide) (by decide) n_sy, goodF_num 54 sd (by decide) (by decide) (by omega), goodF_num 38 q (by decide) (by decide) (by omega), goodF_num 44 p (by decide) (by decide) (by omega), goodF_num 5001 2 (by decide) (by decide) (by omega), goodF_num 5002 st (by decide) (by decide) (by omega), goodF_num 5003 en (by decide) (by decide) (by omega), goodF_nums 5006 l (by decide) (by decide) (curveOk_iff hcv).1 (curveOk_iff hcv).2.1 (curveOk_iff hcv).2.2, fun _ h => absurd h List.not_mem_nil⟩
theorem ask_form_1_3 (i ac sy : ByteArray) (sd q p st en rt : Int) (n_i : nameL i.data.toList 0 = true) (n_ac : nameL ac.data.toList 0 = true) (n_sy : nameL sy.data.toList 0 = true) (h_sd : 1 ≤ sd ∧ sd ≤ 2) (h_q : 1 ≤ q ∧ q ≤ 1099511627776) (h_p : 1 ≤ p ∧ p ≤ 1099511627776) (h_st : 0 ≤ st ∧ st ≤ 1099511627776) (h_en : 0 ≤ en ∧ en ≤ 1099511627776) (h_rt : 1 ≤ rt ∧ rt ≤ 10000) : allFormsL ((askF ⟨1, i, ⟨#[]⟩, ac, sy, sd, q, p, 3, st, en, rt, 0, []⟩).map pairF) = ((((askF ⟨1, i, ⟨#[]⟩, ac, sy, sd, q, p, 3, st, en, rt, 0, []⟩).map pairF).map fieldL).flatten, 0) := by
  have eL : askF ⟨1, i, ⟨#[]⟩, ac, sy, sd, q, p, 3, st, en, rt, 0, []⟩ = [⟨35, ⟨#[68]⟩⟩, ⟨11, i⟩, ⟨1, ac⟩, ⟨55, sy⟩, ⟨54, digitsB sd⟩, ⟨38, digitsB q⟩, ⟨44, digitsB p⟩, ⟨5001, digitsB 3⟩, ⟨5002, digitsB st⟩, ⟨5003, digitsB en⟩, ⟨5004, digitsB rt⟩] := rfl
  refine allFormsL_good _ (by rw [eL]; simp) ?_
  rw [eL]
  simp only [List.map_cons, List.map_nil, pairF, List.forall_mem_cons]
  exact ⟨goodF_one 35 68 (by decide) (by decide) (by decide) (by decide), goodF_name 11 i (by decide) (by decide) n_i, goodF_name 1 ac (by decide) (by decide) n_ac, goodF_name 55 sy (by decide) (by decide) n_sy, goodF_num 54 sd (by decide) (by decide) (by omega), goodF_num 38 q (by decide) (by decide) (by omega), goodF_num 44 p (by decide) (by decide) (by omega), goodF_num 5001 3 (by decide) (by decide) (by omega), goodF_num 5002 st (by decide) (by decide) (by omega), goodF_num 5003 en (by decide) (by decide) (by omega), goodF_num 5004 rt (by decide) (by decide) (by omega), fun _ h => absurd h List.not_mem_nil⟩
theorem ask_form_1_4 (i ac sy : ByteArray) (sd q p st en sh : Int) (n_i : nameL i.data.toList 0 = true) (n_ac : nameL ac.data.toList 0 = true) (n_sy : nameL sy.data.toList 0 = true) (h_sd : 1 ≤ sd ∧ sd ≤ 2) (h_q : 1 ≤ q ∧ q ≤ 1099511627776) (h_p : 1 ≤ p ∧ p ≤ 1099511627776) (h_st : 0 ≤ st ∧ st ≤ 1099511627776) (h_en : 0 ≤ en ∧ en ≤ 1099511627776) (h_sh : 1 ≤ sh ∧ sh ≤ 1099511627776) : allFormsL ((askF ⟨1, i, ⟨#[]⟩, ac, sy, sd, q, p, 4, st, en, 0, sh, []⟩).map pairF) = ((((askF ⟨1, i, ⟨#[]⟩, ac, sy, sd, q, p, 4, st, en, 0, sh, []⟩).map pairF).map fieldL).flatten, 0) := by
  have eL : askF ⟨1, i, ⟨#[]⟩, ac, sy, sd, q, p, 4, st, en, 0, sh, []⟩ = [⟨35, ⟨#[68]⟩⟩, ⟨11, i⟩, ⟨1, ac⟩, ⟨55, sy⟩, ⟨54, digitsB sd⟩, ⟨38, digitsB q⟩, ⟨44, digitsB p⟩, ⟨5001, digitsB 4⟩, ⟨5002, digitsB st⟩, ⟨5003, digitsB en⟩, ⟨5005, digitsB sh⟩] := rfl
  refine allFormsL_good _ (by rw [eL]; simp) ?_
  rw [eL]
  simp only [List.map_cons, List.map_nil, pairF, List.forall_mem_cons]
  exact ⟨goodF_one 35 68 (by decide) (by decide) (by decide) (by decide), goodF_name 11 i (by decide) (by decide) n_i, goodF_name 1 ac (by decide) (by decide) n_ac, goodF_name 55 sy (by decide) (by decide) n_sy, goodF_num 54 sd (by decide) (by decide) (by omega), goodF_num 38 q (by decide) (by decide) (by omega), goodF_num 44 p (by decide) (by decide) (by omega), goodF_num 5001 4 (by decide) (by decide) (by omega), goodF_num 5002 st (by decide) (by decide) (by omega), goodF_num 5003 en (by decide) (by decide) (by omega), goodF_num 5005 sh (by decide) (by decide) (by omega), fun _ h => absurd h List.not_mem_nil⟩
theorem ask_form_3 (i tg : ByteArray) (q p en : Int) (n_i : nameL i.data.toList 0 = true) (n_tg : nameL tg.data.toList 0 = true) (h_q : 1 ≤ q ∧ q ≤ 1099511627776) (h_p : 1 ≤ p ∧ p ≤ 1099511627776) (h_en : 0 ≤ en ∧ en ≤ 1099511627776) : allFormsL ((askF ⟨3, i, tg, ⟨#[]⟩, ⟨#[]⟩, 0, q, p, 0, 0, en, 0, 0, []⟩).map pairF) = ((((askF ⟨3, i, tg, ⟨#[]⟩, ⟨#[]⟩, 0, q, p, 0, 0, en, 0, 0, []⟩).map pairF).map fieldL).flatten, 0) := by
  have eL : askF ⟨3, i, tg, ⟨#[]⟩, ⟨#[]⟩, 0, q, p, 0, 0, en, 0, 0, []⟩ = [⟨35, ⟨#[71]⟩⟩, ⟨11, i⟩, ⟨41, tg⟩, ⟨38, digitsB q⟩, ⟨44, digitsB p⟩, ⟨5003, digitsB en⟩] := rfl
  refine allFormsL_good _ (by rw [eL]; simp) ?_
  rw [eL]
  simp only [List.map_cons, List.map_nil, pairF, List.forall_mem_cons]
  exact ⟨goodF_one 35 71 (by decide) (by decide) (by decide) (by decide), goodF_name 11 i (by decide) (by decide) n_i, goodF_name 41 tg (by decide) (by decide) n_tg, goodF_num 38 q (by decide) (by decide) (by omega), goodF_num 44 p (by decide) (by decide) (by omega), goodF_num 5003 en (by decide) (by decide) (by omega), fun _ h => absurd h List.not_mem_nil⟩
theorem ask_form_2 (i tg : ByteArray) (n_i : nameL i.data.toList 0 = true) (n_tg : nameL tg.data.toList 0 = true)  : allFormsL ((askF ⟨2, i, tg, ⟨#[]⟩, ⟨#[]⟩, 0, 0, 0, 0, 0, 0, 0, 0, []⟩).map pairF) = ((((askF ⟨2, i, tg, ⟨#[]⟩, ⟨#[]⟩, 0, 0, 0, 0, 0, 0, 0, 0, []⟩).map pairF).map fieldL).flatten, 0) := by
  have eL : askF ⟨2, i, tg, ⟨#[]⟩, ⟨#[]⟩, 0, 0, 0, 0, 0, 0, 0, 0, []⟩ = [⟨35, ⟨#[70]⟩⟩, ⟨11, i⟩, ⟨41, tg⟩] := rfl
  refine allFormsL_good _ (by rw [eL]; simp) ?_
  rw [eL]
  simp only [List.map_cons, List.map_nil, pairF, List.forall_mem_cons]
  exact ⟨goodF_one 35 70 (by decide) (by decide) (by decide) (by decide), goodF_name 11 i (by decide) (by decide) n_i, goodF_name 41 tg (by decide) (by decide) n_tg, fun _ h => absurd h List.not_mem_nil⟩
theorem ask_form_4 (i tg : ByteArray) (n_i : nameL i.data.toList 0 = true) (n_tg : nameL tg.data.toList 0 = true)  : allFormsL ((askF ⟨4, i, tg, ⟨#[]⟩, ⟨#[]⟩, 0, 0, 0, 0, 0, 0, 0, 0, []⟩).map pairF) = ((((askF ⟨4, i, tg, ⟨#[]⟩, ⟨#[]⟩, 0, 0, 0, 0, 0, 0, 0, 0, []⟩).map pairF).map fieldL).flatten, 0) := by
  have eL : askF ⟨4, i, tg, ⟨#[]⟩, ⟨#[]⟩, 0, 0, 0, 0, 0, 0, 0, 0, []⟩ = [⟨35, ⟨#[85, 80]⟩⟩, ⟨11, i⟩, ⟨41, tg⟩] := rfl
  refine allFormsL_good _ (by rw [eL]; simp) ?_
  rw [eL]
  simp only [List.map_cons, List.map_nil, pairF, List.forall_mem_cons]
  exact ⟨goodF_two 35 85 80 (by decide) (by decide) (by decide) (by decide) (by decide) (by decide), goodF_name 11 i (by decide) (by decide) n_i, goodF_name 41 tg (by decide) (by decide) n_tg, fun _ h => absurd h List.not_mem_nil⟩
theorem ask_form_5 (i tg : ByteArray) (n_i : nameL i.data.toList 0 = true) (n_tg : nameL tg.data.toList 0 = true)  : allFormsL ((askF ⟨5, i, tg, ⟨#[]⟩, ⟨#[]⟩, 0, 0, 0, 0, 0, 0, 0, 0, []⟩).map pairF) = ((((askF ⟨5, i, tg, ⟨#[]⟩, ⟨#[]⟩, 0, 0, 0, 0, 0, 0, 0, 0, []⟩).map pairF).map fieldL).flatten, 0) := by
  have eL : askF ⟨5, i, tg, ⟨#[]⟩, ⟨#[]⟩, 0, 0, 0, 0, 0, 0, 0, 0, []⟩ = [⟨35, ⟨#[85, 82]⟩⟩, ⟨11, i⟩, ⟨41, tg⟩] := rfl
  refine allFormsL_good _ (by rw [eL]; simp) ?_
  rw [eL]
  simp only [List.map_cons, List.map_nil, pairF, List.forall_mem_cons]
  exact ⟨goodF_two 35 85 82 (by decide) (by decide) (by decide) (by decide) (by decide) (by decide), goodF_name 11 i (by decide) (by decide) n_i, goodF_name 41 tg (by decide) (by decide) n_tg, fun _ h => absurd h List.not_mem_nil⟩
theorem ask_form (a : AskV) (h : RightA a) : allFormsL ((askF a).map pairF) = ((((askF a).map pairF).map fieldL).flatten, 0) := by
  obtain ⟨f0, f1, f2, f3, f4, f5, f6, f7, f8, f9, f10, f11, f12, f13⟩ := a
  obtain ⟨hk, h1, h | h⟩ := h
  · obtain ⟨k1, h3, h4, h2, hd, ⟨hq, hp, he⟩, hs, hsp, hal⟩ := h
    simp only at hk h1 k1 h3 h4 h2 hd hq hp he hs hsp
    subst k1 h2
    rcases hal with ⟨a1, a2, a3, a4⟩ | ⟨a1, a2, a3, a4⟩ | ⟨a1, a2, a3, a4⟩ | ⟨a1, a2, a3, a4⟩
    · simp only at a1 a2 a3 a4
      subst a1 a2 a3 a4
      exact ask_form_1_1 f1 f3 f4 f5 f6 f7 f9 f10 h1 h3 h4 hd hq hp hs he
    · simp only at a1 a2 a3 a4
      subst a1 a3 a4
      exact ask_form_1_2 f1 f3 f4 f5 f6 f7 f9 f10 f13 h1 h3 h4 hd hq hp hs he a2
    · simp only at a1 a2 a3 a4
      subst a1 a2 a4
      exact ask_form_1_3 f1 f3 f4 f5 f6 f7 f9 f10 f11 h1 h3 h4 hd hq hp hs he a3
    · simp only at a1 a2 a3 a4
      subst a1 a2 a3
      exact ask_form_1_4 f1 f3 f4 f5 f6 f7 f9 f10 f12 h1 h3 h4 hd hq hp hs he a4
  · obtain ⟨k1, h2, ⟨b3, b4, b5, b8, b9, b11, b12, b13⟩, hw⟩ := h
    simp only at hk h1 k1 h2 b3 b4 b5 b8 b9 b11 b12 b13 hw
    subst b3 b4 b5 b8 b9 b11 b12 b13
    rcases hw with ⟨k3, ⟨hq, hp, he⟩⟩ | ⟨k3, z6, z7, z10⟩
    · try simp only at k3 hq hp he
      subst k3
      exact ask_form_3 f1 f2 f6 f7 f10 h1 h2 hq hp he
    · subst z6 z7 z10
      rcases (show f0 = 2 ∨ f0 = 4 ∨ f0 = 5 by omega) with rfl | rfl | rfl
      · exact ask_form_2 f1 f2 h1 h2
      · exact ask_form_4 f1 f2 h1 h2
      · exact ask_form_5 f1 f2 h1 h2
def encA (a : AskV) : ByteArray × Int := if RightA a then (⟨((((askF a).map pairF).map fieldL).flatten).toArray⟩, 0) else (⟨#[]⟩, 2)
theorem encA_right (a : AskV) (h : RightA a) : encA a = (⟨((((askF a).map pairF).map fieldL).flatten).toArray⟩, 0) := if_pos h
theorem encA_wrong (a : AskV) (h : ¬ RightA a) : encA a = (⟨#[]⟩, 2) := if_neg h
theorem encA_size (a : AskV) : (encA a).1.size ≤ 40000 := by
  unfold encA
  split
  · rename_i h
    have h1 := allFormsL_len ((askF a).map pairF)
    rw [ask_form a h] at h1
    show (⟨((((askF a).map pairF).map fieldL).flatten).toArray⟩ : ByteArray).size ≤ 40000
    rw [sz_lit]; exact h1
  · show (0 : Nat) ≤ 40000; omega
theorem name_size {s : ByteArray} (h : nameL s.data.toList 0 = true) : s.size ≤ 80 := by
  have := (nameL_value h).2
  rwa [size_list] at this
theorem rightA_sizes (a : AskV) (h : RightA a) : a.f1.size ≤ 80 ∧ a.f2.size ≤ 80 ∧ a.f3.size ≤ 80 ∧ a.f4.size ≤ 80 ∧ a.f13.length ≤ 64 := by
  have z : (⟨#[]⟩ : ByteArray).size ≤ 80 := by decide
  obtain ⟨hk, h1, h | h⟩ := h
  · obtain ⟨k1, h3, h4, h2, hd, _, hs, hsp, hal⟩ := h
    refine ⟨name_size h1, by rw [h2]; exact z, name_size h3, name_size h4, ?_⟩
    rcases hal with h | h | h | h
    · rw [h.2.1]; simp
    · exact (curveOk_iff h.2.1).2.1
    · rw [h.2.1]; simp
    · rw [h.2.1]; simp
  · obtain ⟨k1, h2, ⟨b3, b4, b5, b8, b9, b11, b12, b13⟩, hw⟩ := h
    exact ⟨name_size h1, name_size h2, by rw [b3]; exact z, by rw [b4]; exact z, by rw [b13]; simp⟩
theorem rightA_nums (a : AskV) (h : RightA a) : (i63 a.f5 ∧ i63 a.f6 ∧ i63 a.f7 ∧ i63 a.f8 ∧ i63 a.f9 ∧ i63 a.f10 ∧ i63 a.f11 ∧ i63 a.f12) ∧ numsI a.f13 := by
  have hl := (rightA_sizes a h).2.2.2.2
  unfold i63 numsI
  obtain ⟨hk, h1, h | h⟩ := h
  · obtain ⟨k1, h3, h4, h2, hd, ⟨hq, hp, he⟩, hs, hsp, hal⟩ := h
    rcases hal with h | h | h | h
    · exact ⟨by omega, by omega, fun x hx => by rw [h.2.1] at hx; exact absurd hx List.not_mem_nil⟩
    · exact ⟨by omega, by omega, smallNs_i63 (curveOk_iff h.2.1).2.2⟩
    · exact ⟨by omega, by omega, fun x hx => by rw [h.2.1] at hx; exact absurd hx List.not_mem_nil⟩
    · exact ⟨by omega, by omega, fun x hx => by rw [h.2.1] at hx; exact absurd hx List.not_mem_nil⟩
  · obtain ⟨k1, h2, ⟨b3, b4, b5, b8, b9, b11, b12, b13⟩, hw⟩ := h
    refine ⟨?_, by rw [b13]; exact Nat.zero_le _, fun x hx => by rw [b13] at hx; exact absurd hx List.not_mem_nil⟩
    rcases hw with ⟨_, ⟨hq, hp, he⟩⟩ | ⟨_, z6, z7, z10⟩
    · omega
    · omega
set_option maxRecDepth 100000 in
set_option maxHeartbeats 8000000 in
theorem ref12_Encode_walk (a : AskV) (A : Option Addr) (c : Nat) (W : World) (hC : Kd.C (Kd.int .i64) W A a.f13.length a.f13) (hc : a.f13.length ≤ c) (hz : a.f1.size ≤ 200 ∧ a.f2.size ≤ 200 ∧ a.f3.size ≤ 200 ∧ a.f4.size ≤ 200) (hl : a.f13.length ≤ 1000) :
    Calls Tryz.prog 8 #[.agg #[.int .i64 a.f0, .string a.f1, .string a.f2, .string a.f3, .string a.f4, .int .i64 a.f5, .int .i64 a.f6, .int .i64 a.f7, .int .i64 a.f8, .int .i64 a.f9, .int .i64 a.f10, .int .i64 a.f11, .int .i64 a.f12, .slice A a.f13.length c]] W fun e w' => e = .returned (.tuple #[.string (encA a).1, .int .i64 (encA a).2]) ∧ Below W.heap.size W w' := by
  have HX0 := Aside0.mk (blk_new W (.cells #[.int .i64 a.f0, .string a.f1, .string a.f2, .string a.f3, .string a.f4, .int .i64 a.f5, .int .i64 a.f6, .int .i64 a.f7, .int .i64 a.f8, .int .i64 a.f9, .int .i64 a.f10, .int .i64 a.f11, .int .i64 a.f12, .slice A a.f13.length c] 32))
  have HL0 : Aside0 (Below W.heap.size W (W.alloc (.cells #[.int .i64 a.f0, .string a.f1, .string a.f2, .string a.f3, .string a.f4, .int .i64 a.f5, .int .i64 a.f6, .int .i64 a.f7, .int .i64 a.f8, .int .i64 a.f9, .int .i64 a.f10, .int .i64 a.f11, .int .i64 a.f12, .slice A a.f13.length c] 32))) := ⟨(Below.refl _ _).alloc (Nat.le_refl _) _⟩
  have HC := Aside0.mk hC
  have hca := fun i => blk_cell HX0.out i
  have HRt : Aside0 (∀ X, Below W.heap.size W X → Calls Tryz.prog 11 #[.agg #[.int .i64 a.f0, .string a.f1, .string a.f2, .string a.f3, .string a.f4, .int .i64 a.f5, .int .i64 a.f6, .int .i64 a.f7, .int .i64 a.f8, .int .i64 a.f9, .int .i64 a.f10, .int .i64 a.f11, .int .i64 a.f12, .slice A a.f13.length c]] X fun e w' => e = .returned (.bool (decide (RightA a))) ∧ Below X.heap.size X w') := ⟨fun X h => ref_right_all a A c X (by omega) (by omega) (by omega) (by omega) (by omega) (Kd.C_below HC.out h) hc⟩
  by_cases hr : RightA a
  · have hb := encA_size a
    have HFo : Aside0 (∀ X, Below W.heap.size W X → Calls Tryz.prog 17 #[.agg #[.int .i64 a.f0, .string a.f1, .string a.f2, .string a.f3, .string a.f4, .int .i64 a.f5, .int .i64 a.f6, .int .i64 a.f7, .int .i64 a.f8, .int .i64 a.f9, .int .i64 a.f10, .int .i64 a.f11, .int .i64 a.f12, .slice A a.f13.length c]] X fun e w' => e = .returned (.string (encA a).1) ∧ Below X.heap.size X w') := ⟨fun X h => by rw [encA_right a hr]; exact form12_walk a A c X hr (Kd.C_below HC.out h) hc hz (rightA_nums a hr).2⟩
    have hfd : spigotref08_Fields.f (encA a).1 = some ((fieldsL (encA a).1.data.toList 0 0).1.map mkG, ((fieldsL (encA a).1.data.toList 0 0).2.1 : Int), 0) := by
      unfold spigotref08_Fields.f
      rw [if_pos (by unfold big; omega)]
      have hf := ask_form a hr
      unfold allFormsL at hf
      have hlen : ¬ 64 < ((askF a).map pairF).length := fun g => by rw [if_pos g] at hf; simp at hf
      rw [if_neg hlen] at hf
      have h2 := fieldsL_formed ((askF a).map pairF) 0 0 (by rw [hf]) (by omega)
      rw [hf] at h2
      have e : (encA a).1.data.toList = (((askF a).map pairF).map fieldL).flatten := by rw [encA_right a hr]
      rw [e, h2]; rfl
    have HFd : Aside0 (∀ X, Calls Tryz.prog 18 #[.string (encA a).1] X fun e w' => ∃ v0_ : Value, e = .returned (.tuple #[v0_, .int .i64 ((fieldsL (encA a).1.data.toList 0 0).2.1 : Int), .int .i64 0]) ∧ Kd.R k84 84 w' X.heap.size (fun _ => True) v0_ ((fieldsL (encA a).1.data.toList 0 0).1.map mkG) ∧ Below X.heap.size X w') := ⟨fun X => spigotref08_Fields.calls _ _ _ _ X hfd⟩
    have he2 : (encA a).2 = 0 := by rw [encA_right a hr]
    rw [he2]
    rw [decide_eq_true hr] at HRt
    generalize fieldsL (encA a).1.data.toList 0 0 = fl at *
    generalize (encA a).1 = bs at *
    clear hr hb hfd he2 hC hc hz hl
    go_enter Tryz.func8, Tryz.ntmps8
    go_wp2_with (first
      | (go_at_call 11; ((with_reducible refine (HRt.out _ HL0.out).mono ?_)); rintro e w1 ⟨rfl, hb⟩; have HL1 := Aside0.mk (HL0.out.trans (hb.mono HL0.out.size)); clear hca; have HX1 := Aside0.mk (blk_below HX0.out hb); have hca := fun i => blk_cell HX1.out i; clear hb HRt)
      | (go_at_call 17; ((with_reducible refine (HFo.out _ HL1.out).mono ?_)); rintro e w2 ⟨rfl, hb⟩; have HL2 := Aside0.mk (HL1.out.trans (hb.mono HL1.out.size)); clear hca hb HFo)
      | (go_at_call 18; ((with_reducible refine (HFd.out _).mono ?_)); rintro e w3 ⟨v0_, rfl, hR, hb⟩; obtain ⟨B, d, rfl, -, -⟩ := Kd.R_reads hR; have HL3 := Aside0.mk (HL2.out.trans (hb.mono HL2.out.size)); clear hb hR HFd))
    go_ret2
    exact ⟨rfl, HL3.out⟩
  · rw [encA_wrong a hr]
    rw [decide_eq_false hr] at HRt
    clear hr hC hc hz hl
    go_enter Tryz.func8, Tryz.ntmps8
    go_wp2_with (go_at_call 11; ((with_reducible refine (HRt.out _ HL0.out).mono ?_)); rintro e w1 ⟨rfl, hb⟩; have HL1 := Aside0.mk (HL0.out.trans (hb.mono HL0.out.size)); clear hca hb HRt)
    go_ret2
    exact ⟨rfl, HL1.out⟩
end Go.Proofs.YtgfigkfcmkdjdaaGreatDoor.B
end
