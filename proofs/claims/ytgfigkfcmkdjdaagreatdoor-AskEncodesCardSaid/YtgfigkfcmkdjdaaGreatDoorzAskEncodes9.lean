/- The functions that the law reaches, as plain Lean functions, and their contracts: texts merged. -/
import Derived.Laws.StructEq
import Derived.Test.YtgfigkfcmkdjdaaGreatDoorzAskEncodes2
import Derived.Test.YtgfigkfcmkdjdaaGreatDoorzAskEncodes0
import Derived.Test.YtgfigkfcmkdjdaaGreatDoorzAskEncodes1
import Derived.Test.YtgfigkfcmkdjdaaGreatDoorzAskEncodes3
import Derived.Test.YtgfigkfcmkdjdaaGreatDoorzAskEncodes7
import Derived.Test.YtgfigkfcmkdjdaaGreatDoorzAskEncodes4
section
namespace Go.Proofs.YtgfigkfcmkdjdaaGreatDoor.B
open Go.RowKit Go.Proofs.YtgfigkfcmkdjdaaGreatDoorW.PrintWords Go.Proofs.YtgfigkfcmkdjdaaGreatDoorW.PrintLast Go.Proofs.YtgfigkfcmkdjdaaGreatDoorW.PrintMore
attribute [local go_sem] max2_int min2_int max_two min_two max_three min_three max_four min_four   -- for this text's walks alone
set_option linter.unusedVariables false
set_option linter.unusedSimpArgs false
theorem split_reps (w : World) (base : Nat) (ok : Nat → Prop) : ∀ xs : List ByteArray, Reps (Kd.string.M w base ok) 1 xs (xs.map Value.string)
  | [] => Reps.none _ _
  | x :: xs => Reps.one rfl (split_reps w base ok xs)
def strings_Split.f (a0 a1 : ByteArray) : Option (List ByteArray) := if a0.size < 4294967281 ∧ 1 ≤ a1.size then some (Lib.splitB a1 0 (Lib.countB a0 a1) a0) else none
theorem strings_Split.calls (a0 a1 : ByteArray) (r : List ByteArray) (w : World) (hT_ : Aside0 (Tabs_ w)) (h : strings_Split.f a0 a1 = some r) :
    Calls Tryz.prog 92 #[.string a0, .string a1] w fun e w' => ∃ v0_ : Value, e = .returned (v0_) ∧ Kd.R Kd.string 9 w' w.heap.size (fun _ => True) v0_ r ∧ Below w.heap.size w w' := by
  unfold strings_Split.f at h
  by_cases c : a0.size < 4294967281 ∧ 1 ≤ a1.size
  · rw [if_pos c] at h
    obtain rfl := Option.some.inj h
    obtain ⟨m, hm⟩ := hT_.out.max
    have hl := Lib.splitB_all a1 c.2 0 _ a0 rfl
    have hle := Lib.splitB_length_le a1 0 (Lib.countB a0 a1) a0
    refine (Tryz.strings_Split a0 a1 m w c.1 hm c.2).mono ?_
    rintro e w' ⟨rfl, rfl⟩
    refine ⟨_, rfl, ⟨fun _ _ => trivial, ?_⟩, (Below.refl _ _).alloc (Nat.le_refl _) _⟩
    have hcnt : Lib.countB a0 a1 ≤ a0.size := Lib.countB_le a1 c.2 a0.size a0 (Nat.le_refl _)
    have := OwnRow.lit (e := 9) w w.heap.size (split_reps (w.alloc (.cells ((Lib.splitB a1 0 (Lib.countB a0 a1) a0).map Value.string).toArray 9)) w.heap.size (fun k => True ∧ some k ≠ Value.ownBlock (.slice (some ⟨w.heap.size, 0, none⟩) (Lib.countB a0 a1 + 1) (Lib.countB a0 a1 + 1))) (Lib.splitB a1 0 (Lib.countB a0 a1) a0)) (Nat.le_refl _) (by omega)
    rw [hl] at this
    exact this
  · rw [if_neg c] at h; cases h
theorem splitK_ne (c b : UInt8) (h : b ≠ c) : ∀ (k : Nat) (l : List UInt8), Lib.splitK [c] 0 k (b :: l) = consHead b (Lib.splitK [c] 0 k l)
  | 0, l => rfl
  | k + 1, l => by
    have hp : ([c] : List UInt8).isPrefixOf (b :: l) = false := by simp [List.isPrefixOf, Ne.symm h]
    have hix : Lib.index (b :: l) [c] = if Lib.index l [c] == -1 then -1 else Lib.index l [c] + 1 := by rw [Lib.index, hp]; simp
    unfold Lib.splitK
    by_cases hm : Lib.index l [c] = -1
    · rw [hix, if_pos (beq_iff_eq.2 hm), hm]; rfl
    · have hge := Lib.index_ge l [c]
      obtain ⟨j, hj⟩ : ∃ j : Nat, Lib.index l [c] = j := ⟨(Lib.index l [c]).toNat, by omega⟩
      rw [hix, if_neg (fun e => hm (beq_iff_eq.1 e)), hj]
      have e1 : ¬ (((j : Int) + 1) == -1) = true := by simp; omega
      have e2 : ¬ (((j : Int)) == -1) = true := by simp
      rw [if_neg e1, if_neg e2]
      have e3 : ((j : Int) + 1).toNat = j + 1 := by omega
      rw [e3, Int.toNat_natCast]
      simp [consHead]
theorem splitK_splitC (c : UInt8) : ∀ l : List UInt8, Lib.splitK [c] 0 (Lib.count l [c]) l = splitC c l
  | [] => by rw [Lib.count_miss (by simp [Lib.index])]; rfl
  | b :: l => by
    unfold splitC
    by_cases h : b = c
    · subst h
      rw [if_pos rfl, Lib.count_cons_eq, Nat.add_comm, ← splitK_splitC b l]
      have hix : Lib.index (b :: l) [b] = 0 := by rw [Lib.index]; simp [List.isPrefixOf]
      rw [show Lib.splitK [b] 0 (Lib.count l [b] + 1) (b :: l) = if Lib.index (b :: l) [b] == -1 then [b :: l] else (b :: l).take ((Lib.index (b :: l) [b]).toNat + 0) :: Lib.splitK [b] 0 (Lib.count l [b]) ((b :: l).drop ((Lib.index (b :: l) [b]).toNat + [b].length)) from rfl, hix]
      simp
    · rw [if_neg h, Lib.count_cons_ne b c l h, splitK_ne c b h, splitK_splitC c l]
theorem split_spec (s : ByteArray) (c : UInt8) (h : s.size < 4294967281) : ∃ r, strings_Split.f s (⟨#[c]⟩ : ByteArray) = some r ∧ r.map (·.data.toList) = splitC c s.data.toList := by
  refine ⟨Lib.splitB ⟨#[c]⟩ 0 (Lib.countB s ⟨#[c]⟩) s, by unfold strings_Split.f; rw [if_pos ⟨h, Nat.le_refl _⟩], ?_⟩
  rw [Lib.splitB_data, ← splitK_splitC c]
end Go.Proofs.YtgfigkfcmkdjdaaGreatDoor.B
end
section
namespace Go.Proofs.YtgfigkfcmkdjdaaGreatDoor.B
open Go.RowKit Go.Proofs.YtgfigkfcmkdjdaaGreatDoorW.PrintWords Go.Proofs.YtgfigkfcmkdjdaaGreatDoorW.PrintLast Go.Proofs.YtgfigkfcmkdjdaaGreatDoorW.PrintMore
attribute [local go_sem] max2_int min2_int max_two min_two max_three min_three max_four min_four   -- for this text's walks alone
set_option linter.unusedVariables false
set_option linter.unusedSimpArgs false
def body_Numbers_p.l0 : Nat → List Int → List ByteArray → Int → Int → Option (List Int × Int)
  | 0, _, _, _, _ => none
  | k + 1, x4, x10, x11, x12 => if x12 < x11 then (if 0 ≤ x12 then (if x12 < (x10.length : Int) then ((body_Number.f (rdOf ByteArray.empty x10 x12)).bind fun bt128 => (if bt128.2 = 0 then (if x4.length < 17592186044416 then (body_Numbers_p.l0 k (x4 ++ [bt128.1]) x10 x11 (wrap64 (x12 + 1))) else (none)) else (some (([] : List Int), bt128.2)))) else (none)) else (none)) else (some (x4, 0))
def body_Numbers_p.f (k : Nat) (a0 : ByteArray) : Option (List Int × Int) := (strings_Split.f a0 (⟨#[44]⟩ : ByteArray)).bind fun t124 => (body_Numbers_p.l0 k ([] : List Int) t124 (t124.length : Int) 0)
theorem body_Numbers_p.mono_l : ∀ k, (∀ y0 y1 y2 y3, LeO (body_Numbers_p.l0 k y0 y1 y2 y3) (body_Numbers_p.l0 (k + 1) y0 y1 y2 y3))
  | 0 => fun _ _ _ _ r h => by simp [body_Numbers_p.l0] at h
  | k + 1 => by
    have ih0 := body_Numbers_p.mono_l k
    · intro y0 y1 y2 y3
      unfold body_Numbers_p.l0
      repeat' first
      | (with_reducible exact ih0 _ _ _ _)
      | (with_reducible exact LeO.refl _)
      | (with_reducible exact LeO.none _)
      | (with_reducible refine LeO.ite ?_ ?_)
      | (with_reducible refine LeO.bind ?_ (fun _ => ?_))
      | exact ih0 _ _ _ _
      | exact LeO.none _
      | refine LeO.ite ?_ ?_
      | refine LeO.bind ?_ (fun _ => ?_)
theorem body_Numbers_p.mono : ∀ a0 k, LeO (body_Numbers_p.f k a0) (body_Numbers_p.f (k + 1) a0) := by
  intro a0 k
  have ih0 := body_Numbers_p.mono_l k
  unfold body_Numbers_p.f
  repeat' first
      | (with_reducible exact ih0 _ _ _ _)
      | (with_reducible exact LeO.refl _)
      | (with_reducible exact LeO.none _)
      | (with_reducible refine LeO.ite ?_ ?_)
      | (with_reducible refine LeO.bind ?_ (fun _ => ?_))
      | exact ih0 _ _ _ _
      | exact LeO.none _
      | refine LeO.ite ?_ ?_
      | refine LeO.bind ?_ (fun _ => ?_)
set_option maxHeartbeats 8000000 in
set_option maxRecDepth 100000 in
theorem body_Numbers_p.calls (k : Nat) (a0 : ByteArray) (r1 : List Int) (r2 : Int) (w : World) (hT_ : Aside0 (Tabs_ w)) (h : body_Numbers_p.f k a0 = some (r1, r2)) :
    Calls Tryz.prog 79 #[.string a0] w fun e w' => ∃ v0_ : Value, e = .returned (.tuple #[v0_, .int .i64 r2]) ∧ Kd.R (Kd.int .i64) 3 w' w.heap.size (fun _ => True) v0_ r1 ∧ Below w.heap.size w w' := by
  have HB := Aside0.mk (Below.refl w.heap.size w)
  have H : ((strings_Split.f a0 (⟨#[44]⟩ : ByteArray)).bind fun t124 => (body_Numbers_p.l0 k ([] : List Int) t124 (t124.length : Int) 0)) = some (r1, r2) := h
  clear h
  replace H := Option.bind_eq_some_iff.mp H
  obtain ⟨t124, A20, H⟩ := H
  replace H : (body_Numbers_p.l0 k ([] : List Int) t124 (t124.length : Int) 0) = some (r1, r2) := H
  have A2 := Aside0.mk A20
  clear A20
  have H' := Aside0.mk H
  clear H
  go_enter Tryz.func79, Tryz.ntmps79
  go_wp2_with (first | ((with_reducible refine gate_callee (f := 92) rfl ?_); refine goesL_ (some 10) rfl rfl Tryz.func92 (by kernel_rfl) rfl #[.string a0, .string (⟨#[44]⟩ : ByteArray)] rfl (by (try simp only [List.map_toArray, List.map_cons, List.map_nil]); first | done | rfl | (simp only [List.length_drop, List.length_take]; rfl)) ?_; (with_reducible refine (strings_Split.calls a0 (⟨#[44]⟩ : ByteArray) t124 _ ?side1 A2.out).mono ?_); (case side1 => exact Aside0.mk (Tabs_.below hT_.out (by repeat (first | (with_reducible first | exact HB.out | apply below_alloc | apply pw_below_drewN | apply below_drew1) | exact HB.out)))); rintro e w3 ⟨v125, rfl, ho0, hb⟩; refine ⟨_, rfl, ?_⟩; have n0_ := Aside0.mk (Kd.R_lower ho0 (below_size (by repeat (first | (with_reducible first | exact HB.out | apply below_alloc | apply pw_below_drewN | apply below_drew1) | exact HB.out)))); have n1_ := Aside0.mk (below_step (by repeat (first | (with_reducible first | exact HB.out | apply below_alloc | apply pw_below_drewN | apply below_drew1) | exact HB.out)) hb); clear HB; have HO126 := n0_; have HB := n1_; clear n0_ n1_; (try clear hb); (try clear hb2); (try clear hk); (try clear hi); (try clear ho0); obtain ⟨Ao4, co4, eo4⟩ := Kd.R_slice HO126.out; subst eo4))
  go_loopg [4, 12] k (fun kq v4 v12 w' => ∃ (x4_1 : List Int) (x12_1 : Int), v12 = .int .i64 x12_1 ∧ Aside0 (body_Numbers_p.l0 kq x4_1 t124 (t124.length : Int) x12_1 = some (r1, r2)) ∧ Aside0 (kq ≤ k) ∧ Aside0 (Kd.R (Kd.int .i64) 3 w' w.heap.size (fun _ => True) v4 x4_1) ∧ Aside0 (Kd.R Kd.string 9 w' w.heap.size (fun _ => True) (.slice Ao4 t124.length co4) t124) ∧ Aside0 (Below w.heap.size w w'))
  case atStart => exact ⟨(([] : List Int)), (0), (by first | rfl | (simp; done) | (simp [*]; done)), H', ⟨Nat.le_refl _⟩, ⟨by first | exact Kd.R_nil _ _ _ _ _ | exact Kd.N_nil _ _ _ _ _ | exact Kd.V_nil _ _ _ _ _ | exact Kd.Q_nil _ _ _ _ _ | exact Kd.S_nil _ _ _ _ _⟩, ⟨by (with_reducible repeat (first | apply Kd.R_alloc | apply Kd.R_drewN | apply Kd.R_drew)); exact HO126.out⟩, ⟨by repeat (first | (with_reducible first | exact HB.out | apply below_alloc | apply pw_below_drewN | apply below_drew1) | exact HB.out)⟩⟩
  case round =>
    clear H'
    try clear p2
    obtain ⟨x4_1, x12_1, rfl, HA, HK1, HO_4, HO_10, HB⟩ := hrel
    cases gk with
    | zero => exact absurd HA.out (by simp [body_Numbers_p.l0])
    | succ k1 =>
      have H := HA.out
      clear HA
      simp only [body_Numbers_p.l0] at H
      by_cases c5 : x12_1 < (t124.length : Int)
      · rw [if_pos c5] at H
        have c5b0 : decide (x12_1 < (t124.length : Int)) = true := decide_eq_true c5
        clear c5
        by_cases c6 : 0 ≤ x12_1
        · rw [if_pos c6] at H
          have c6b0 : decide (0 ≤ x12_1) = true := decide_eq_true c6
          clear c6
          by_cases c7 : x12_1 < (t124.length : Int)
          · rw [if_pos c7] at H
            have c7b0 : decide (x12_1 < (t124.length : Int)) = true := decide_eq_true c7
            clear c7
            replace H := Option.bind_eq_some_iff.mp H
            obtain ⟨⟨t128, t129⟩, A80, H⟩ := H
            replace H : (if t129 = 0 then (if x4_1.length < 17592186044416 then (body_Numbers_p.l0 k1 (x4_1 ++ [t128]) t124 (t124.length : Int) (wrap64 (x12_1 + 1))) else (none)) else (some (([] : List Int), t129))) = some (r1, r2) := H
            have A8 := Aside0.mk A80
            clear A80
            by_cases c9 : t129 = 0
            · rw [if_pos c9] at H
              have c9b0 : (t129 == 0) = true := beq_iff_eq.mpr c9
              have c9b1 : (t129 != 0) = false := bne_eq_false_iff_eq.mpr c9
              clear c9
              by_cases c10 : x4_1.length < 17592186044416
              · rw [if_pos c10] at H
                have LMc10 := Aside0.mk c10
                clear c10
                obtain ⟨y130, hy130⟩ : ∃ y_ : List Int, y_ = (x4_1 ++ [t128]) := ⟨_, rfl⟩
                replace H : (body_Numbers_p.l0 k1 y130 t124 (t124.length : Int) (wrap64 (x12_1 + 1))) = some (r1, r2) := by first | (rw [hy130]; with_reducible exact H) | (have H2_ := (Option.bind_some _ _).symm.trans H; rw [hy130]; with_reducible exact H2_) | (have H2_ := (Option.bind_some _ _).symm.trans H; with_reducible exact H2_) | with_reducible exact H | (rw [hy130]; exact H) | exact H
                have Ny130 := Aside0.mk hy130
                clear hy130
                have H' := Aside0.mk H
                clear H
                have p127 : 0 ≤ (x12_1 : Int) := of_decide_eq_true (by first | (with_reducible assumption) | assumption)
                have q127 : x12_1 < (t124.length : Int) := of_decide_eq_true (by first | (with_reducible assumption) | assumption)
                obtain ⟨ad127, e127, hx127_0⟩ := Kd.at_string (Kd.R_reads' HO_10.out).2.2 x12_1 p127 q127
                cases e127
                replace p127 := eq_true p127
                replace q127 := eq_true q127
                go_wp2_with (first | ((with_reducible refine gate_callee (f := 76) rfl ?_); refine goesL_ (some 18) rfl rfl Tryz.func76 (by kernel_rfl) rfl #[.string (rdOf ByteArray.empty t124 x12_1)] rfl (by (try simp only [List.map_toArray, List.map_cons, List.map_nil]); first | done | rfl | (simp only [List.length_drop, List.length_take]; rfl)) ?_; (with_reducible refine (body_Number.calls (rdOf ByteArray.empty t124 x12_1) t128 t129 _ A8.out).mono ?_); rintro e w11 ⟨rfl, hb⟩; refine ⟨_, rfl, ?_⟩; have n0_ := Aside0.mk (Kd.R_below (by (with_reducible repeat (first | apply Kd.R_alloc | apply Kd.R_drewN | apply Kd.R_drew)); exact HO_4.out) hb); have n1_ := Aside0.mk (Kd.R_below (by (with_reducible repeat (first | apply Kd.R_alloc | apply Kd.R_drewN | apply Kd.R_drew)); exact HO_10.out) hb); have n2_ := Aside0.mk (below_step (by repeat (first | (with_reducible first | exact HB.out | apply below_alloc | apply pw_below_drewN | apply below_drew1) | exact HB.out)) hb); clear HO_4; clear HO_10; clear HB; have HO_4 := n0_; have HO_10 := n1_; have HB := n2_; clear n0_ n1_ n2_; (try clear hb); (try clear hb2); (try clear hk); (try clear hi)) | ((with_reducible refine gate_builtin (b := .append) (xs := #[.tmp 24, .tmp 26]) rfl ?_); at_builtin; refine Kd.R_append (Kd.int .i64) (w0 := w) w.heap.size rfl (.tmp 24) (.tmp 26) 22 3 (.int .i64 0) 8 rfl Tryz.underlying22 info3 rfl (by decide) (by omega) u4 x4_1 t128 [.int .i64 t128] (fun _ => True) (fun _ => False) rfl rfl ?aP (fun _ hk => hk.elim) ?aF ?aO ?aB ?aS ?aL ?_; (case aP => exact rfl); (case aB => exact (by repeat (first | (with_reducible first | exact HB.out | apply below_alloc | apply pw_below_drewN | apply below_drew1) | exact HB.out))); (case aF => exact (fun _ _ => trivial)); (case aO => exact (by (with_reducible repeat (first | apply Kd.R_alloc | apply Kd.R_drewN | apply Kd.R_drew)); exact HO_4.out)); (case aS => exact (below_size (by repeat (first | (with_reducible first | exact HB.out | apply below_alloc | apply pw_below_drewN | apply below_drew1) | exact HB.out)))); (case aL => have := LMc10.out; omega); intro v131 w12 ho hb hg hat; rw [← Ny130.out] at ho; have n0_ := Aside0.mk (Kd.R_over' (by (with_reducible repeat (first | apply Kd.R_alloc | apply Kd.R_drewN | apply Kd.R_drew)); exact HO_10.out) (Kd.R_typed (by (with_reducible repeat (first | apply Kd.R_alloc | apply Kd.R_drewN | apply Kd.R_drew)); exact HO_4.out)) (by decide) hg); have n1_ := Aside0.mk (hb); have n2_ := Aside0.mk (ho); clear HO_10; clear HB; clear HO_4; have HO_10 := n0_; have HB := n1_; have HO132 := n2_; clear n0_ n1_ n2_; clear ho hb hg hat))
                go_roundg k1
                case measure => have := HK1.out; omega
                case rel => exact ⟨(y130), (wrap64 (x12_1 + 1)), (by first | rfl | (simp; done) | (simp [*]; done)), H', ⟨by have := HK1.out; omega⟩, ⟨by (with_reducible repeat (first | apply Kd.R_alloc | apply Kd.R_drewN | apply Kd.R_drew)); exact HO132.out⟩, ⟨by (with_reducible repeat (first | apply Kd.R_alloc | apply Kd.R_drewN | apply Kd.R_drew)); exact HO_10.out⟩, ⟨by repeat (first | (with_reducible first | exact HB.out | apply below_alloc | apply pw_below_drewN | apply below_drew1) | exact HB.out)⟩⟩
              · rw [if_neg c10] at H
                exact absurd H (by simp)
            · rw [if_neg c9] at H
              have c9b0 : (t129 == 0) = false := beq_eq_false_iff_ne.mpr c9
              have c9b1 : (t129 != 0) = true := bne_iff_ne.mpr c9
              simp only [Option.some.injEq, Prod.mk.injEq] at H
              obtain ⟨rfl, rfl⟩ := H
              have p127 : 0 ≤ (x12_1 : Int) := of_decide_eq_true (by first | (with_reducible assumption) | assumption)
              have q127 : x12_1 < (t124.length : Int) := of_decide_eq_true (by first | (with_reducible assumption) | assumption)
              obtain ⟨ad127, e127, hx127_0⟩ := Kd.at_string (Kd.R_reads' HO_10.out).2.2 x12_1 p127 q127
              cases e127
              replace p127 := eq_true p127
              replace q127 := eq_true q127
              go_wp2_with (first | ((with_reducible refine gate_callee (f := 76) rfl ?_); refine goesL_ (some 18) rfl rfl Tryz.func76 (by kernel_rfl) rfl #[.string (rdOf ByteArray.empty t124 x12_1)] rfl (by (try simp only [List.map_toArray, List.map_cons, List.map_nil]); first | done | rfl | (simp only [List.length_drop, List.length_take]; rfl)) ?_; (with_reducible refine (body_Number.calls (rdOf ByteArray.empty t124 x12_1) t128 t129 _ A8.out).mono ?_); rintro e w13 ⟨rfl, hb⟩; refine ⟨_, rfl, ?_⟩; have n0_ := Aside0.mk (Kd.R_below (by (with_reducible repeat (first | apply Kd.R_alloc | apply Kd.R_drewN | apply Kd.R_drew)); exact HO_4.out) hb); have n1_ := Aside0.mk (Kd.R_below (by (with_reducible repeat (first | apply Kd.R_alloc | apply Kd.R_drewN | apply Kd.R_drew)); exact HO_10.out) hb); have n2_ := Aside0.mk (below_step (by repeat (first | (with_reducible first | exact HB.out | apply below_alloc | apply pw_below_drewN | apply below_drew1) | exact HB.out)) hb); clear HO_4; clear HO_10; clear HB; have HO_4 := n0_; have HO_10 := n1_; have HB := n2_; clear n0_ n1_ n2_; (try clear hb); (try clear hb2); (try clear hk); (try clear hi)))
              go_ret2
              exact ⟨_, by first | rfl | (simp [errW_none, errW_some] <;> rfl) | (simp [*, errW_none, errW_some] <;> rfl), by first | exact Kd.R_nil _ _ _ _ _ | exact Kd.N_nil _ _ _ _ _ | exact Kd.V_nil _ _ _ _ _ | exact Kd.Q_nil _ _ _ _ _ | exact Kd.S_nil _ _ _ _ _, by repeat (first | (with_reducible first | exact HB.out | apply below_alloc | apply pw_below_drewN | apply below_drew1) | exact HB.out)⟩
          · rw [if_neg c7] at H
            exact absurd H (by simp)
        · rw [if_neg c6] at H
          exact absurd H (by simp)
      · rw [if_neg c5] at H
        have c5b0 : decide (x12_1 < (t124.length : Int)) = false := decide_eq_false c5
        clear c5
        simp only [Option.some.injEq, Prod.mk.injEq] at H
        obtain ⟨rfl, rfl⟩ := H
        go_wp2
        go_ret2
        exact ⟨_, by first | rfl | (simp [errW_none, errW_some] <;> rfl) | (simp [*, errW_none, errW_some] <;> rfl), by (with_reducible repeat (first | apply Kd.R_alloc | apply Kd.R_drewN | apply Kd.R_drew)); exact HO_4.out, by repeat (first | (with_reducible first | exact HB.out | apply below_alloc | apply pw_below_drewN | apply below_drew1) | exact HB.out)⟩
def numsP : List (List UInt8) → List Int → List Int × Int
  | [], acc => (acc, 0)
  | w :: ws, acc => if (numP w).2 = 0 then numsP ws (acc ++ [((numP w).1 : Int)]) else ([], ((numP w).2 : Int))
theorem numsP_cons (w : List UInt8) (ws : List (List UInt8)) (acc : List Int) : numsP (w :: ws) acc = if (numP w).2 = 0 then numsP ws (acc ++ [((numP w).1 : Int)]) else ([], ((numP w).2 : Int)) := rfl
theorem body_Numbers_loop (ws : List ByteArray) (hs : ∀ w ∈ ws, w.size ≤ 140737488351232) (hl : ws.length ≤ 4294967281) (d : Nat) : ∀ (i : Nat) (acc : List Int), i + d = ws.length → acc.length ≤ i →
    Ev (fun k => body_Numbers_p.l0 k acc ws (ws.length : Int) (i : Int)) (numsP ((ws.drop i).map (·.data.toList)) acc) := by
  induction d with
  | zero =>
    intro i acc hi ha
    rw [List.drop_eq_nil_of_le (by omega)]
    refine Ev.step (f := fun _ => some (acc, 0)) (fun k => ?_) (Ev.now _)
    simp only [body_Numbers_p.l0]
    rw [if_neg (by omega)]
  | succ d ih =>
    intro i acc hi ha
    have hlt : i < ws.length := by omega
    have hw := hs _ (List.getElem_mem hlt)
    have e1 : rdOf ByteArray.empty ws (i : Int) = ws[i] := by simp [rdOf, hlt]
    have e2 : wrap64 ((i : Int) + 1) = ((i + 1 : Nat) : Int) := by rw [w64 (by omega) (by omega)]; omega
    rw [List.drop_eq_getElem_cons hlt, List.map_cons, numsP_cons]
    generalize ws[i] = x at *
    by_cases c : (numP x.data.toList).2 = 0
    · rw [if_pos c]
      refine Ev.step (fun k => ?_) (ih (i + 1) (acc ++ [((numP x.data.toList).1 : Int)]) (by omega) (by simp; omega))
      simp only [body_Numbers_p.l0]
      rw [if_pos (by omega), if_pos (by omega), if_pos (by omega), e1, e2]
      unfold body_Number.f
      rw [if_pos hw]
      simp only [Option.bind_some]
      rw [if_pos (by omega), if_pos (by omega)]
    · rw [if_neg c]
      refine Ev.step (f := fun _ => some ([], ((numP x.data.toList).2 : Int))) (fun k => ?_) (Ev.now _)
      simp only [body_Numbers_p.l0]
      rw [if_pos (by omega), if_pos (by omega), if_pos (by omega), e1]
      unfold body_Number.f
      rw [if_pos hw]
      simp only [Option.bind_some]
      rw [if_neg (by omega)]
theorem splitC_sizes (c : UInt8) (l : List UInt8) : (splitC c l).length ≤ l.length + 1 ∧ ∀ w ∈ splitC c l, w.length ≤ l.length := by
  induction l with
  | nil => simp [splitC]
  | cons b l ih =>
    unfold splitC
    split
    · refine ⟨by simp; omega, fun w hw => ?_⟩
      rcases List.mem_cons.1 hw with rfl | hw
      · simp
      · have := ih.2 w hw; simp; omega
    · have hne := splitC_ne c l
      cases h : splitC c l with
      | nil => exact absurd h hne
      | cons x t =>
        rw [h] at ih
        simp only [consHead]
        refine ⟨by have := ih.1; simp at this ⊢; omega, fun w hw => ?_⟩
        rcases List.mem_cons.1 hw with rfl | hw
        · have := ih.2 x (by simp); simp; omega
        · have := ih.2 w (by simp [hw]); simp; omega
theorem body_Numbers_ev (s : ByteArray) (hs : s.size < 4294967281) : Ev (fun k => body_Numbers_p.f k s) (numsP (splitC 44 s.data.toList) []) := by
  obtain ⟨r, h1, h2⟩ := split_spec s 44 hs
  have hz := splitC_sizes 44 s.data.toList
  have hsl : s.data.toList.length = s.size := rfl
  rw [← h2] at hz ⊢
  rw [List.length_map] at hz
  have go := body_Numbers_loop r (fun w hw => by
    have := hz.2 _ (List.mem_map.2 ⟨w, hw, rfl⟩)
    have e : w.data.toList.length = w.size := rfl
    omega) (by omega) r.length 0 [] (by omega) (by simp)
  rw [List.drop_zero] at go
  refine Ev.congr (fun k => ?_) go
  unfold body_Numbers_p.f
  rw [h1]
  rfl
def body_Numbers.f (a0 : ByteArray) : Option (List Int × Int) := if a0.size < 4294967281 then some (numsP (splitC 44 a0.data.toList) []) else none
theorem body_Numbers.calls (a0 : ByteArray) (r1 : List Int) (r2 : Int) (w : World) (hT_ : Aside0 (Tabs_ w)) (h : body_Numbers.f a0 = some (r1, r2)) :
    Calls Tryz.prog 79 #[.string a0] w fun e w' => ∃ v0_ : Value, e = .returned (.tuple #[v0_, .int .i64 r2]) ∧ Kd.R (Kd.int .i64) 3 w' w.heap.size (fun _ => True) v0_ r1 ∧ Below w.heap.size w w' := by
  unfold body_Numbers.f at h
  by_cases c : a0.size < 4294967281
  · rw [if_pos c] at h
    obtain ⟨k, hk⟩ := (body_Numbers_ev a0 c).rounds
    exact body_Numbers_p.calls k a0 r1 r2 w hT_ (hk.trans h)
  · rw [if_neg c] at h; cases h
end Go.Proofs.YtgfigkfcmkdjdaaGreatDoor.B
end
section
namespace Go.Proofs.YtgfigkfcmkdjdaaGreatDoor.B
open Go.RowKit Go.Proofs.YtgfigkfcmkdjdaaGreatDoorW.PrintWords Go.Proofs.YtgfigkfcmkdjdaaGreatDoorW.PrintLast Go.Proofs.YtgfigkfcmkdjdaaGreatDoorW.PrintMore
attribute [local go_sem] max2_int min2_int max_two min_two max_three min_three max_four min_four   -- for this text's walks alone
set_option linter.unusedVariables false
set_option linter.unusedSimpArgs false
def takeInts (s : ByteArray) (most low high : Int) : List Int × Int :=
  if (numsP (splitC 44 s.data.toList) []).2 = 0 ∧ most < ((numsP (splitC 44 s.data.toList) []).1.length : Int) then ([], 3)
  else if (numsP (splitC 44 s.data.toList) []).1.any (fun n => decide (n < low) || decide (high < n)) = true then ([], 2) else numsP (splitC 44 s.data.toList) []
theorem numsP_len : ∀ (ws : List (List UInt8)) (acc : List Int), (numsP ws acc).1.length ≤ acc.length + ws.length
  | [], acc => Nat.le_refl _
  | w :: ws, acc => by
    unfold numsP
    split
    · have h := numsP_len ws (acc ++ [((numP w).1 : Int)])
      rw [List.length_append, List.length_cons, List.length_nil] at h
      rw [List.length_cons]; omega
    · exact Nat.zero_le _
set_option maxRecDepth 100000 in
set_option maxHeartbeats 4000000 in
theorem ints_closure (b0 b1 b2 : Nat) (most low high : Int) (s : ByteArray) (w : World) (hT_ : Aside0 (Tabs_ w)) (hs : s.size ≤ 512) (h0 : w.cell? ⟨b0, 0, none⟩ = some (.int .i64 most)) (h1 : w.cell? ⟨b1, 0, none⟩ = some (.int .i64 low)) (h2 : w.cell? ⟨b2, 0, none⟩ = some (.int .i64 high)) :
    Calls Tryz.prog 78 (#[.string s] ++ #[.pointer (some ⟨b0, 0, none⟩), .pointer (some ⟨b1, 0, none⟩), .pointer (some ⟨b2, 0, none⟩)]) w fun e w' => ∃ v, e = .returned (.tuple #[v, .int .i64 (takeInts s most low high).2]) ∧ Kd.R (Kd.int .i64) 3 w' w.heap.size (fun _ => True) v (takeInts s most low high).1 ∧ Below w.heap.size w w' := by
  have HN : Aside0 (Calls Tryz.prog 79 #[.string s] w fun e w' => ∃ v0_ : Value, e = .returned (.tuple #[v0_, .int .i64 (numsP (splitC 44 s.data.toList) []).2]) ∧ Kd.R (Kd.int .i64) 3 w' w.heap.size (fun _ => True) v0_ (numsP (splitC 44 s.data.toList) []).1 ∧ Below w.heap.size w w') := ⟨body_Numbers.calls s _ _ w hT_ (by unfold body_Numbers.f; rw [if_pos (by omega)])⟩
  have l0 := World.block_lt_of_cell? w _ h0
  have l1 := World.block_lt_of_cell? w _ h1
  have l2 := World.block_lt_of_cell? w _ h2
  have hll : (numsP (splitC 44 s.data.toList) []).1.length ≤ 1000 := by
    have h1 := numsP_len (splitC 44 s.data.toList) []
    have h2 := (splitC_sizes 44 s.data.toList).1
    have h3 : s.data.toList.length = s.size := rfl
    simp only [List.length_nil] at h1
    omega
  unfold takeInts
  generalize numsP (splitC 44 s.data.toList) [] = r at *
  obtain ⟨l, e⟩ := r
  simp only at HN hll ⊢
  obtain ⟨R, hRd⟩ : ∃ R : List Int × Int, R = (if e = 0 ∧ most < (l.length : Int) then ([], 3) else if l.any (fun n => decide (n < low) || decide (high < n)) = true then ([], 2) else (l, e)) := ⟨_, rfl⟩
  rw [← hRd]
  by_cases cA : e = 0 ∧ most < (l.length : Int)
  · have t1 : (e == 0) = true := by rw [cA.1]; rfl
    have t2 : decide (most < (l.length : Int)) = true := decide_eq_true cA.2
    rw [if_pos cA] at hRd
    subst hRd
    clear cA
    go_enter Tryz.func78, Tryz.ntmps78
    go_wp2_with (go_at_call 79; ((with_reducible refine HN.out.mono ?_)); rintro en w1 ⟨v, rfl, hR, hb⟩; obtain ⟨A, c, rfl, hc, hC⟩ := Kd.R_reads hR; have HB := Aside0.mk hb; have h0' := (hb.cell (p := ⟨b0, 0, none⟩) l0).trans h0; have h1' := (hb.cell (p := ⟨b1, 0, none⟩) l1).trans h1; have h2' := (hb.cell (p := ⟨b2, 0, none⟩) l2).trans h2; clear hb hR hc hC)
    go_ret2
    exact ⟨_, rfl, Kd.R_nil _ _ _ _ _, HB.out⟩
  · have HF : Aside0 (R = if l.any (fun n => decide (n < low) || decide (high < n)) = true then ([], 2) else (l, e)) := ⟨by rw [hRd, if_neg cA]⟩
    have ht : ((e == 0) = false) ∨ ((e == 0) = true ∧ decide (most < (l.length : Int)) = false) := by
      by_cases c : e = 0
      · exact .inr ⟨by rw [c]; rfl, decide_eq_false (fun h => cA ⟨c, h⟩)⟩
      · exact .inl (by rw [beq_eq_false_iff_ne]; exact c)
    clear hRd cA
    go_enter Tryz.func78, Tryz.ntmps78
    rcases ht with t1 | ⟨t1, t2⟩
    all_goals
      go_wp2_with (go_at_call 79; ((with_reducible refine HN.out.mono ?_)); rintro en w1 ⟨v, rfl, hR, hb⟩; obtain ⟨A, c, rfl, hc, hC⟩ := Kd.R_reads hR; have HB := Aside0.mk hb; have HC := Aside0.mk hC; have HR := Aside0.mk hR; have h0' := (hb.cell (p := ⟨b0, 0, none⟩) l0).trans h0; have h1' := (hb.cell (p := ⟨b1, 0, none⟩) l1).trans h1; have h2' := (hb.cell (p := ⟨b2, 0, none⟩) l2).trans h2; clear hb hR hc hC)
      go_loopw [26] (fun v26 wr => ∃ i : Nat, v26 = .int .i64 (i : Int) ∧ i ≤ l.length ∧ wr = w1 ∧ Aside0 ((l.drop i).any (fun n => decide (n < low) || decide (high < n)) = l.any (fun n => decide (n < low) || decide (high < n)))) (fun v26 _ => l.length - (intOf v26).toNat)
      case atStart => exact ⟨0, rfl, Nat.zero_le _, rfl, ⟨rfl⟩⟩
      case round =>
        obtain ⟨i, rfl, hi, rfl, HA⟩ := hrel
        by_cases hlt : i < l.length
        · obtain ⟨ad, hA, hx⟩ := Kd.at_int HC.out (i : Int) (by omega) (by omega)
          subst hA
          have k1 : decide ((i : Int) < (l.length : Int)) = true := by rw [decide_eq_true_eq]; omega
          have k2 : (0 : Int) ≤ (i : Int) ∧ (i : Int) < (l.length : Int) := by omega
          have hti : ((i : Int)).toNat = i := Int.toNat_natCast i
          have hd : l.drop i = rd l (i : Int) :: l.drop (i + 1) := by
            rw [List.drop_eq_getElem_cons hlt]; congr 1; simp [rd, hlt]
          rw [hd, List.any_cons] at HA
          rw [hti] at hx
          clear hd
          generalize rd l (i : Int) = x at *
          by_cases c1 : x < low
          · have t3 : decide (x < low) = true := decide_eq_true c1
            have HA2 : Aside0 (R = ([], 2)) := ⟨by rw [HF.out, if_pos (by rw [← HA.out, t3]; rfl)]⟩
            clear HA c1
            go_wp2
            go_ret2
            rw [HA2.out]
            exact ⟨_, rfl, Kd.R_nil _ _ _ _ _, HB.out⟩
          · have t3 : decide (x < low) = false := decide_eq_false c1
            by_cases c2 : high < x
            · have t4 : decide (high < x) = true := decide_eq_true c2
              have HA2 : Aside0 (R = ([], 2)) := ⟨by rw [HF.out, if_pos (by rw [← HA.out, t3, t4]; rfl)]⟩
              clear HA c1 c2
              go_wp2
              go_ret2
              rw [HA2.out]
              exact ⟨_, rfl, Kd.R_nil _ _ _ _ _, HB.out⟩
            · have t4 : decide (high < x) = false := decide_eq_false c2
              have HA2 : Aside0 ((l.drop (i + 1)).any (fun n => decide (n < low) || decide (high < n)) = l.any (fun n => decide (n < low) || decide (high < n))) := ⟨by rw [← HA.out, t3, t4]; rfl⟩
              clear HA c1 c2
              go_wp2
              refine ⟨⟨i + 1, by rw [show ((i + 1 : Nat) : Int) = (i : Int) + 1 by omega], by omega, trivial, HA2⟩, ?_⟩
              show l.length - ((i : Int) + 1).toNat < l.length - ((i : Int)).toNat
              omega
        · have k1 : decide ((i : Int) < (l.length : Int)) = false := by rw [decide_eq_false_iff_not]; omega
          have HA2 : Aside0 (R = (l, e)) := ⟨by rw [HF.out, if_neg (by rw [← HA.out, List.drop_eq_nil_of_le (by omega)]; simp)]⟩
          clear HA
          go_wp2
          go_ret2
          rw [HA2.out]
          exact ⟨_, rfl, HR.out, HB.out⟩
set_option maxRecDepth 100000 in
set_option maxHeartbeats 4000000 in
theorem ask_ints (g : Nat) (p : PlS) (F : FormS) (k : Nat) (w : World) (h : FormIs g p F k w) (hk : k < 9223372036854775807) (hv : ∀ x s, F.vals x = some s → s.size ≤ 512) (hT : ∀ X, Turned (FormB g p) w X → Tabs_ X) (t most low high : Int) (ht : i64ok t) (b0 b1 b2 : Nat)
    (h0 : w.cell? ⟨b0, 0, none⟩ = some (.int .i64 most)) (h1 : w.cell? ⟨b1, 0, none⟩ = some (.int .i64 low)) (h2 : w.cell? ⟨b2, 0, none⟩ = some (.int .i64 high)) (n0 : ¬ FormB g p b0) (n1 : ¬ FormB g p b1) (n2 : ¬ FormB g p b2) :
    Calls Tryz.prog 77 #[.pointer (some ⟨g, 0, none⟩), .int .i64 t, .func (.func 78) #[] #[.pointer (some ⟨b0, 0, none⟩), .pointer (some ⟨b1, 0, none⟩), .pointer (some ⟨b2, 0, none⟩)]] w fun e w' =>
      ∃ v, e = .returned v ∧ Kd.R (Kd.int .i64) 3 w' w.heap.size (fun _ => True) v (askL (fun s => takeInts s most low high) [] F t).1 ∧ FormIs g p (askL (fun s => takeInts s most low high) [] F t).2 (k + 1) w' ∧ Turned (FormB g p) w w' := by
  have hc1 := h.c1
  have hc2 := h.c2
  have hc4 := h.c4
  have HF := Aside0.mk h
  have HIs := Aside0.mk (form_is g p F k w h)
  by_cases he : F.e = 0
  · have t1 : (F.e != 0) = false := by rw [he]; rfl
    obtain ⟨w1, hrun, hAs, hgr⟩ := h.asked.put t ht hk
    have HF1 : Aside0 (FormIs g p (F.mark t) (k + 1) w1) := ⟨h.ask hAs hgr⟩
    have HT : Aside0 (Turned (FormB g p) w w1) := ⟨Turned.of_grown hgr (.inr rfl)⟩
    have HH := Aside0.mk (form_has g p _ _ w1 HF1.out t ht)
    have h0' := HT.out.cell h0 n0
    have h1' := HT.out.cell h1 n1
    have h2' := HT.out.cell h2 n2
    have HTb : Aside0 (Tabs_ w1) := ⟨hT w1 HT.out⟩
    have hc11 := HF1.out.c1
    have hlk := HF1.out.vals.look t ht
    clear hgr hAs h0 h1 h2 hT
    have hc31 := HF1.out.c3
    have hc41 := HF1.out.c4
    have hl31 := HF1.out.l3
    have hl41 := HF1.out.l4
    rw [show (F.mark t).vals t = F.vals t from rfl] at HH hlk
    cases hvt : F.vals t with
    | none =>
      have HA := Aside0.mk (askL_none (fun s => takeInts s most low high) [] F t he hvt)
      rw [hvt] at HH hlk
      have HE := Aside0.mk (HF1.out.fail t 110)
      have HT2 : Aside0 (Turned (FormB g p) w ((w1.setCell ⟨g, 3, none⟩ (.int .i64 t)).setCell ⟨g, 4, none⟩ (.int .i64 110))) := ⟨(HT.out.setCell (p := ⟨g, 3, none⟩) (.inl rfl) _).setCell (p := ⟨g, 4, none⟩) (.inl rfl) _⟩
      simp only [Option.isSome_none] at HH
      clear hlk
      go_enter Tryz.func77, Tryz.ntmps77
      go_wp2_with (first | (go_at_call 57; refine HIs.out.mono ?_; rintro e w' ⟨rfl, hh⟩; obtain rfl : w = w' := hh.symm) | (go_at_call 56; refine HH.out.mono ?_; rintro e w' ⟨rfl, hh⟩; obtain rfl : w1 = w' := hh.symm))
      go_ret
      rw [HA.out]
      exact ⟨_, rfl, Kd.R_nil _ _ _ _ _, HE.out, HT2.out⟩
    | some s =>
      have HA := Aside0.mk (askL_some (fun s => takeInts s most low high) [] F t he hvt)
      rw [hvt] at HH hlk
      simp only [Option.isSome_some, Option.getD_some] at HH hlk
      have HC := Aside0.mk (ints_closure b0 b1 b2 most low high s w1 HTb (hv t s hvt) h0' h1' h2')
      try simp only at HA
      generalize hr : takeInts s most low high = r at *
      obtain ⟨n, e⟩ := r
      try simp only at HA HC
      clear hr h0' h1' h2'
      have HR : Aside0 (∀ w2, Below w1.heap.size w1 w2 → FormIs g p (F.mark t) (k + 1) w2 ∧ Turned (FormB g p) w w2) := ⟨fun w2 hb => ⟨HF1.out.below hb, HT.out.trans (Turned.of_below hb)⟩⟩
      have HE : Aside0 (∀ w2, FormIs g p (F.mark t) (k + 1) w2 → Turned (FormB g p) w w2 → FormIs g p ((F.mark t).fail t e) (k + 1) ((w2.setCell ⟨g, 3, none⟩ (.int .i64 t)).setCell ⟨g, 4, none⟩ (.int .i64 e)) ∧ Turned (FormB g p) w ((w2.setCell ⟨g, 3, none⟩ (.int .i64 t)).setCell ⟨g, 4, none⟩ (.int .i64 e))) := ⟨fun w2 h2 ht2 => ⟨h2.fail t e, (ht2.setCell (p := ⟨g, 3, none⟩) (.inl rfl) _).setCell (p := ⟨g, 4, none⟩) (.inl rfl) _⟩⟩
      by_cases ce : e = 0
      · have HA2 : Aside0 (askL (fun s => takeInts s most low high) [] F t = (n, F.mark t)) := ⟨HA.out.trans (if_pos ce)⟩
        have t2 : (e == 0) = true := by rw [ce]; rfl
        clear HA
        go_enter Tryz.func77, Tryz.ntmps77
        go_wp2_with (first | (go_at_call 57; refine HIs.out.mono ?_; rintro e w' ⟨rfl, hh⟩; obtain rfl : w = w' := hh.symm) | (go_at_call 56; refine HH.out.mono ?_; rintro e w' ⟨rfl, hh⟩; obtain rfl : w1 = w' := hh.symm) | (go_at_call 78; refine HC.out.mono ?_; rintro en w2 ⟨v, rfl, hRv, hb⟩; obtain ⟨A, c, rfl, hc, hC⟩ := Kd.R_reads hRv; have HRv := Aside0.mk (Kd.R_lower hRv HT.out.size); clear hRv hc hC; have HR2 := Aside0.mk (HR.out w2 hb); have hc32 := HR2.out.1.c3; have hc42 := HR2.out.1.c4; have hl32 := HR2.out.1.l3; have hl42 := HR2.out.1.l4; clear hb))
        go_ret
        rw [HA2.out]
        exact ⟨_, rfl, HRv.out, HR2.out.1, HR2.out.2⟩
      · have HA2 : Aside0 (askL (fun s => takeInts s most low high) [] F t = ([], (F.mark t).fail t e)) := ⟨HA.out.trans (if_neg ce)⟩
        have t2 : (e == 0) = false := by rw [beq_eq_false_iff_ne]; exact ce
        clear HA
        go_enter Tryz.func77, Tryz.ntmps77
        go_wp2_with (first | (go_at_call 57; refine HIs.out.mono ?_; rintro e w' ⟨rfl, hh⟩; obtain rfl : w = w' := hh.symm) | (go_at_call 56; refine HH.out.mono ?_; rintro e w' ⟨rfl, hh⟩; obtain rfl : w1 = w' := hh.symm) | (go_at_call 78; refine HC.out.mono ?_; rintro en w2 ⟨v, rfl, hRv, hb⟩; obtain ⟨A, c, rfl, hc, hC⟩ := Kd.R_reads hRv; have HRv := Aside0.mk (Kd.R_lower hRv HT.out.size); clear hRv hc hC; have HR2 := Aside0.mk (HR.out w2 hb); have hc32 := HR2.out.1.c3; have hc42 := HR2.out.1.c4; have hl32 := HR2.out.1.l3; have hl42 := HR2.out.1.l4; clear hb))
        go_ret
        rw [HA2.out]
        exact ⟨_, rfl, Kd.R_nil _ _ _ _ _, (HE.out w2 HR2.out.1 HR2.out.2).1, (HE.out w2 HR2.out.1 HR2.out.2).2⟩
  · have HA : Aside0 (askL (fun s => takeInts s most low high) [] F t = ([], F)) := ⟨askL_off _ _ _ _ he⟩
    have t1 : (F.e != 0) = true := by rw [bne_iff_ne]; exact he
    go_enter Tryz.func77, Tryz.ntmps77
    go_wp2_with (go_at_call 57; refine HIs.out.mono ?_; rintro e w' ⟨rfl, hh⟩; obtain rfl : w = w' := hh.symm)
    go_ret
    rw [HA.out]
    exact ⟨_, rfl, Kd.R_nil _ _ _ _ _, HF.out.mono (by omega), Turned.refl _ _⟩
set_option maxRecDepth 100000 in
set_option maxHeartbeats 4000000 in
theorem form_ints (g : Nat) (p : PlS) (F : FormS) (k : Nat) (w : World) (h : FormIs g p F k w) (hk : k < 9223372036854775807) (hv : ∀ x s, F.vals x = some s → s.size ≤ 512) (hT : ∀ X, Turned (FormB g p) w X → Tabs_ X) (t most low high : Int) (ht : i64ok t) (ha : p.a < w.heap.size) :
    Calls Tryz.prog 60 #[.pointer (some ⟨g, 0, none⟩), .int .i64 t, .int .i64 most, .int .i64 low, .int .i64 high] w fun e w' =>
      ∃ v, e = .returned v ∧ Kd.R (Kd.int .i64) 3 w' w.heap.size (fun _ => True) v (askL (fun s => takeInts s most low high) [] F t).1 ∧ FormIs g p (askL (fun s => takeInts s most low high) [] F t).2 (k + 1) w' ∧ Turned (FormB g p) w w' := by
  have hg := h.lt
  have HB : Aside0 (Below w.heap.size w (((w.alloc (.cells #[.int .i64 most] 3)).alloc (.cells #[.int .i64 low] 3)).alloc (.cells #[.int .i64 high] 3))) := ⟨(((Below.refl _ _).alloc (Nat.le_refl _) _).alloc (by simp) _).alloc (by simp; omega) _⟩
  have HF := Aside0.mk (h.below HB.out)
  have HAk := Aside0.mk (ask_ints g p F k _ HF.out hk hv (fun X hX => hT X ((Turned.of_below HB.out).trans hX)) t most low high ht w.heap.size (w.heap.size + 1) (w.heap.size + 1 + 1) (by simp [go_sem]) (by simp [go_sem]) (by simp [go_sem]) (fun e => by rcases e with e | e <;> omega) (fun e => by rcases e with e | e <;> omega) (fun e => by rcases e with e | e <;> omega))
  have hmf : ∀ (fn : Fn) (first cap : Array Value) (w : World), (Instr.makeFunc fn first cap).run Tryz.prog w = .ok (.func fn first cap) w := fun _ _ _ _ => rfl
  go_enter Tryz.func60, Tryz.ntmps60
  go_wp2_with (go_at_call 77; refine HAk.out.mono ?_; rintro e w' ⟨v, rfl, hRv, h1, h2⟩; obtain ⟨A, c, rfl, hc, hC⟩ := Kd.R_reads hRv; have HRv := Aside0.mk (Kd.R_lower hRv HB.out.size); clear hRv hc hC)
  go_ret
  exact ⟨_, rfl, HRv.out, h1, (Turned.of_below HB.out).trans h2⟩
end Go.Proofs.YtgfigkfcmkdjdaaGreatDoor.B
end
