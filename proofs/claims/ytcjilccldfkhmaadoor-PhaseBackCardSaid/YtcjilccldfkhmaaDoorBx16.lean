/- Each Go function that the laws of this seat reach, as a plain Lean function, and its contract: the machine's call does what that function says. -/
import Derived.Test.YtcjilccldfkhmaaDoorBx0
import Derived.Test.YtcjilccldfkhmaaDoorBx2
import Derived.Test.YtcjilccldfkhmaaDoorBx3
import Derived.Test.YtcjilccldfkhmaaDoorBx4
import Derived.Test.YtcjilccldfkhmaaDoorBx5
import Derived.Test.YtcjilccldfkhmaaDoorBx6
import Derived.Test.YtcjilccldfkhmaaDoorBx15
namespace Go.Proofs.YtcjilccldfkhmaaDoor.B
open Go.RowKit Go.Proofs.YtcjilccldfkhmaaDoorW.PrintWords Go.Proofs.YtcjilccldfkhmaaDoorW.PrintLast Go.Proofs.YtcjilccldfkhmaaDoorW.PrintMore
attribute [local go_sem] max2_int min2_int max_two min_two max_three min_three max_four min_four   -- for this text's walks alone
set_option linter.unusedVariables false
set_option linter.unusedSimpArgs false

--PART
/-! ### phase_Shift_p: function 20 -/
def phase_Shift_p.l0 : Nat → Int → List (S37) → Int → Option ((List (S37)) × Int)
  | 0, _, _, _ => none
  | k + 1, x2, x9, x10 => if x10 < (x9.length : Int) then (if 0 ≤ x10 then ((some (x9.set (x10 : Int).toNat (⟨wrap64 (((rd_T37 x9 x10).f0) + x2), (rd_T37 x9 x10).f1⟩ : S37) : List (S37))).bind fun y161 => (if ((rd_T37 y161 x10).f0) > 1099511627776 then (some (([] : List (S37)), 370)) else (phase_Shift_p.l0 k x2 y161 (wrap64 (x10 + 1))))) else (none)) else (some (x9, 0))
def phase_Shift_p.f (k : Nat) (l0 : List (S37)) (a1 : Int) (a2 : Int) : Option ((List (S37)) × Int) := (phase_asked.f l0 a1).bind fun t154 => (if t154 = 0 then ((phase_within.f a2 0 1099511627776).bind fun t155 => (if t155 = true then ((api_Phase.f l0).bind fun t156 => ((phase_later.f l0 a1).bind fun t159 => (phase_Shift_p.l0 k a2 t156 t159))) else (some (([] : List (S37)), 2)))) else (some (([] : List (S37)), t154)))
theorem phase_Shift_p.mono_l : ∀ k, (∀ y0 y1 y2, LeO (phase_Shift_p.l0 k y0 y1 y2) (phase_Shift_p.l0 (k + 1) y0 y1 y2))
  | 0 => fun _ _ _ r h => by simp [phase_Shift_p.l0] at h
  | k + 1 => by
    have ih0 := phase_Shift_p.mono_l k
    · intro y0 y1 y2
      unfold phase_Shift_p.l0
      repeat' first
      | (with_reducible exact ih0 _ _ _)
      | (with_reducible exact LeO.refl _)
      | (with_reducible exact LeO.none _)
      | (with_reducible refine LeO.ite ?_ ?_)
      | (with_reducible refine LeO.bind ?_ (fun _ => ?_))
      | exact ih0 _ _ _
      | exact LeO.none _
      | refine LeO.ite ?_ ?_
      | refine LeO.bind ?_ (fun _ => ?_)
theorem phase_Shift_p.mono : ∀ a0 a1 a2 k, LeO (phase_Shift_p.f k a0 a1 a2) (phase_Shift_p.f (k + 1) a0 a1 a2) := by
  intro a0 a1 a2 k
  have ih0 := phase_Shift_p.mono_l k
  unfold phase_Shift_p.f
  repeat' first
      | (with_reducible exact ih0 _ _ _)
      | (with_reducible exact LeO.refl _)
      | (with_reducible exact LeO.none _)
      | (with_reducible refine LeO.ite ?_ ?_)
      | (with_reducible refine LeO.bind ?_ (fun _ => ?_))
      | exact ih0 _ _ _
      | exact LeO.none _
      | refine LeO.ite ?_ ?_
      | refine LeO.bind ?_ (fun _ => ?_)
set_option maxHeartbeats 8000000 in
set_option maxRecDepth 100000 in
theorem phase_Shift_p.calls (k : Nat) (A0 : Option Addr) (c0 : Nat) (l0 : List (S37)) (a1 : Int) (a2 : Int) (r1 : List (S37)) (r2 : Int) (w : World) (hr0 : Kd.C k37 w A0 l0.length l0) (hc0 : l0.length ≤ c0) (h : phase_Shift_p.f k l0 a1 a2 = some (r1, r2)) :
    Calls Tryd.prog 20 #[.slice A0 l0.length c0, .int .i64 a1, .int .i64 a2] w fun e w' => ∃ v0_ : Value, e = .returned (.tuple #[v0_, .int .i64 r2]) ∧ Kd.R k37 37 w' w.heap.size (fun _ => True) v0_ r1 ∧ Below w.heap.size w w' := by
  have HR0 := Aside0.mk hr0
  have HC0 := Aside0.mk hc0
  clear hr0 hc0
  have HB := Aside0.mk (Below.refl w.heap.size w)
  have H : ((phase_asked.f l0 a1).bind fun t154 => (if t154 = 0 then ((phase_within.f a2 0 1099511627776).bind fun t155 => (if t155 = true then ((api_Phase.f l0).bind fun t156 => ((phase_later.f l0 a1).bind fun t159 => (phase_Shift_p.l0 k a2 t156 t159))) else (some (([] : List (S37)), 2)))) else (some (([] : List (S37)), t154)))) = some (r1, r2) := h
  clear h
  replace H := Option.bind_eq_some_iff.mp H
  obtain ⟨t154, A40, H⟩ := H
  replace H : (if t154 = 0 then ((phase_within.f a2 0 1099511627776).bind fun t155 => (if t155 = true then ((api_Phase.f l0).bind fun t156 => ((phase_later.f l0 a1).bind fun t159 => (phase_Shift_p.l0 k a2 t156 t159))) else (some (([] : List (S37)), 2)))) else (some (([] : List (S37)), t154))) = some (r1, r2) := H
  have A4 := Aside0.mk A40
  clear A40
  by_cases c5 : t154 = 0
  · rw [if_pos c5] at H
    have c5b0 : (t154 == 0) = true := beq_iff_eq.mpr c5
    have c5b1 : (t154 != 0) = false := bne_eq_false_iff_eq.mpr c5
    clear c5
    replace H := Option.bind_eq_some_iff.mp H
    obtain ⟨t155, A60, H⟩ := H
    replace H : (if t155 = true then ((api_Phase.f l0).bind fun t156 => ((phase_later.f l0 a1).bind fun t159 => (phase_Shift_p.l0 k a2 t156 t159))) else (some (([] : List (S37)), 2))) = some (r1, r2) := H
    have A6 := Aside0.mk A60
    clear A60
    by_cases c7 : t155 = true
    · subst c7
      have H1 : ((api_Phase.f l0).bind fun t156 => ((phase_later.f l0 a1).bind fun t159 => (phase_Shift_p.l0 k a2 t156 t159))) = some (r1, r2) := by rw [if_pos rfl] at H; exact H
      clear H
      have H := H1
      clear H1
      replace H := Option.bind_eq_some_iff.mp H
      obtain ⟨t156, A80, H⟩ := H
      replace H : ((phase_later.f l0 a1).bind fun t159 => (phase_Shift_p.l0 k a2 t156 t159)) = some (r1, r2) := H
      have A8 := Aside0.mk A80
      clear A80
      replace H := Option.bind_eq_some_iff.mp H
      obtain ⟨t159, A90, H⟩ := H
      replace H : (phase_Shift_p.l0 k a2 t156 t159) = some (r1, r2) := H
      have A9 := Aside0.mk A90
      clear A90
      have H' := Aside0.mk H
      clear H
      go_enter Tryd.func20, Tryd.ntmps20
      go_wp2_with (first | ((with_reducible refine gate_callee (f := 25) rfl ?_); refine goesL_ (some 13) rfl rfl Tryd.func25 (by kernel_rfl) rfl #[.slice A0 l0.length c0, .int .i64 a1] rfl (by (try simp only [List.map_toArray, List.map_cons, List.map_nil]); first | done | rfl | (simp only [List.length_drop, List.length_take]; rfl)) ?_; (with_reducible refine (phase_asked.calls _ _ l0 a1 t154 _ ?side1 ?side2 A4.out).mono ?_); (case side1 => repeat (first | exact HR0.out | (with_reducible refine Kd.C_alloc ?_ _) | (with_reducible refine Kd.C_drewN ?_ _) | (with_reducible refine Kd.C_drew ?_))); (case side2 => exact HC0.out); rintro e w10 ⟨rfl, hb⟩; refine ⟨_, rfl, ?_⟩; have n0_ := Aside0.mk (below_step (by repeat (first | (with_reducible first | exact HB.out | apply below_alloc | apply pw_below_drewN | apply below_drew1) | exact HB.out)) hb); clear HB; have HB := n0_; clear n0_; (try clear hb); (try clear hb2); (try clear hk); (try clear hi)) | ((with_reducible refine gate_callee (f := 27) rfl ?_); refine goesL_ (some 18) rfl rfl Tryd.func27 (by kernel_rfl) rfl #[.int .i64 a2, .int .i64 0, .int .i64 1099511627776] rfl (by (try simp only [List.map_toArray, List.map_cons, List.map_nil]); first | done | rfl | (simp only [List.length_drop, List.length_take]; rfl)) ?_; (with_reducible refine (phase_within.calls a2 0 1099511627776 true _ A6.out).mono ?_); rintro e w' ⟨rfl, ⟨nd, rfl⟩⟩; refine ⟨_, rfl, ?_⟩) | ((with_reducible refine gate_callee (f := 30) rfl ?_); refine goesL_ (some 21) rfl rfl Tryd.func30 (by kernel_rfl) rfl #[.slice A0 l0.length c0] rfl (by (try simp only [List.map_toArray, List.map_cons, List.map_nil]); first | done | rfl | (simp only [List.length_drop, List.length_take]; rfl)) ?_; (with_reducible refine (api_Phase.calls _ _ l0 t156 _ ?side1 ?side2 A8.out).mono ?_); (case side1 => repeat (first | exact (Kd.C_below HR0.out (by repeat (first | (with_reducible first | exact HB.out | apply below_alloc | apply pw_below_drewN | apply below_drew1) | exact HB.out))) | (with_reducible refine Kd.C_alloc ?_ _) | (with_reducible refine Kd.C_drewN ?_ _) | (with_reducible refine Kd.C_drew ?_))); (case side2 => exact HC0.out); rintro e w11 ⟨v157, rfl, ho0, hb⟩; refine ⟨_, rfl, ?_⟩; have n0_ := Aside0.mk (Kd.R_lower ho0 (below_size (by repeat (first | (with_reducible first | exact HB.out | apply below_alloc | apply pw_below_drewN | apply below_drew1) | exact HB.out)))); have n1_ := Aside0.mk (below_step (by repeat (first | (with_reducible first | exact HB.out | apply below_alloc | apply pw_below_drewN | apply below_drew1) | exact HB.out)) hb); clear HB; have HO158 := n0_; have HB := n1_; clear n0_ n1_; (try clear hb); (try clear hb2); (try clear hk); (try clear hi); (try clear ho0)) | ((with_reducible refine gate_callee (f := 26) rfl ?_); refine goesL_ (some 24) rfl rfl Tryd.func26 (by kernel_rfl) rfl #[.slice A0 l0.length c0, .int .i64 a1] rfl (by (try simp only [List.map_toArray, List.map_cons, List.map_nil]); first | done | rfl | (simp only [List.length_drop, List.length_take]; rfl)) ?_; (with_reducible refine (phase_later.calls _ _ l0 a1 t159 _ ?side1 ?side2 A9.out).mono ?_); (case side1 => repeat (first | exact (Kd.C_below HR0.out HB.out) | (with_reducible refine Kd.C_alloc ?_ _) | (with_reducible refine Kd.C_drewN ?_ _) | (with_reducible refine Kd.C_drew ?_))); (case side2 => exact HC0.out); rintro e w12 ⟨rfl, hb⟩; refine ⟨_, rfl, ?_⟩; have n0_ := Aside0.mk (Kd.R_below (by (with_reducible repeat (first | apply Kd.R_alloc | apply Kd.R_drewN | apply Kd.R_drew)); exact HO158.out) hb); have n1_ := Aside0.mk (below_step (by repeat (first | (with_reducible first | exact HB.out | apply below_alloc | apply pw_below_drewN | apply below_drew1) | exact HB.out)) hb); clear HO158; clear HB; have HO158 := n0_; have HB := n1_; clear n0_ n1_; (try clear hb); (try clear hb2); (try clear hk); (try clear hi)))
      go_loopg [10] k (fun kq v10 w' => ∃ (x9_1 : List (S37)) (x10_1 : Int), v10 = .int .i64 x10_1 ∧ Aside0 (phase_Shift_p.l0 kq a2 x9_1 x10_1 = some (r1, r2)) ∧ Aside0 (kq ≤ k) ∧ Aside0 (Kd.R k37 37 w' w.heap.size (fun _ => True) v157 x9_1) ∧ Aside0 (Below w.heap.size w w'))
      case atStart => exact ⟨(t156), (t159), (by first | rfl | (simp; done) | (simp [*]; done)), H', ⟨Nat.le_refl _⟩, ⟨by (with_reducible repeat (first | apply Kd.R_alloc | apply Kd.R_drewN | apply Kd.R_drew)); exact HO158.out⟩, ⟨by repeat (first | (with_reducible first | exact HB.out | apply below_alloc | apply pw_below_drewN | apply below_drew1) | exact HB.out)⟩⟩
      case round =>
        clear H'
        try clear c2
        try clear p2
        try clear c3
        try clear c5
        try clear c5b0
        try clear c5b1
        try clear c7
        obtain ⟨x9_1, x10_1, rfl, HA, HK1, HO_9, HB⟩ := hrel
        cases gk with
        | zero => exact absurd HA.out (by simp [phase_Shift_p.l0])
        | succ k1 =>
          have H := HA.out
          clear HA
          simp only [phase_Shift_p.l0] at H
          by_cases c13 : x10_1 < (x9_1.length : Int)
          · rw [if_pos c13] at H
            have c13b0 : decide (x10_1 < (x9_1.length : Int)) = true := decide_eq_true c13
            clear c13
            by_cases c14 : 0 ≤ x10_1
            · rw [if_pos c14] at H
              have c14b0 : decide (0 ≤ x10_1) = true := decide_eq_true c14
              clear c14
              obtain ⟨y161, hy161⟩ : ∃ y_ : List (S37), y_ = (x9_1.set (x10_1 : Int).toNat (⟨wrap64 (((rd_T37 x9_1 x10_1).f0) + a2), (rd_T37 x9_1 x10_1).f1⟩ : S37)) := ⟨_, rfl⟩
              replace H : (if ((rd_T37 y161 x10_1).f0) > 1099511627776 then (some (([] : List (S37)), 370)) else (phase_Shift_p.l0 k1 a2 y161 (wrap64 (x10_1 + 1)))) = some (r1, r2) := by first | (rw [hy161]; with_reducible exact H) | (have H2_ := (Option.bind_some _ _).symm.trans H; rw [hy161]; with_reducible exact H2_) | (have H2_ := (Option.bind_some _ _).symm.trans H; with_reducible exact H2_) | with_reducible exact H | (rw [hy161]; exact H) | exact H
              have Ny161 := Aside0.mk hy161
              clear hy161
              by_cases c16 : ((rd_T37 y161 x10_1).f0) > 1099511627776
              · rw [if_pos c16] at H
                have c16b0 : decide (1099511627776 < ((rd_T37 y161 x10_1).f0)) = true := decide_eq_true c16
                clear c16
                simp only [Option.some.injEq, Prod.mk.injEq] at H
                obtain ⟨rfl, rfl⟩ := H
                obtain ⟨Ao17, co17, eo17⟩ := Kd.R_slice HO_9.out
                subst eo17
                have p160 : 0 ≤ (x10_1 : Int) := of_decide_eq_true (by first | (with_reducible assumption) | assumption)
                have q160 : x10_1 < (x9_1.length : Int) := of_decide_eq_true (by first | (with_reducible assumption) | assumption)
                obtain ⟨ad160, e160, hx160_0, hx160_1⟩ := at_T37 (Kd.R_reads' HO_9.out).2.2 x10_1 p160 q160
                cases e160
                replace p160 := eq_true p160
                replace q160 := eq_true q160
                have p15 : 0 ≤ (x10_1 : Int) := of_decide_eq_true (by first | (with_reducible assumption) | assumption)
                have q15 : (x10_1 : Int) < ((x9_1.length : Int) : Int) := of_decide_eq_true (by first | (with_reducible assumption) | assumption)
                obtain ⟨go15, co15, eo15, gb15, gl15, cl15, HG15⟩ := Kd.R_form HO_9.out (by omega)
                (first | cases eo15 | (injection eo15 with ea_ en_ ec_; (first | subst ea_ | (injection ea_ with ea_; subst ea_)); subst ec_; clear en_))
                have GB15 := Aside0.mk gb15
                have GG15 := Aside0.mk HG15
                clear gb15 gl15 HG15
                (first | simp only [add_plain] at hx160_0 | skip)
                (first | simp only [add_plain] at hx160_1 | skip)
                obtain ⟨ce15, hcl15, hM15, hcc15, hfr15⟩ := Kd.R_elem HO_9.out z37 (x10_1 : Int) p15 q15
                obtain rfl := k37_openM hM15
                have hx15_0 : wr.cell? ⟨go15, (x10_1 : Int).toNat * 2, none⟩ = some (.int .i64 ((rd_T37 x9_1 x10_1).f0)) := hcc15 0 _ rfl
                have hx15_1 : wr.cell? ⟨go15, (x10_1 : Int).toNat * 2 + 1, none⟩ = some (.int .i64 ((rd_T37 x9_1 x10_1).f1)) := hcc15 1 _ rfl
                have hf15_0 : wr.frozen? ⟨go15, (x10_1 : Int).toNat * 2, none⟩ = false := hfr15 0
                have hf15_1 : wr.frozen? ⟨go15, (x10_1 : Int).toNat * 2 + 1, none⟩ = false := hfr15 1
                clear hcl15 hcc15 hfr15 hM15
                replace p15 := eq_true p15
                replace q15 := eq_true q15
                have HX18 := Aside0.mk (show Kd.R k37 37 wr w.heap.size (fun _ => True) (.slice (some ⟨go15, 0, none⟩) x9_1.length co17) x9_1 from (by (with_reducible repeat (first | apply Kd.R_alloc | apply Kd.R_drewN | apply Kd.R_drew)); exact HO_9.out))
                obtain ⟨ce18, hcl18, hM18, hcc18, hfr18⟩ := Kd.R_elem HX18.out z37 (x10_1 : Int) (of_decide_eq_true (by first | (with_reducible assumption) | assumption)) (by have h_ : (x10_1 : Int) < ((x9_1.length : Int) : Int) := of_decide_eq_true (by first | (with_reducible assumption) | assumption); first | exact h_ | (have e_ := (Kd.R_reads' HO_9.out).1; omega) | simpa using h_)
                obtain rfl := k37_openM hM18
                have HP18 := Kd.R_seg HX18.out (x10_1 : Int) (of_decide_eq_true (by first | (with_reducible assumption) | assumption)) (by have h_ : (x10_1 : Int) < ((x9_1.length : Int) : Int) := of_decide_eq_true (by first | (with_reducible assumption) | assumption); first | exact h_ | (have e_ := (Kd.R_reads' HO_9.out).1; omega) | simpa using h_) (seg := [.int .i64 (wrap64 (((rd_T37 x9_1 x10_1).f0) + a2))]) (j := 0) hcl18 hcc18 (show 1 ≤ 2 from by decide) (x' := (⟨wrap64 (((rd_T37 x9_1 x10_1).f0) + a2), (rd_T37 x9_1 x10_1).f1⟩ : S37)) (k37_mkM _ _ _ (⟨wrap64 (((rd_T37 x9_1 x10_1).f0) + a2), (rd_T37 x9_1 x10_1).f1⟩ : S37) ) (fun _ hk => hk)
                have hx18_0 := hcc18 0 _ rfl
                (try simp only [show (k37).sz = 2 from rfl, Nat.mul_one, Nat.add_zero] at hx18_0)
                have hf18_0 := hfr18 0
                (try simp only [show (k37).sz = 2 from rfl, Nat.mul_one, Nat.add_zero] at hf18_0)
                clear hcl18 hcc18 hfr18 hM18
                go_wp2_with (first | ((with_reducible refine gate_store (t := 3) (p := 39) rfl ?_); refine store_event (t := 3) (p := 39) (v := ?vo_w19) (w1 := (wr.setCell ⟨go15, (x10_1 : Int).toNat * 2, none⟩ (.int .i64 (wrap64 (((rd_T37 x9_1 x10_1).f0) + a2))))) ?hg ?ho ?hn ?hr ?_; (case ho => rfl); (case hg => rfl); (case hn => rfl); (case hr => first | (go_simp; done) | (go_simp; rfl)); intro w19 hw; have hg : wr.grownBy w19 (some go15) := (by rw [hw]; exact HP18.2); have hp_ : Kd.R k37 37 w19 w.heap.size (fun _ => True) (.slice (some ⟨go15, 0, none⟩) x9_1.length co17) y161 := (by rw [hw, Ny161.out]; exact HP18.1); clear HP18; have n0_ := Aside0.mk (hp_); have n1_ := Aside0.mk ((by rw [hw]; exact below_set (HB.out) GB15.out : Below w.heap.size w w19)); clear HO_9; clear HB; have HO_9 := n0_; have HB := n1_; clear n0_ n1_; clear hg hw hp_; have p162 : 0 ≤ (x10_1 : Int) := of_decide_eq_true (by first | (with_reducible assumption) | assumption); have q162 : x10_1 < (y161.length : Int) := (by have h_ : (x10_1 : Int) < ((x9_1.length : Int) : Int) := of_decide_eq_true (by first | (with_reducible assumption) | assumption); first | (have e_ := (Kd.R_reads' HO_9.out).1; omega) | simpa only [Ny161.out, List.length_set] using h_); have ql162 : ((x10_1 : Int) < ((x9_1.length : Int) : Int)) = True := eq_true (of_decide_eq_true (by first | (with_reducible assumption) | assumption)); obtain ⟨ad162, e162, hx162_0, hx162_1⟩ := at_T37 (Kd.R_reads' HO_9.out).2.2 x10_1 p162 q162; obtain rfl : (⟨go15, 0, none⟩ : Addr) = ad162 := (by injection e162); (first | simp only [add_plain] at hx162_0 | simp only [add_at] at hx162_0 | simp only [Addr.add, Nat.zero_add] at hx162_0 | skip); (first | simp only [add_plain] at hx162_1 | simp only [add_at] at hx162_1 | simp only [Addr.add, Nat.zero_add] at hx162_1 | skip); replace p162 := eq_true p162; replace q162 := eq_true q162))
                go_ret2
                exact ⟨_, by first | rfl | (simp [errW_none, errW_some] <;> rfl) | (simp [*, errW_none, errW_some] <;> rfl), by first | exact Kd.R_nil _ _ _ _ _ | exact Kd.N_nil _ _ _ _ _ | exact Kd.V_nil _ _ _ _ _ | exact Kd.Q_nil _ _ _ _ _ | exact Kd.S_nil _ _ _ _ _, by repeat (first | (with_reducible first | exact HB.out | apply below_alloc | apply pw_below_drewN | apply below_drew1) | exact HB.out)⟩
              · rw [if_neg c16] at H
                have c16b0 : decide (1099511627776 < ((rd_T37 y161 x10_1).f0)) = false := decide_eq_false c16
                clear c16
                have H' := Aside0.mk H
                clear H
                obtain ⟨Ao20, co20, eo20⟩ := Kd.R_slice HO_9.out
                subst eo20
                have p160 : 0 ≤ (x10_1 : Int) := of_decide_eq_true (by first | (with_reducible assumption) | assumption)
                have q160 : x10_1 < (x9_1.length : Int) := of_decide_eq_true (by first | (with_reducible assumption) | assumption)
                obtain ⟨ad160, e160, hx160_0, hx160_1⟩ := at_T37 (Kd.R_reads' HO_9.out).2.2 x10_1 p160 q160
                cases e160
                replace p160 := eq_true p160
                replace q160 := eq_true q160
                have p15 : 0 ≤ (x10_1 : Int) := of_decide_eq_true (by first | (with_reducible assumption) | assumption)
                have q15 : (x10_1 : Int) < ((x9_1.length : Int) : Int) := of_decide_eq_true (by first | (with_reducible assumption) | assumption)
                obtain ⟨go15, co15, eo15, gb15, gl15, cl15, HG15⟩ := Kd.R_form HO_9.out (by omega)
                (first | cases eo15 | (injection eo15 with ea_ en_ ec_; (first | subst ea_ | (injection ea_ with ea_; subst ea_)); subst ec_; clear en_))
                have GB15 := Aside0.mk gb15
                have GG15 := Aside0.mk HG15
                clear gb15 gl15 HG15
                (first | simp only [add_plain] at hx160_0 | skip)
                (first | simp only [add_plain] at hx160_1 | skip)
                obtain ⟨ce15, hcl15, hM15, hcc15, hfr15⟩ := Kd.R_elem HO_9.out z37 (x10_1 : Int) p15 q15
                obtain rfl := k37_openM hM15
                have hx15_0 : wr.cell? ⟨go15, (x10_1 : Int).toNat * 2, none⟩ = some (.int .i64 ((rd_T37 x9_1 x10_1).f0)) := hcc15 0 _ rfl
                have hx15_1 : wr.cell? ⟨go15, (x10_1 : Int).toNat * 2 + 1, none⟩ = some (.int .i64 ((rd_T37 x9_1 x10_1).f1)) := hcc15 1 _ rfl
                have hf15_0 : wr.frozen? ⟨go15, (x10_1 : Int).toNat * 2, none⟩ = false := hfr15 0
                have hf15_1 : wr.frozen? ⟨go15, (x10_1 : Int).toNat * 2 + 1, none⟩ = false := hfr15 1
                clear hcl15 hcc15 hfr15 hM15
                replace p15 := eq_true p15
                replace q15 := eq_true q15
                have HX21 := Aside0.mk (show Kd.R k37 37 wr w.heap.size (fun _ => True) (.slice (some ⟨go15, 0, none⟩) x9_1.length co20) x9_1 from (by (with_reducible repeat (first | apply Kd.R_alloc | apply Kd.R_drewN | apply Kd.R_drew)); exact HO_9.out))
                obtain ⟨ce21, hcl21, hM21, hcc21, hfr21⟩ := Kd.R_elem HX21.out z37 (x10_1 : Int) (of_decide_eq_true (by first | (with_reducible assumption) | assumption)) (by have h_ : (x10_1 : Int) < ((x9_1.length : Int) : Int) := of_decide_eq_true (by first | (with_reducible assumption) | assumption); first | exact h_ | (have e_ := (Kd.R_reads' HO_9.out).1; omega) | simpa using h_)
                obtain rfl := k37_openM hM21
                have HP21 := Kd.R_seg HX21.out (x10_1 : Int) (of_decide_eq_true (by first | (with_reducible assumption) | assumption)) (by have h_ : (x10_1 : Int) < ((x9_1.length : Int) : Int) := of_decide_eq_true (by first | (with_reducible assumption) | assumption); first | exact h_ | (have e_ := (Kd.R_reads' HO_9.out).1; omega) | simpa using h_) (seg := [.int .i64 (wrap64 (((rd_T37 x9_1 x10_1).f0) + a2))]) (j := 0) hcl21 hcc21 (show 1 ≤ 2 from by decide) (x' := (⟨wrap64 (((rd_T37 x9_1 x10_1).f0) + a2), (rd_T37 x9_1 x10_1).f1⟩ : S37)) (k37_mkM _ _ _ (⟨wrap64 (((rd_T37 x9_1 x10_1).f0) + a2), (rd_T37 x9_1 x10_1).f1⟩ : S37) ) (fun _ hk => hk)
                have hx21_0 := hcc21 0 _ rfl
                (try simp only [show (k37).sz = 2 from rfl, Nat.mul_one, Nat.add_zero] at hx21_0)
                have hf21_0 := hfr21 0
                (try simp only [show (k37).sz = 2 from rfl, Nat.mul_one, Nat.add_zero] at hf21_0)
                clear hcl21 hcc21 hfr21 hM21
                go_wp2_with (first | ((with_reducible refine gate_store (t := 3) (p := 39) rfl ?_); refine store_event (t := 3) (p := 39) (v := ?vo_w22) (w1 := (wr.setCell ⟨go15, (x10_1 : Int).toNat * 2, none⟩ (.int .i64 (wrap64 (((rd_T37 x9_1 x10_1).f0) + a2))))) ?hg ?ho ?hn ?hr ?_; (case ho => rfl); (case hg => rfl); (case hn => rfl); (case hr => first | (go_simp; done) | (go_simp; rfl)); intro w22 hw; have hg : wr.grownBy w22 (some go15) := (by rw [hw]; exact HP21.2); have hp_ : Kd.R k37 37 w22 w.heap.size (fun _ => True) (.slice (some ⟨go15, 0, none⟩) x9_1.length co20) y161 := (by rw [hw, Ny161.out]; exact HP21.1); clear HP21; have n0_ := Aside0.mk (hp_); have n1_ := Aside0.mk ((by rw [hw]; exact below_set (HB.out) GB15.out : Below w.heap.size w w22)); clear HO_9; clear HB; have HO_9 := n0_; have HB := n1_; clear n0_ n1_; clear hg hw hp_; have p162 : 0 ≤ (x10_1 : Int) := of_decide_eq_true (by first | (with_reducible assumption) | assumption); have q162 : x10_1 < (y161.length : Int) := (by have h_ : (x10_1 : Int) < ((x9_1.length : Int) : Int) := of_decide_eq_true (by first | (with_reducible assumption) | assumption); first | (have e_ := (Kd.R_reads' HO_9.out).1; omega) | simpa only [Ny161.out, List.length_set] using h_); have ql162 : ((x10_1 : Int) < ((x9_1.length : Int) : Int)) = True := eq_true (of_decide_eq_true (by first | (with_reducible assumption) | assumption)); obtain ⟨ad162, e162, hx162_0, hx162_1⟩ := at_T37 (Kd.R_reads' HO_9.out).2.2 x10_1 p162 q162; obtain rfl : (⟨go15, 0, none⟩ : Addr) = ad162 := (by injection e162); (first | simp only [add_plain] at hx162_0 | simp only [add_at] at hx162_0 | simp only [Addr.add, Nat.zero_add] at hx162_0 | skip); (first | simp only [add_plain] at hx162_1 | simp only [add_at] at hx162_1 | simp only [Addr.add, Nat.zero_add] at hx162_1 | skip); replace p162 := eq_true p162; replace q162 := eq_true q162))
                go_roundg k1
                case measure => have := HK1.out; omega
                case rel => exact ⟨(y161), (wrap64 (x10_1 + 1)), (by first | rfl | (simp; done) | (simp [*]; done)), H', ⟨by have := HK1.out; omega⟩, ⟨by (with_reducible repeat (first | apply Kd.R_alloc | apply Kd.R_drewN | apply Kd.R_drew)); exact HO_9.out⟩, ⟨by repeat (first | (with_reducible first | exact HB.out | apply below_alloc | apply pw_below_drewN | apply below_drew1) | exact HB.out)⟩⟩
            · rw [if_neg c14] at H
              exact absurd H (by simp)
          · rw [if_neg c13] at H
            have c13b0 : decide (x10_1 < (x9_1.length : Int)) = false := decide_eq_false c13
            clear c13
            simp only [Option.some.injEq, Prod.mk.injEq] at H
            obtain ⟨rfl, rfl⟩ := H
            obtain ⟨Ao23, co23, eo23⟩ := Kd.R_slice HO_9.out
            subst eo23
            go_wp2
            go_ret2
            exact ⟨_, by first | rfl | (simp [errW_none, errW_some] <;> rfl) | (simp [*, errW_none, errW_some] <;> rfl), by (with_reducible repeat (first | apply Kd.R_alloc | apply Kd.R_drewN | apply Kd.R_drew)); exact HO_9.out, by repeat (first | (with_reducible first | exact HB.out | apply below_alloc | apply pw_below_drewN | apply below_drew1) | exact HB.out)⟩
    · replace c7 := Bool.eq_false_iff.mpr c7
      subst c7
      have H1 : (some (([] : List (S37)), 2)) = some (r1, r2) := by rw [if_neg (show ¬ (false = true) by decide)] at H; exact H
      clear H
      have H := H1
      clear H1
      simp only [Option.some.injEq, Prod.mk.injEq] at H
      obtain ⟨rfl, rfl⟩ := H
      go_enter Tryd.func20, Tryd.ntmps20
      go_wp2_with (first | ((with_reducible refine gate_callee (f := 25) rfl ?_); refine goesL_ (some 13) rfl rfl Tryd.func25 (by kernel_rfl) rfl #[.slice A0 l0.length c0, .int .i64 a1] rfl (by (try simp only [List.map_toArray, List.map_cons, List.map_nil]); first | done | rfl | (simp only [List.length_drop, List.length_take]; rfl)) ?_; (with_reducible refine (phase_asked.calls _ _ l0 a1 t154 _ ?side1 ?side2 A4.out).mono ?_); (case side1 => repeat (first | exact HR0.out | (with_reducible refine Kd.C_alloc ?_ _) | (with_reducible refine Kd.C_drewN ?_ _) | (with_reducible refine Kd.C_drew ?_))); (case side2 => exact HC0.out); rintro e w24 ⟨rfl, hb⟩; refine ⟨_, rfl, ?_⟩; have n0_ := Aside0.mk (below_step (by repeat (first | (with_reducible first | exact HB.out | apply below_alloc | apply pw_below_drewN | apply below_drew1) | exact HB.out)) hb); clear HB; have HB := n0_; clear n0_; (try clear hb); (try clear hb2); (try clear hk); (try clear hi)) | ((with_reducible refine gate_callee (f := 27) rfl ?_); refine goesL_ (some 18) rfl rfl Tryd.func27 (by kernel_rfl) rfl #[.int .i64 a2, .int .i64 0, .int .i64 1099511627776] rfl (by (try simp only [List.map_toArray, List.map_cons, List.map_nil]); first | done | rfl | (simp only [List.length_drop, List.length_take]; rfl)) ?_; (with_reducible refine (phase_within.calls a2 0 1099511627776 false _ A6.out).mono ?_); rintro e w' ⟨rfl, ⟨nd, rfl⟩⟩; refine ⟨_, rfl, ?_⟩))
      go_ret2
      exact ⟨_, by first | rfl | (simp [errW_none, errW_some] <;> rfl) | (simp [*, errW_none, errW_some] <;> rfl), by first | exact Kd.R_nil _ _ _ _ _ | exact Kd.N_nil _ _ _ _ _ | exact Kd.V_nil _ _ _ _ _ | exact Kd.Q_nil _ _ _ _ _ | exact Kd.S_nil _ _ _ _ _, by repeat (first | (with_reducible first | exact HB.out | apply below_alloc | apply pw_below_drewN | apply below_drew1) | exact HB.out)⟩
  · rw [if_neg c5] at H
    have c5b0 : (t154 == 0) = false := beq_eq_false_iff_ne.mpr c5
    have c5b1 : (t154 != 0) = true := bne_iff_ne.mpr c5
    simp only [Option.some.injEq, Prod.mk.injEq] at H
    obtain ⟨rfl, rfl⟩ := H
    go_enter Tryd.func20, Tryd.ntmps20
    go_wp2_with (first | ((with_reducible refine gate_callee (f := 25) rfl ?_); refine goesL_ (some 13) rfl rfl Tryd.func25 (by kernel_rfl) rfl #[.slice A0 l0.length c0, .int .i64 a1] rfl (by (try simp only [List.map_toArray, List.map_cons, List.map_nil]); first | done | rfl | (simp only [List.length_drop, List.length_take]; rfl)) ?_; (with_reducible refine (phase_asked.calls _ _ l0 a1 t154 _ ?side1 ?side2 A4.out).mono ?_); (case side1 => repeat (first | exact HR0.out | (with_reducible refine Kd.C_alloc ?_ _) | (with_reducible refine Kd.C_drewN ?_ _) | (with_reducible refine Kd.C_drew ?_))); (case side2 => exact HC0.out); rintro e w25 ⟨rfl, hb⟩; refine ⟨_, rfl, ?_⟩; have n0_ := Aside0.mk (below_step (by repeat (first | (with_reducible first | exact HB.out | apply below_alloc | apply pw_below_drewN | apply below_drew1) | exact HB.out)) hb); clear HB; have HB := n0_; clear n0_; (try clear hb); (try clear hb2); (try clear hk); (try clear hi)))
    go_ret2
    exact ⟨_, by first | rfl | (simp [errW_none, errW_some] <;> rfl) | (simp [*, errW_none, errW_some] <;> rfl), by first | exact Kd.R_nil _ _ _ _ _ | exact Kd.N_nil _ _ _ _ _ | exact Kd.V_nil _ _ _ _ _ | exact Kd.Q_nil _ _ _ _ _ | exact Kd.S_nil _ _ _ _ _, by repeat (first | (with_reducible first | exact HB.out | apply below_alloc | apply pw_below_drewN | apply below_drew1) | exact HB.out)⟩
/-! ### phase_Shift: function 20 -/
def shP (now b : Int) (x : S37) : S37 := if x.f0 > now then ⟨x.f0 + b, x.f1⟩ else x
def fitsP (now b : Int) (l : List S37) : Bool := l.all fun x => decide (x.f0 > now → x.f0 + b ≤ 1099511627776)
theorem phase_Shift_loop (l : List S37) (now b : Int) (hb : 0 ≤ b ∧ b ≤ 1099511627776) (hl : l.length ≤ 32) (hin : ∀ x ∈ l, 0 ≤ x.f0 ∧ x.f0 ≤ 1099511627776) (c : Nat) (hc : ∀ i (h : i < l.length), c ≤ i → l[i].f0 > now) (d : Nat) : ∀ (k i : Nat), i + d = l.length → c ≤ i → d < k →
    phase_Shift_p.l0 k b ((l.take i).map (shP now b) ++ l.drop i) (i : Int) = some (if fitsP now b (l.drop i) = true then (l.map (shP now b), 0) else ([], 370)) := by
  induction d with
  | zero =>
    intro k i hi hci hk
    obtain ⟨k, rfl⟩ : ∃ n, k = n + 1 := ⟨k - 1, by omega⟩
    simp only [phase_Shift_p.l0]
    rw [List.drop_eq_nil_of_le (by omega), List.take_of_length_le (by omega), List.append_nil, if_neg (by rw [List.length_map]; omega), if_pos (by rfl)]
  | succ d ih =>
    intro k i hi hci hk
    obtain ⟨k, rfl⟩ : ∃ n, k = n + 1 := ⟨k - 1, by omega⟩
    have h1 : i < l.length := by omega
    have hx := hin l[i] (List.getElem_mem h1)
    have hnow := hc i h1 hci
    have hnext := ih k (i + 1) (by omega) (by omega) (by omega)
    have hlen : ((l.take i).map (shP now b) ++ l.drop i).length = l.length := by rw [List.length_append, List.length_map, List.length_take, List.length_drop]; omega
    have htl : ((l.take i).map (shP now b)).length = i := by rw [List.length_map, List.length_take]; omega
    have hrd : rd_T37 ((l.take i).map (shP now b) ++ l.drop i) (i : Int) = l[i] := by
      rw [rdP_at _ i (by rw [hlen]; exact h1), List.getElem_append_right (by omega), List.getElem_drop]
      simp only [htl, Nat.sub_self, Nat.add_zero]
    have hsh : shP now b l[i] = ⟨l[i].f0 + b, l[i].f1⟩ := by unfold shP; rw [if_pos hnow]
    have hset : ((l.take i).map (shP now b) ++ l.drop i).set i ⟨l[i].f0 + b, l[i].f1⟩ = (l.take (i + 1)).map (shP now b) ++ l.drop (i + 1) := by
      rw [List.set_append_right _ _ (by omega), htl, Nat.sub_self, List.drop_eq_getElem_cons h1, List.set_cons_zero, List.take_succ_eq_append_getElem h1, List.map_append, ← hsh]
      simp
    have hrd2 : rd_T37 ((l.take (i + 1)).map (shP now b) ++ l.drop (i + 1)) (i : Int) = ⟨l[i].f0 + b, l[i].f1⟩ := by
      rw [← hset, rdP_at _ i (by rw [List.length_set, hlen]; exact h1)]
      simp
    simp only [phase_Shift_p.l0]
    rw [hlen, if_pos (by omega), if_pos (by omega), hrd, w64 (x := l[i].f0 + b) (by omega) (by omega), Int.toNat_natCast, hset]
    simp only [Option.bind_some]
    rw [hrd2, w64 (x := (i : Int) + 1) (by omega) (by omega), show ((i : Int) + 1) = ((i + 1 : Nat) : Int) by omega, hnext]
    have hfit : fitsP now b (l.drop i) = (decide (l[i].f0 > now → l[i].f0 + b ≤ 1099511627776) && fitsP now b (l.drop (i + 1))) := by
      rw [List.drop_eq_getElem_cons h1]; rfl
    rw [hfit]
    by_cases g : l[i].f0 + b > 1099511627776
    · rw [if_pos g, decide_eq_false (fun q => by have := q hnow; omega)]; rfl
    · rw [if_neg g, decide_eq_true (fun _ => by omega), Bool.true_and]
def phase_Shift.f (l0 : List S37) (a1 a2 : Int) : Option (List S37 × Int) :=
  some (if dayL (l0.map prP) = true then (if (0 ≤ a1 ∧ a1 ≤ 1099511627776) ∧ 0 ≤ a2 ∧ a2 ≤ 1099511627776 then (if fitsP a1 a2 (l0.drop (begunL a1 (l0.map prP))) = true then (l0.map (shP a1 a2), 0) else ([], 370)) else ([], 2)) else ([], 370))
theorem phase_Shift_eq (l : List S37) (a1 a2 : Int) : phase_Shift_p.f (l.length + 1) l a1 a2 = phase_Shift.f l a1 a2 := by
  unfold phase_Shift_p.f phase_Shift.f phase_asked.f phase_Check.f
  simp only [Option.bind_some]
  by_cases c : dayL (l.map prP) = true
  · have hln := ((dayL_iff _).1 c).1
    rw [List.length_map] at hln
    rw [if_pos c, if_pos c, if_pos rfl, within_eq, within_eq]
    simp only [Option.bind_some]
    by_cases c1 : 0 ≤ a1 ∧ a1 ≤ 1099511627776
    · rw [decide_eq_true c1, if_pos rfl]
      simp only [Option.bind_some, if_true]
      by_cases c2 : 0 ≤ a2 ∧ a2 ≤ 1099511627776
      · rw [decide_eq_true c2, if_pos rfl, if_pos ⟨c1, c2⟩]
        unfold api_Phase.f phase_later.f
        rw [if_pos (by omega), if_pos c]
        simp only [Option.bind_some]
        have hle := begunL_le a1 (l.map prP)
        rw [List.length_map] at hle
        have hasc := day_asc c
        have hafter : ∀ i (h : i < l.length), begunL a1 (l.map prP) ≤ i → l[i].f0 > a1 := fun i h hi => by
          have := begunL_after a1 (l.map prP) i hasc hi (by rw [List.length_map]; exact h)
          rw [prP_getD l i h] at this; exact this
        have hloop := phase_Shift_loop l a1 a2 c2 (by omega) (fun x hx => by
          have := day_mem c (prP x) (List.mem_map.2 ⟨x, hx, rfl⟩)
          exact ⟨this.2.2.1, this.2.2.2⟩) (begunL a1 (l.map prP)) hafter (l.length - begunL a1 (l.map prP)) (l.length + 1) (begunL a1 (l.map prP)) (by omega) (Nat.le_refl _) (by omega)
        have hsame : (l.take (begunL a1 (l.map prP))).map (shP a1 a2) ++ l.drop (begunL a1 (l.map prP)) = l := by
          have : (l.take (begunL a1 (l.map prP))).map (shP a1 a2) = l.take (begunL a1 (l.map prP)) := by
            apply List.ext_getElem (by simp)
            intro i h1 h2
            rw [List.getElem_map, List.getElem_take]
            rw [List.length_take] at h2
            have hb := begunL_before a1 (l.map prP) i (by omega)
            rw [prP_getD l i (by omega)] at hb
            unfold shP
            rw [if_neg (by simp only at hb; omega)]
          rw [this, List.take_append_drop]
        rw [hsame] at hloop
        exact hloop
      · rw [decide_eq_false c2, if_neg (show ¬ ((0 ≤ a1 ∧ a1 ≤ 1099511627776) ∧ 0 ≤ a2 ∧ a2 ≤ 1099511627776) from fun g => c2 g.2)]; simp
    · rw [decide_eq_false c1, if_neg (show ¬ ((0 ≤ a1 ∧ a1 ≤ 1099511627776) ∧ 0 ≤ a2 ∧ a2 ≤ 1099511627776) from fun g => c1 g.1)]; simp
  · rw [if_neg c, if_neg c, if_neg (by decide), Option.bind_some, if_neg (by decide)]
theorem phase_Shift.calls (A0 : Option Addr) (c0 : Nat) (l0 : List S37) (a1 : Int) (a2 : Int) (r1 : List S37) (r2 : Int) (w : World) (hr0 : Kd.C k37 w A0 l0.length l0) (hc0 : l0.length ≤ c0) (h : phase_Shift.f l0 a1 a2 = some (r1, r2)) :
    Calls Tryd.prog 20 #[.slice A0 l0.length c0, .int .i64 a1, .int .i64 a2] w fun e w' => ∃ v0_ : Value, e = .returned (.tuple #[v0_, .int .i64 r2]) ∧ Kd.R k37 37 w' w.heap.size (fun _ => True) v0_ r1 ∧ Below w.heap.size w w' :=
  phase_Shift_p.calls _ A0 c0 l0 a1 a2 r1 r2 w hr0 hc0 ((phase_Shift_eq l0 a1 a2).trans h)

end Go.Proofs.YtcjilccldfkhmaaDoor.B
