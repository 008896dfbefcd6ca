/- Each Go function that the laws of this seat reach, as a plain Lean function, and its contract: the machine's call does what that function says. -/
import Derived.Test.YtcjilccldfkhmaaDoorBx0
import Derived.Test.YtcjilccldfkhmaaDoorBx2
namespace Go.Proofs.YtcjilccldfkhmaaDoor.B
open Go.RowKit Go.Proofs.YtcjilccldfkhmaaDoorW.PrintWords Go.Proofs.YtcjilccldfkhmaaDoorW.PrintLast Go.Proofs.YtcjilccldfkhmaaDoorW.PrintMore
attribute [local go_sem] max2_int min2_int max_two min_two max_three min_three max_four min_four   -- for this text's walks alone
set_option linter.unusedVariables false
set_option linter.unusedSimpArgs false

--PART
/-! ### phase_later: function 26 -/
def srch_ren : Go.Shelf.Ren := ⟨fun | 16 => 35 | n => n, fun | 3 => 3 | 4 => 4 | 35 => 65 | 38 => 78 | n => n, fun n => n⟩
theorem srch_lays : Go.Proofs.SlLaysO.n16 Tryd.prog srch_ren := {
  mixed := by kernel_rfl
  f16 := Tryd.func35.trans (congrArg some (by kernel_rfl))
  t3 := Tryd.underlying3
  a3 := Tryd.isAgg3
  z3 := Tryd.sizeOf3
  v3 := Tryd.zeroValue3
  t4 := Tryd.underlying4
  a4 := Tryd.isAgg4
  z4 := Tryd.sizeOf4
  v4 := Tryd.zeroValue4
  t35 := Tryd.underlying65
  a35 := Tryd.isAgg65
  z35 := Tryd.sizeOf65
  v35 := Tryd.zeroValue65
  t38 := Tryd.underlying78
  a38 := Tryd.isAgg78
  z38 := Tryd.sizeOf78
  v38 := Tryd.zeroValue78 }
theorem countP_lt (c n : Nat) (q : Nat → Bool) (h : ∀ i, i < n → q i = decide (i < c)) : (List.range n).countP q = min c n := by
  induction n with
  | zero => simp
  | succ n ih =>
    rw [List.range_succ, List.countP_append, ih (fun i hi => h i (by omega)), List.countP_cons, List.countP_nil, h n (by omega)]
    by_cases g : n < c
    · simp [g]; omega
    · simp [g]; omega
set_option maxHeartbeats 2000000 in
theorem later_closure (b0 b1 : Nat) (ad : Addr) (n c : Nat) (x now : Int) (i : Nat) (W : World) (hi : i < n) (h0 : W.cell? ⟨b0, 0, none⟩ = some (.slice (some ad) n c)) (h1 : W.cell? ⟨b1, 0, none⟩ = some (.int .i64 now)) (h2 : W.cell? (ad.add (i * 2)) = some (.int .i64 x)) :
    Calls Tryd.prog 36 (#[.int .i64 (i : Int)] ++ #[.pointer (some ⟨b0, 0, none⟩), .pointer (some ⟨b1, 0, none⟩)]) W fun e w' => e = .returned (.bool (decide (now < x))) ∧ ∃ q, w' = W.drewN q := by
  have hiz : (i : Int) < (n : Int) := by omega
  have hp : (0 : Int) ≤ (i : Int) ∧ (i : Int) < (n : Int) := ⟨by omega, hiz⟩
  have hcl : Tryd.prog.cellsOf 37 = 2 := by kernel_rfl
  have hti : ((i : Int)).toNat = i := Int.toNat_natCast i
  go_enter Tryd.func36, Tryd.ntmps36
  go_wp2
  go_region
  all_goals go_wp2
  all_goals go_ret
  all_goals exact ⟨by first | rfl | simp, 1, rfl⟩
theorem getD_map_prP (l : List S37) (i : Nat) (h : i < l.length) : ((l.map prP).getD i (0, 0)).1 = (rd_T37 l (i : Int)).f0 := by
  rw [List.getD_eq_getElem?_getD, List.getElem?_map, List.getElem?_eq_getElem h]
  simp [rd_T37, h, prP]
def phase_later.f (l0 : List S37) (a1 : Int) : Option Int := if dayL (l0.map prP) = true then some ((begunL a1 (l0.map prP) : Nat) : Int) else none
set_option maxHeartbeats 2000000 in
theorem later_walk (A0 : Option Addr) (c0 : Nat) (l0 : List S37) (a1 : Int) (w : World) (hr0 : Kd.C k37 w A0 l0.length l0) (hc0 : l0.length ≤ c0) (hd : dayL (l0.map prP) = true) :
    Calls Tryd.prog 26 #[.slice A0 l0.length c0, .int .i64 a1] w fun e w' => e = .returned (.int .i64 ((begunL a1 (l0.map prP) : Nat) : Int)) ∧ Below w.heap.size w w' := by
  have hday := (dayL_iff _).1 hd
  rw [List.length_map] at hday
  obtain ⟨ad, e0, -, -⟩ := at_T37 hr0 0 (by omega) (by omega)
  subst e0
  have hcells : ∀ i, i < l0.length → w.cell? (ad.add (i * 2)) = some (.int .i64 ((l0.map prP).getD i (0, 0)).1) := by
    intro i hi
    obtain ⟨ad', e, h1, -⟩ := at_T37 hr0 (i : Int) (by omega) (by omega)
    cases e
    rw [getD_map_prP l0 i hi]
    simpa using h1
  have hbk : ad.block < w.heap.size := by
    have := World.block_lt_of_cell? w _ (hcells 0 (by omega))
    simpa [Addr.add] using this
  obtain ⟨W0, hW0⟩ : ∃ W0, W0 = (w.alloc (.cells #[.slice (some ad) l0.length c0] 22)).alloc (.cells #[.int .i64 a1] 3) := ⟨_, rfl⟩
  have hsize : W0.heap.size = w.heap.size + 1 + 1 := by rw [hW0]; simp
  have ca : W0.cell? ⟨w.heap.size, 0, none⟩ = some (.slice (some ad) l0.length c0) := by rw [hW0]; exact cell_alloc_sl _ (cell_new_sl w _ _)
  have cx : W0.cell? ⟨w.heap.size + 1, 0, none⟩ = some (.int .i64 a1) := by rw [hW0]; have := cell_new_sl (w.alloc (.cells #[.slice (some ad) l0.length c0] 22)) (.int .i64 a1) 3; rwa [World.size_alloc] at this
  have cc : ∀ i, i < l0.length → W0.cell? (ad.add (i * 2)) = some (.int .i64 ((l0.map prP).getD i (0, 0)).1) := fun i hi => by rw [hW0]; exact cell_alloc_sl _ (cell_alloc_sl _ (hcells i hi))
  have eg : ∀ args w, (callFunc 36 args).run Tryd.prog w = .ok (.enter 36 args) w := Go.Proofs.enters_of Tryd.func36 (by kernel_rfl) rfl
  have hasc := day_asc hd
  have hS := Any.sort_Search srch_lays 36 #[.pointer (some ⟨w.heap.size, 0, none⟩), .pointer (some ⟨w.heap.size + 1, 0, none⟩)] l0.length (fun i => decide (a1 < ((l0.map prP).getD i (0, 0)).1)) W0 eg (by omega)
    (fun m os i hi => (later_closure w.heap.size (w.heap.size + 1) ad l0.length c0 _ a1 i _ hi (Go.cell_grown (by simp [hsize]; omega) ca m os) (Go.cell_grown (by simp [hsize]) cx m os) (Go.cell_grown (by rw [show (ad.add (i * 2)).block = ad.block from by unfold Addr.add; split <;> rfl]; omega) (cc i hi) m os)).mono
      fun _ _ ⟨he, q, hq⟩ => ⟨he, q, #[], by rw [hq, Go.Sort.grow_empty]⟩) (fun a b hab hb h => by
        rw [decide_eq_true_eq] at h ⊢
        rcases Nat.lt_or_ge b (begunL a1 (l0.map prP)) with g | g
        · have := begunL_before a1 (l0.map prP) a (by omega); omega
        · exact begunL_after a1 (l0.map prP) b hasc g (by rw [List.length_map]; exact hb))
  have hcnt : (List.range l0.length).countP (fun i => !decide (a1 < ((l0.map prP).getD i (0, 0)).1)) = begunL a1 (l0.map prP) := by
    have hle := begunL_le a1 (l0.map prP)
    rw [List.length_map] at hle
    rw [countP_lt (begunL a1 (l0.map prP)) l0.length _ (fun i hi => by
      rcases Nat.lt_or_ge i (begunL a1 (l0.map prP)) with g | g
      · have := begunL_before a1 (l0.map prP) i g
        rw [decide_eq_false (show ¬ a1 < ((l0.map prP).getD i (0, 0)).1 by omega), decide_eq_true g]; rfl
      · have := begunL_after a1 (l0.map prP) i hasc g (by rw [List.length_map]; exact hi)
        rw [decide_eq_true this, decide_eq_false (show ¬ i < begunL a1 (l0.map prP) by omega)]; rfl)]
    omega
  rw [hcnt] at hS
  change Calls Tryd.prog 35 _ _ _ at hS
  generalize begunL a1 (l0.map prP) = r at hS ⊢
  clear hcells ca cx cc hcnt hday hd hasc hr0
  have hmf : ∀ (fn : Fn) (first cap : Array Value) (w : World), (Instr.makeFunc fn first cap).run Tryd.prog w = .ok (.func fn first cap) w := fun _ _ _ _ => rfl
  go_enter Tryd.func26, Tryd.ntmps26
  go_wp2_with (go_at_call 35; rw [← hW0]; refine hS.mono ?_; rintro e w' ⟨rfl, q, os, rfl⟩)
  go_ret
  refine ⟨rfl, ?_⟩
  rw [← hW0]
  have hB0 : Below w.heap.size w W0 := by rw [hW0]; exact ((Below.refl _ w).alloc (Nat.le_refl _) _).alloc (by simp) _
  exact hB0.trans (below_grown_sl w.heap.size W0 q os (by omega))
theorem phase_later.calls (A0 : Option Addr) (c0 : Nat) (l0 : List S37) (a1 : Int) (r : Int) (w : World) (hr0 : Kd.C k37 w A0 l0.length l0) (hc0 : l0.length ≤ c0) (h : phase_later.f l0 a1 = some r) :
    Calls Tryd.prog 26 #[.slice A0 l0.length c0, .int .i64 a1] w fun e w' => e = .returned (.int .i64 r) ∧ Below w.heap.size w w' := by
  unfold phase_later.f at h
  by_cases c : dayL (l0.map prP) = true
  · rw [if_pos c] at h
    obtain rfl := Option.some.inj h
    exact later_walk A0 c0 l0 a1 w hr0 hc0 c
  · rw [if_neg c] at h; cases h

end Go.Proofs.YtcjilccldfkhmaaDoor.B
