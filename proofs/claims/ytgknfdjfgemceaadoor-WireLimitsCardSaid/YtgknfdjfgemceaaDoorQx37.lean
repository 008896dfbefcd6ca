/- Each Go function that the laws of this seat reach, as a plain Lean function, and its contract: the machine's call does what that function says. -/
import Derived.Test.YtgknfdjfgemceaaDoorQx0
namespace Go.Proofs.YtgknfdjfgemceaaDoor.Q
open Go.RowKit Go.Proofs.YtgknfdjfgemceaaDoorW.PrintWords Go.Proofs.YtgknfdjfgemceaaDoorW.PrintLast Go.Proofs.YtgknfdjfgemceaaDoorW.PrintMore
attribute [local go_sem] max2_int min2_int max_two min_two max_three min_three max_four min_four   -- for this text's walks alone
set_option linter.unusedVariables false
set_option linter.unusedSimpArgs false

--PART
/-! ### spigotlaw10_text: function 12 -/
theorem text_info : (Tryd.prog.info? 5).map (fun i => (i.zero, i.size, i.bytes)) = some (some (.int .u8 0), 1, 1) := by kernel_rfl
theorem getD_rep (n j : Nat) (h : j < n) : (List.replicate n (97 : Int)).getD j 0 = 97 := by simp [List.getD_eq_getElem?_getD, h]
set_option maxRecDepth 100000 in
set_option maxHeartbeats 4000000 in
theorem text_walk (n : Nat) (hn : n ≤ 10000) (w : World) :
    Calls Tryd.prog 12 #[.int .i64 (n : Int)] w fun e w' => e = .returned (.string (strOfNums (List.replicate n 97))) ∧ Below w.heap.size w w' := by
  obtain ⟨i0, hi, hz0, hz1, hz2⟩ := info_parts text_info
  have hmx : (if (0 : Int) > (n : Int) then (0 : Int) else (n : Int)) = (n : Int) := by rw [if_neg (by omega)]
  have hmx2 : (if (n : Int) < 0 then (0 : Int) else (n : Int)) = (n : Int) := by rw [if_neg (by omega)]
  go_enter Tryd.func12, Tryd.ntmps12
  go_wp2_with (at_make; refine wpList_make_own _ rfl _ _ 46 rfl w.heap.size 5 i0 (.int .u8 0) 1 Tryd.underlying46 hi hz0 hz1 _ _ _ n rfl rfl ?b1 ?b2 ?b3 (Nat.le_refl _) ?_)
  case b1 => first | rfl | omega
  case b2 => rw [hz2]; omega
  case b3 => unfold maxLen; omega
  intro w0 hown0 hgrow0
  go_wp2
  go_loopw [3, 8] (fun out sk wr => ∃ k : Nat, k ≤ n ∧ sk = .int .i64 (k : Int) ∧ out = .slice (some ⟨w.heap.size, 0, none⟩) k n ∧ Aside0 (wr.ownsRow w.heap.size 5 1 (.slice (some ⟨w.heap.size, 0, none⟩) k n) k (List.replicate k (.int .u8 97))) ∧ Aside0 (Below w.heap.size w wr)) (fun _ sk _ => n - (intOf sk).toNat)
  case atStart => exact ⟨0, Nat.zero_le _, rfl, rfl, ⟨hown0⟩, ⟨(Below.refl _ _).grown hgrow0 (Nat.le_refl _) (fun k h => by cases h)⟩⟩
  case round =>
    obtain ⟨k, hk, rfl, rfl, HO, HW⟩ := hrel
    have hsz := HW.out.size
    by_cases hlt : k < n
    · have t1 : decide ((k : Int) < (n : Int)) = true := by rw [decide_eq_true_eq]; omega
      have t2 : decide (k < n) = true := decide_eq_true hlt
      go_wp2_with (at_builtin; refine wpList_append_fits _ rfl (.tmp 10) (.tmp 11) 46 rfl w.heap.size 5 i0 1 Tryd.underlying46 hi hz1 w.heap.size k n _ rfl (HO.out.alloc _) ⟨wr.heap.size, 0, none⟩ 1 1 [.int .u8 97] rfl rfl (by intro t u ht; match t, ht with | 0, ht => simp at ht; subst ht; simp [Addr.add] | (t + 1), ht => simp at ht) (by intro u hu; simp at hu; subst hu; rfl) (by omega) ?_)
      intro w1 hown1 hgrow1
      have HO1 : Aside0 (w1.ownsRow w.heap.size 5 1 (.slice (some ⟨w.heap.size, 0, none⟩) (k + 1) n) (k + 1) (List.replicate (k + 1) (.int .u8 97))) := ⟨by rw [List.replicate_succ']; exact hown1⟩
      have HW1 : Aside0 (Below w.heap.size w w1) := ⟨(HW.out.alloc hsz _).grown hgrow1 (by simp; omega) (fun k hk => by cases hk; exact Nat.le_refl _)⟩
      clear hown1 hgrow1
      go_wp2
      exact ⟨⟨k + 1, by omega, by simp, rfl, HO1, HW1⟩, by simp [intOf]; omega⟩
    · obtain rfl : k = n := by omega
      have t1 : decide ((k : Int) < (k : Int)) = false := by rw [decide_eq_false_iff_not]; omega
      have hcv := run_convert_bytes_arg (P := Tryd.prog) wr 46 5 Tryd.underlying46 Tryd.underlying5 w.heap.size 0 k k (List.replicate k 97) (by simp) (fun j hj => by
        have h := HO.out.cells (g := w.heap.size) rfl j (.int .u8 97) (by simp [hj])
        rw [getD_rep k j hj]
        rcases Nat.eq_zero_or_pos j with e | e
        · subst e; simpa [Addr.add] using h
        · have e2 : j ≠ 0 := by omega
          simpa [Addr.add, e2] using h) 9 Tryd.underlying9
      go_wp2
      go_ret
      exact ⟨rfl, HW.out⟩
def spigotlaw10_text.f (a0 : Int) : Option ByteArray := if 0 ≤ a0 ∧ a0 ≤ 10000 then some (strOfNums (List.replicate a0.toNat 97)) else none
theorem spigotlaw10_text.calls (a0 : Int) (r : ByteArray) (w : World) (h : spigotlaw10_text.f a0 = some r) :
    Calls Tryd.prog 12 #[.int .i64 a0] w fun e w' => e = .returned (.string r) ∧ Below w.heap.size w w' := by
  unfold spigotlaw10_text.f at h
  by_cases c : 0 ≤ a0 ∧ a0 ≤ 10000
  · rw [if_pos c] at h
    obtain rfl := Option.some.inj h
    obtain ⟨n, rfl⟩ := Int.eq_ofNat_of_zero_le c.1
    exact text_walk n (by omega) w
  · rw [if_neg c] at h; cases h

end Go.Proofs.YtgknfdjfgemceaaDoor.Q
