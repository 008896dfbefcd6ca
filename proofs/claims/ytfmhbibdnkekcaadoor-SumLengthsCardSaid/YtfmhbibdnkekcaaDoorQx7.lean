/- Each Go function that the laws of this seat reach, as a plain Lean function, and its contract: the machine's call does what that function says. -/
import Derived.Test.YtfmhbibdnkekcaaDoorQx0
import Derived.Test.YtfmhbibdnkekcaaDoorQx1
import Derived.Test.YtfmhbibdnkekcaaDoorQx2
import Derived.Test.YtfmhbibdnkekcaaDoorQx3
import Derived.Test.YtfmhbibdnkekcaaDoorQx4
import Derived.Test.YtfmhbibdnkekcaaDoorQx6
namespace Go.Proofs.YtfmhbibdnkekcaaDoor.Q
open Go.RowKit Go.Proofs.YtfmhbibdnkekcaaDoorW.PrintWords Go.Proofs.YtfmhbibdnkekcaaDoorW.PrintLast Go.Proofs.YtfmhbibdnkekcaaDoorW.PrintMore
attribute [local go_sem] max2_int min2_int max_two min_two max_three min_three max_four min_four   -- for this text's walks alone
set_option linter.unusedVariables false
set_option linter.unusedSimpArgs false

--PART
/-! ### sum_ReadLength: function 6 -/
theorem sum_ReadLength_loop (s : ByteArray) (hs : s.size ≤ big) (d : Nat) : ∀ (k : Nat) (i : Nat), i + d = s.size → 2 * d < k → (∀ x ∈ s.data.toList.take i, isDig x) → valOf (s.data.toList.take i) ≤ 4096 →
    sum_ReadLength_p.l0 k s (valOf (s.data.toList.take i) : Int) (s.size : Int) (i : Int) = some (if (∀ x ∈ s.data.toList, isDig x) ∧ valOf s.data.toList ≤ 4096 then ((valOf s.data.toList : Int), 0) else (0, 112)) := by
  unfold big at hs
  induction d with
  | zero =>
    intro k i hi hk hd hv
    obtain ⟨k, rfl⟩ : ∃ m, k = m + 1 := ⟨k - 1, by omega⟩
    simp only [sum_ReadLength_p.l0]
    rw [List.take_of_length_le (by rw [size_list]; omega)] at hd hv ⊢
    rw [if_neg (by omega), if_pos ⟨hd, hv⟩]
  | succ d ih =>
    intro k i hi hk hd hv
    obtain ⟨k, rfl⟩ : ∃ m, k = m + 2 := ⟨k - 2, by omega⟩
    have hl : i < s.data.toList.length := by rw [size_list]; omega
    have hb := u8_lt (s.data.toList[i])
    simp only [sum_ReadLength_p.l0, sum_ReadLength_p.j2]
    rw [if_pos (by omega), if_pos (by omega), if_pos (by omega), bt_get s i hl]
    have hno : ¬ isDig (s.data.toList[i]) → ¬ ((∀ x ∈ s.data.toList, isDig x) ∧ valOf s.data.toList ≤ 4096) := fun h g => h (g.1 _ (List.getElem_mem hl))
    by_cases c1 : ((s.data.toList[i]).toNat : Int) < 48
    · rw [if_pos c1, if_pos trivial, if_neg (hno (fun h_ => by unfold isDig at h_; omega))]
    rw [if_neg c1]
    by_cases c2 : ((s.data.toList[i]).toNat : Int) > 57
    · rw [decide_eq_true c2, if_pos rfl, if_neg (hno (fun h_ => by unfold isDig at h_; omega))]
    rw [decide_eq_false c2, if_neg (by simp), if_pos (by omega), if_pos (by omega)]
    have hst := valOf_take_succ s.data.toList i hl
    rw [w64 (x := 10 * (valOf (s.data.toList.take i) : Int)) (by omega) (by omega), w64 (x := 10 * (valOf (s.data.toList.take i) : Int) + _) (by omega) (by omega)]
    have e : 10 * (valOf (s.data.toList.take i) : Int) + (((s.data.toList[i]).toNat : Int) - 48) % 256 = (valOf (s.data.toList.take (i + 1)) : Int) := by rw [hst]; omega
    rw [e]
    by_cases c3 : (valOf (s.data.toList.take (i + 1)) : Int) > 4096
    · rw [if_pos c3, if_neg]
      rintro ⟨_, g⟩
      have := valOf_take_le s.data.toList (i + 1)
      omega
    · rw [if_neg c3, w64 (by omega) (by omega), show ((i : Int) + 1) = ((i + 1 : Nat) : Int) by omega]
      refine ih k (i + 1) (by omega) (by omega) ?_ (by omega)
      intro x hx
      rw [List.take_succ_eq_append_getElem hl] at hx
      rcases List.mem_append.1 hx with hx | hx
      · exact hd x hx
      · simp only [List.mem_singleton] at hx; subst hx; unfold isDig; omega
theorem sum_ReadLength_eq (s : ByteArray) (hs : s.size ≤ big) : sum_ReadLength_p.f (2 * s.size + 2) s = some (if 0 ≤ lenNo s then (lenNo s, 0) else (0, 112)) := by
  have hno : lenNo s < 0 → some (if 0 ≤ lenNo s then (lenNo s, (0 : Int)) else (0, 112)) = some (0, 112) := fun h => by rw [if_neg (by omega)]
  have hlow : (∀ n : Nat, 1 ≤ n → n ≤ 4096 → digitsN n ≠ s.data.toList) → lenNo s < 0 := by
    intro h
    rcases Int.lt_or_le (lenNo s) 0 with g | g
    · exact g
    · obtain ⟨n, hn⟩ := Int.eq_ofNat_of_zero_le g
      obtain ⟨h1, h2, h3⟩ := lenNo_yes s n hn
      exact absurd h1 (h n h2 h3)
  unfold sum_ReadLength_p.f
  simp only [sum_ReadLength_p.j0]
  rw [ByteArray.toList_eq]
  by_cases c0 : s.data.toList = []
  · rw [if_pos c0, if_pos trivial, hno (hlow fun n _ _ h => digitsN_ne n (h.trans c0))]
  have hz : 0 < s.size := by
    rcases Nat.eq_zero_or_pos s.size with h | h
    · exact absurd (List.eq_nil_of_length_eq_zero (by rw [size_list]; exact h)) c0
    · exact h
  rw [if_neg c0, if_pos (by omega)]
  obtain ⟨b, t, hbt⟩ : ∃ b t, s.data.toList = b :: t := by
    rcases h : s.data.toList with _ | ⟨b, t⟩
    · exact absurd h c0
    · exact ⟨b, t, rfl⟩
  have hb0 : bt s 0 = (b.toNat : Int) := by
    have := bt_get s 0 (by rw [hbt]; simp)
    simpa [hbt] using this
  rw [hb0]
  by_cases c1 : (b.toNat : Int) = 48
  · rw [beq_iff_eq.2 c1, if_pos rfl, hno (hlow fun n h1 _ h => digitsN_head n h1 b t (h.trans hbt) (by omega))]
  rw [beq_eq_false_iff_ne.2 c1, if_neg (by simp)]
  have hlp := sum_ReadLength_loop s hs s.size (2 * s.size + 1) 0 (by omega) (by omega) (by simp) (by simp [valOf])
  have e0 : ((valOf (s.data.toList.take 0) : Nat) : Int) = 0 := rfl
  rw [e0] at hlp
  rw [show ((0 : Nat) : Int) = 0 from rfl] at hlp
  rw [hlp]
  by_cases c2 : (∀ x ∈ s.data.toList, isDig x) ∧ valOf s.data.toList ≤ 4096
  · rw [if_pos c2]
    have hd := digitsN_valOf s.data.toList c0 c2.1 (.inr fun b' t' e => by rw [hbt] at e; injection e with e1 e2; subst e1; omega)
    have hp : 1 ≤ valOf s.data.toList := by
      rcases Nat.eq_zero_or_pos (valOf s.data.toList) with h | h
      · rw [h, digitsN_small (by omega), hbt] at hd
        injection hd with e1 e2
        exact absurd (by rw [← e1, ofNat_toNat_small (by omega)]; rfl) c1
      · exact h
    rw [lenNo_of s (valOf s.data.toList) hp c2.2 hd, if_pos (by omega)]
  · rw [if_neg c2, hno (hlow fun n h1 h2 h => c2 ⟨fun x hx => digitsN_dig n x (by rw [h]; exact hx), by rw [← h, valOf_digitsN]; exact h2⟩)]
def sum_ReadLength.f (a0 : ByteArray) : Option (Int × Int) := if a0.size ≤ big then some (if 0 ≤ lenNo a0 then (lenNo a0, 0) else (0, 112)) else none
theorem sum_ReadLength.calls (a0 : ByteArray) (r1 : Int) (r2 : Int) (w : World) (h : sum_ReadLength.f a0 = some (r1, r2)) :
    Calls Tryd.prog 6 #[.string a0] w fun e w' => e = .returned (.tuple #[.int .i64 r1, .int .i64 r2]) ∧ Drawn0 w w' := by
  unfold sum_ReadLength.f at h
  by_cases c : a0.size ≤ big
  · rw [if_pos c] at h
    exact sum_ReadLength_p.calls _ a0 r1 r2 w ((sum_ReadLength_eq a0 c).trans h)
  · rw [if_neg c] at h; cases h

end Go.Proofs.YtfmhbibdnkekcaaDoor.Q
