/- Each Go function that the laws of this seat reach, as a plain Lean function, and its contract: the machine's call does what that function says. -/
import Derived.Test.YtfmhbibdnkekcaaDoorQx0
import Derived.Test.YtfmhbibdnkekcaaDoorQx1
import Derived.Test.YtfmhbibdnkekcaaDoorQx10
namespace Go.Proofs.YtfmhbibdnkekcaaDoor.Q
open Go.RowKit Go.Proofs.YtfmhbibdnkekcaaDoorW.PrintWords Go.Proofs.YtfmhbibdnkekcaaDoorW.PrintLast Go.Proofs.YtfmhbibdnkekcaaDoorW.PrintMore
attribute [local go_sem] max2_int min2_int max_two min_two max_three min_three max_four min_four   -- for this text's walks alone
set_option linter.unusedVariables false
set_option linter.unusedSimpArgs false

--PART
/-! ### sum_Sum: function 10 -/
theorem sum_Sum_loop (s : ByteArray) (hs : s.size ≤ big) (d : Nat) : ∀ (k : Nat) (i : Nat) (acc : Nat), i + d = s.size → d < k → acc < 256 →
    sum_Sum_p.l0 k s (acc : Int) (s.size : Int) (i : Int) = some (((acc + bsum (s.data.toList.drop i)) % 256 : Nat) : Int) := by
  unfold big at hs
  induction d with
  | zero =>
    intro k i acc hi hk ha
    obtain ⟨k, rfl⟩ : ∃ m, k = m + 1 := ⟨k - 1, by omega⟩
    simp only [sum_Sum_p.l0]
    rw [if_neg (by omega), w64 (by omega) (by omega), List.drop_eq_nil_of_le (by rw [size_list]; omega), bsum_nil]
    congr 1; omega
  | succ d ih =>
    intro k i acc hi hk ha
    obtain ⟨k, rfl⟩ : ∃ m, k = m + 1 := ⟨k - 1, by omega⟩
    have hl : i < s.data.toList.length := by rw [size_list]; omega
    simp only [sum_Sum_p.l0]
    rw [if_pos (by omega), if_pos (by omega), if_pos (by omega), w64 (by omega) (by omega), bt_get s i hl]
    have hb := u8_lt (s.data.toList[i])
    have e : ((acc : Int) + ((s.data.toList[i]).toNat : Int)) % 256 = (((acc + (s.data.toList[i]).toNat) % 256 : Nat) : Int) := by omega
    rw [e, show ((i : Int) + 1) = ((i + 1 : Nat) : Int) by omega, ih k (i + 1) _ (by omega) (by omega) (by omega)]
    rw [List.drop_eq_getElem_cons hl, bsum_cons]
    congr 2; omega
def sum_Sum.f (a0 : ByteArray) : Option Int := if a0.size ≤ big then some (sumOf a0) else none
theorem sum_Sum.calls (a0 : ByteArray) (r : Int) (w : World) (h : sum_Sum.f a0 = some r) :
    Calls Tryd.prog 10 #[.string a0] w fun e w' => e = .returned (.int .i64 r) ∧ Drawn0 w w' := by
  unfold sum_Sum.f at h
  by_cases c : a0.size ≤ big
  · rw [if_pos c] at h
    obtain rfl := Option.some.inj h
    refine sum_Sum_p.calls (a0.size + 1) a0 _ w ?_
    have := sum_Sum_loop a0 c a0.size (a0.size + 1) 0 0 (by omega) (by omega) (by omega)
    simpa [sum_Sum_p.f, sumOf] using this
  · rw [if_neg c] at h; cases h

end Go.Proofs.YtfmhbibdnkekcaaDoor.Q
