/- Each Go function that the laws of this seat reach, as a plain Lean function, and its contract: the machine's call does what that function says. -/
import Derived.Test.YtfmhbibdnkekcaaDoorQx0
import Derived.Test.YtfmhbibdnkekcaaDoorQx1
namespace Go.Proofs.YtfmhbibdnkekcaaDoor.Q
open Go.RowKit Go.Proofs.YtfmhbibdnkekcaaDoorW.PrintWords Go.Proofs.YtfmhbibdnkekcaaDoorW.PrintLast Go.Proofs.YtfmhbibdnkekcaaDoorW.PrintMore
attribute [local go_sem] max2_int min2_int max_two min_two max_three min_three max_four min_four   -- for this text's walks alone
set_option linter.unusedVariables false
set_option linter.unusedSimpArgs false

--PART
/-! ### A number's digits -/
def digitsN (n : Nat) : List UInt8 := if n < 10 then [UInt8.ofNat (48 + n)] else digitsN (n / 10) ++ [UInt8.ofNat (48 + n % 10)]
termination_by n
theorem digitsN_small {n : Nat} (h : n < 10) : digitsN n = [UInt8.ofNat (48 + n)] := by rw [digitsN, if_pos h]
theorem digitsN_step {n : Nat} (h : 10 ≤ n) : digitsN n = digitsN (n / 10) ++ [UInt8.ofNat (48 + n % 10)] := by rw [digitsN, if_neg (by omega)]
/-- The digits of a number from 0 on, as a text. -/
def digitsB (n : Int) : ByteArray := ⟨(digitsN n.toNat).toArray⟩
theorem digitsN_pos (n : Nat) : 1 ≤ (digitsN n).length := by
  by_cases h : n < 10
  · rw [digitsN_small h]; simp
  · rw [digitsN_step (by omega)]; simp
/-- How many digits a number below a power of ten has at most. -/
theorem digitsN_len (d : Nat) : ∀ n, n < 10 ^ (d + 1) → (digitsN n).length ≤ d + 1 := by
  induction d with
  | zero => intro n h; rw [digitsN_small (by simpa using h)]; simp
  | succ d ih =>
    intro n h
    by_cases hn : n < 10
    · rw [digitsN_small hn]; simp
    · rw [digitsN_step (by omega)]
      have := ih (n / 10) (by rw [Nat.div_lt_iff_lt_mul (by omega)]; rw [Nat.pow_succ] at h; omega)
      simp; omega
theorem digitsB_list (n : Int) : (digitsB n).data.toList = digitsN n.toNat := by simp [digitsB]
theorem digitsB_size (n : Int) : (digitsB n).size = (digitsN n.toNat).length := by rw [← size_list, digitsB_list]
theorem digitsB_pos (n : Int) : 1 ≤ (digitsB n).size := by rw [digitsB_size]; exact digitsN_pos _
theorem digitsB_20 (n : Int) (h1 : n ≤ 9223372036854775807) : (digitsB n).size ≤ 20 := by
  rw [digitsB_size]; exact digitsN_len 19 _ (by omega)
theorem strOfNums_list (l : List Int) : (strOfNums l).data.toList = l.map fun n => UInt8.ofNat n.toNat := rfl

end Go.Proofs.YtfmhbibdnkekcaaDoor.Q
