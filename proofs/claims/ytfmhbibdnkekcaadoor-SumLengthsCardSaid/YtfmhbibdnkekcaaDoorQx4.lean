/- Each Go function that the laws of this seat reach, as a plain Lean function, and its contract: the machine's call does what that function says. -/
import Derived.Test.YtfmhbibdnkekcaaDoorQx0
import Derived.Test.YtfmhbibdnkekcaaDoorQx2
import Derived.Test.YtfmhbibdnkekcaaDoorQx3
namespace Go.Proofs.YtfmhbibdnkekcaaDoor.Q
open Go.RowKit Go.Proofs.YtfmhbibdnkekcaaDoorW.PrintWords Go.Proofs.YtfmhbibdnkekcaaDoorW.PrintLast Go.Proofs.YtfmhbibdnkekcaaDoorW.PrintMore
attribute [local go_sem] max2_int min2_int max_two min_two max_three min_three max_four min_four   -- for this text's walks alone
set_option linter.unusedVariables false
set_option linter.unusedSimpArgs false

--PART
/-! ### A length's digits -/
theorem foldl_val_ge (l : List UInt8) : ∀ n : Nat, n ≤ l.foldl (fun n b => 10 * n + (b.toNat - 48)) n := by
  induction l with
  | nil => intro n; exact Nat.le_refl _
  | cons b l ih => intro n; rw [List.foldl_cons]; exact Nat.le_trans (by omega) (ih _)
theorem valOf_take_succ (l : List UInt8) (i : Nat) (h : i < l.length) : valOf (l.take (i + 1)) = 10 * valOf (l.take i) + (l[i].toNat - 48) := by
  rw [List.take_succ_eq_append_getElem h, valOf_snoc]
theorem valOf_take_le (l : List UInt8) (i : Nat) : valOf (l.take i) ≤ valOf l := by
  conv => rhs; rw [← List.take_append_drop i l]
  unfold valOf; rw [List.foldl_append]; exact foldl_val_ge _ _
/-- The length from 1 to 4096 whose digits a text is; below 0: there is none. -/
def lenNo (s : ByteArray) : Int := if 1 ≤ valOf s.data.toList ∧ valOf s.data.toList ≤ 4096 ∧ digitsN (valOf s.data.toList) = s.data.toList then valOf s.data.toList else -1
theorem lenNo_range (s : ByteArray) : -1 ≤ lenNo s ∧ lenNo s ≤ 4096 := by unfold lenNo; split <;> omega
theorem lenNo_of (s : ByteArray) (n : Nat) (h1 : 1 ≤ n) (h2 : n ≤ 4096) (e : digitsN n = s.data.toList) : lenNo s = n := by
  have hv : valOf s.data.toList = n := by rw [← e, valOf_digitsN]
  unfold lenNo; rw [hv, if_pos ⟨h1, h2, e⟩]
theorem lenNo_yes (s : ByteArray) (n : Nat) (h : lenNo s = n) : digitsN n = s.data.toList ∧ 1 ≤ n ∧ n ≤ 4096 := by
  unfold lenNo at h; split at h
  · rename_i c
    have : valOf s.data.toList = n := by omega
    rw [← this]; exact ⟨c.2.2, c.1, c.2.1⟩
  · omega
theorem digitsN_inj {a b : Nat} (h : digitsN a = digitsN b) : a = b := by have := congrArg valOf h; rwa [valOf_digitsN, valOf_digitsN] at this

end Go.Proofs.YtfmhbibdnkekcaaDoor.Q
