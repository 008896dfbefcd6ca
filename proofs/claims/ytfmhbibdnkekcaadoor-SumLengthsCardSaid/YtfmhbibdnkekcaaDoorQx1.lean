/- Each Go function that the laws of this seat reach, as a plain Lean function, and its contract: the machine's call does what that function says. -/
import Derived.Test.YtfmhbibdnkekcaaDoorQx0
namespace Go.Proofs.YtfmhbibdnkekcaaDoor.Q
open Go.RowKit Go.Proofs.YtfmhbibdnkekcaaDoorW.PrintWords Go.Proofs.YtfmhbibdnkekcaaDoorW.PrintLast Go.Proofs.YtfmhbibdnkekcaaDoorW.PrintMore
attribute [local go_sem] max2_int min2_int max_two min_two max_three min_three max_four min_four   -- for this text's walks alone
set_option linter.unusedVariables false
set_option linter.unusedSimpArgs false

--PART
/-! ### Plain words on bytes and numbers -/
def big : Nat := 4611686018427387904
theorem w64 {x : Int} (h0 : -9223372036854775808 ≤ x) (h1 : x ≤ 9223372036854775807) : wrap64 x = x := by
  unfold wrap64; omega
theorem bt_get (s : ByteArray) (i : Nat) (h : i < s.data.toList.length) : bt s (i : Int) = ((s.data.toList[i]).toNat : Int) := by
  have h2 : i < s.size := h
  unfold bt
  rw [dif_pos (by simpa using h2)]
  rfl
theorem size_list (s : ByteArray) : s.data.toList.length = s.size := rfl
theorem ba_ext {a b : ByteArray} (h : a.data.toList = b.data.toList) : a = b := by
  cases a; cases b; simpa using h
theorem u8_lt (b : UInt8) : b.toNat < 256 := b.toNat_lt
/-- The bytes' sum. -/
def bsum (l : List UInt8) : Nat := (l.map UInt8.toNat).sum
theorem bsum_nil : bsum [] = 0 := rfl
theorem bsum_cons (b : UInt8) (l : List UInt8) : bsum (b :: l) = b.toNat + bsum l := by simp [bsum]
theorem bsum_append (a b : List UInt8) : bsum (a ++ b) = bsum a + bsum b := by simp [bsum]
/-- A text's sum. -/
def sumOf (s : ByteArray) : Int := ((bsum s.data.toList % 256 : Nat) : Int)
theorem w01 : wrap64 (0 + 1) = 1 := by rw [w64 (by omega) (by omega)]; rfl
theorem w12 : wrap64 (1 + 1) = 2 := by rw [w64 (by omega) (by omega)]; rfl
theorem w23 : wrap64 (2 + 1) = 3 := by rw [w64 (by omega) (by omega)]; rfl

end Go.Proofs.YtfmhbibdnkekcaaDoor.Q
