/- Each Go function that the laws of this seat reach, as a plain Lean function, and its contract: the machine's call does what that function says. -/
import Derived.Test.YtbejjoogefleeaaGreatDoorEx0
import Derived.Test.YtbejjoogefleeaaGreatDoorEx1
namespace Go.Proofs.YtbejjoogefleeaaGreatDoor.E
open Go.RowKit Go.Proofs.YtbejjoogefleeaaGreatDoorW.PrintWords Go.Proofs.YtbejjoogefleeaaGreatDoorW.PrintLast Go.Proofs.YtbejjoogefleeaaGreatDoorW.PrintMore
attribute [local go_sem] max2_int min2_int max_two min_two max_three min_three max_four min_four   -- for this text's walks alone
set_option linter.unusedVariables false
set_option linter.unusedSimpArgs false

--PART
/-! ### strconv_Itoa: function 230 -/
def strconv_Itoa.f (a0 : Int) : Option ByteArray := if 0 ≤ a0 ∧ a0 ≤ 9223372036854775807 then some (digitsB a0) else none
theorem strconv_Itoa.calls (a0 : Int) (r : ByteArray) (w : World) (hT_ : Aside0 (Tabs_ w)) (h : strconv_Itoa.f a0 = some r) :
    Calls Tryz.prog 230 #[.int .i64 a0] w fun e w' => e = .returned (.string r) ∧ Below w.heap.size w w' := by
  unfold strconv_Itoa.f at h
  by_cases c : 0 ≤ a0 ∧ a0 ≤ 9223372036854775807
  · rw [if_pos c] at h
    obtain rfl := Option.some.inj h
    refine (Tryz.strconv_Itoa a0 (by omega) c.2 w hT_.out.tab).mono ?_
    rintro e w' ⟨rfl, k, os, rfl⟩
    refine ⟨?_, Lib.below_grow _ w (Nat.le_refl _) k os⟩
    obtain ⟨n, rfl⟩ := Int.eq_ofNat_of_zero_le c.1
    unfold digitsB
    rw [Lib.itoa_nonneg, decDigits_digitsN, Int.toNat_natCast]
  · rw [if_neg c] at h; cases h

end Go.Proofs.YtbejjoogefleeaaGreatDoor.E
