/- Each Go function that the laws of this seat reach, as a plain Lean function, and its contract: the machine's call does what that function says. -/
import Derived.Test.YtgknfdjfgemceaaDoorQx0
import Derived.Test.YtgknfdjfgemceaaDoorQx1
import Derived.Test.YtgknfdjfgemceaaDoorQx10
import Derived.Test.YtgknfdjfgemceaaDoorQx21
namespace Go.Proofs.YtgknfdjfgemceaaDoor.Q
open Go.RowKit Go.Proofs.YtgknfdjfgemceaaDoorW.PrintWords Go.Proofs.YtgknfdjfgemceaaDoorW.PrintLast Go.Proofs.YtgknfdjfgemceaaDoorW.PrintMore
attribute [local go_sem] max2_int min2_int max_two min_two max_three min_three max_four min_four   -- for this text's walks alone
set_option linter.unusedVariables false
set_option linter.unusedSimpArgs false

--PART
/-! ### spigotref09_Three: function 35 -/
theorem threeOf_eq (n : Nat) (h : n ≤ 255) : ((⟨#[48, 48]⟩ : ByteArray) ++ digitsB n).extract (2 + (digitsB n).size - 3) (2 + (digitsB n).size) = threeOf n := by
  have : ∀ m : Nat, m < 256 → ((⟨#[48, 48]⟩ : ByteArray) ++ (⟨((if m < 10 then [UInt8.ofNat (48 + m)] else (if m / 10 < 10 then [UInt8.ofNat (48 + m / 10)] else [UInt8.ofNat (48 + m / 10 / 10)] ++ [UInt8.ofNat (48 + m / 10 % 10)]) ++ [UInt8.ofNat (48 + m % 10)])).toArray⟩ : ByteArray)).extract (2 + (⟨((if m < 10 then [UInt8.ofNat (48 + m)] else (if m / 10 < 10 then [UInt8.ofNat (48 + m / 10)] else [UInt8.ofNat (48 + m / 10 / 10)] ++ [UInt8.ofNat (48 + m / 10 % 10)]) ++ [UInt8.ofNat (48 + m % 10)])).toArray⟩ : ByteArray).size - 3) (2 + (⟨((if m < 10 then [UInt8.ofNat (48 + m)] else (if m / 10 < 10 then [UInt8.ofNat (48 + m / 10)] else [UInt8.ofNat (48 + m / 10 / 10)] ++ [UInt8.ofNat (48 + m / 10 % 10)]) ++ [UInt8.ofNat (48 + m % 10)])).toArray⟩ : ByteArray).size) = threeOf m := by decide +kernel
  have e : digitsN n = (if n < 10 then [UInt8.ofNat (48 + n)] else (if n / 10 < 10 then [UInt8.ofNat (48 + n / 10)] else [UInt8.ofNat (48 + n / 10 / 10)] ++ [UInt8.ofNat (48 + n / 10 % 10)]) ++ [UInt8.ofNat (48 + n % 10)]) := by
    rw [digitsN]; split
    · rfl
    · rw [digitsN]; split
      · rfl
      · rw [digitsN_small (n := n / 10 / 10) (by omega)]
  unfold digitsB
  rw [Int.toNat_natCast, e]
  exact this n (by omega)
def spigotref09_Three.f (a0 : Int) : Option ByteArray := if 0 ≤ a0 ∧ a0 ≤ 255 then some (threeOf a0) else none
set_option maxHeartbeats 400000 in
theorem spigotref09_Three.calls (a0 : Int) (r : ByteArray) (w : World) (h : spigotref09_Three.f a0 = some r) :
    Calls Tryd.prog 35 #[.int .i64 a0] w fun e w' => e = .returned (.string r) ∧ Below w.heap.size w w' := by
  unfold spigotref09_Three.f at h
  by_cases c : 0 ≤ a0 ∧ a0 ≤ 255
  · rw [if_pos c] at h
    obtain rfl := Option.some.inj h
    obtain ⟨n, rfl⟩ := Int.eq_ofNat_of_zero_le c.1
    have hE := Aside0.mk (threeOf_eq n (by omega))
    have hD : spigotref08_Digits.f (n : Int) = some (digitsB n) := by unfold spigotref08_Digits.f; rw [if_pos (by omega)]
    have h1 := digitsB_pos n
    have h2 := digitsB_20 n (by omega)
    have HD := Aside0.mk hD
    clear hD
    generalize threeOf n = t3 at *
    generalize digitsB n = t at *
    clear c
    go_enter Tryd.func35, Tryd.ntmps35
    go_wp2_with (go_at_call 34; refine (spigotref08_Digits.calls _ _ _ HD.out).mono ?_; rintro e w1 ⟨rfl, hd⟩; have HB := Aside0.mk hd; clear hd)
    go_ret
    exact ⟨by simp; exact hE.out, HB.out⟩
  · rw [if_neg c] at h; cases h

end Go.Proofs.YtgknfdjfgemceaaDoor.Q
