/- Each Go function that the laws of this seat reach, as a plain Lean function, and its contract: the machine's call does what that function says. -/
import Derived.Test.YtfmhbibdnkekcaaQx0
import Derived.Test.YtfmhbibdnkekcaaQx1
import Derived.Test.YtfmhbibdnkekcaaQx7
import Derived.Test.YtfmhbibdnkekcaaQx9
import Derived.Test.YtfmhbibdnkekcaaQx16
import Derived.Test.YtfmhbibdnkekcaaQx17
namespace Go.Proofs.Ytfmhbibdnkekcaa.Q
open Go.RowKit Go.Proofs.YtfmhbibdnkekcaaW.PrintWords Go.Proofs.YtfmhbibdnkekcaaW.PrintLast Go.Proofs.YtfmhbibdnkekcaaW.PrintMore
attribute [local go_sem] max2_int min2_int max_two min_two max_three min_three max_four min_four   -- for this text's walks alone
set_option linter.unusedVariables false
set_option linter.unusedSimpArgs false

--PART
/-! ### spigotref09_Read: function 12 -/
theorem spigotref09_Read_loop (s : ByteArray) (d : Nat) : ∀ (k : Nat) (i : Nat), i + d = 256 → d < k → (∀ j : Nat, j < i → (threeOf j).data.toList ≠ s.data.toList) →
    spigotref09_Read_p.l0 k s (i : Int) = some (threeNo s) := by
  induction d with
  | zero =>
    intro k i hi hk hn
    obtain ⟨k, rfl⟩ : ∃ m, k = m + 1 := ⟨k - 1, by omega⟩
    simp only [spigotref09_Read_p.l0]
    rw [if_neg (by omega)]
    congr 1
    have hr := threeNo_range s
    rcases Int.lt_or_le (threeNo s) 0 with h | h
    · omega
    · obtain ⟨n, hN⟩ := Int.eq_ofNat_of_zero_le h
      have := threeNo_yes s h
      rw [hN] at this
      exact absurd this (hn n (by omega))
  | succ d ih =>
    intro k i hi hk hn
    obtain ⟨k, rfl⟩ : ∃ m, k = m + 1 := ⟨k - 1, by omega⟩
    simp only [spigotref09_Read_p.l0]
    have e3 : spigotref09_Three.f (i : Int) = some (threeOf i) := by unfold spigotref09_Three.f; rw [if_pos (by omega)]
    rw [if_pos (by omega), e3]
    simp only [Option.bind_some]
    by_cases c : (threeOf i).toList = s.toList
    · rw [if_pos c]
      congr 1
      exact (threeNo_of s i (by omega) (by omega) (by simpa [ByteArray.toList_eq] using c.symm)).symm
    · rw [if_neg c, w64 (by omega) (by omega), show ((i : Int) + 1) = ((i + 1 : Nat) : Int) by omega]
      refine ih k (i + 1) (by omega) (by omega) (fun j hj => ?_)
      rcases Nat.lt_or_ge j i with h | h
      · exact hn j h
      · obtain rfl : j = i := by omega
        simpa [ByteArray.toList_eq] using c
def spigotref09_Read.f (a0 : ByteArray) : Option Int := some (threeNo a0)
theorem spigotref09_Read.calls (a0 : ByteArray) (r : Int) (w : World) (h : spigotref09_Read.f a0 = some r) :
    Calls Try.prog 12 #[.string a0] w fun e w' => e = .returned (.int .i64 r) ∧ Below w.heap.size w w' :=
  spigotref09_Read_p.calls 257 a0 r w ((spigotref09_Read_loop a0 256 257 0 (by omega) (by omega) (by omega)).trans h)

end Go.Proofs.Ytfmhbibdnkekcaa.Q
