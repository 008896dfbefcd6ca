/- Each Go function that the laws of this seat reach, as a plain Lean function, and its contract: the machine's call does what that function says. -/
import Derived.Test.YtfmhbibdnkekcaaDoorQx0
import Derived.Test.YtfmhbibdnkekcaaDoorQx1
import Derived.Test.YtfmhbibdnkekcaaDoorQx2
import Derived.Test.YtfmhbibdnkekcaaDoorQx4
import Derived.Test.YtfmhbibdnkekcaaDoorQx18
import Derived.Test.YtfmhbibdnkekcaaDoorQx19
namespace Go.Proofs.YtfmhbibdnkekcaaDoor.Q
open Go.RowKit Go.Proofs.YtfmhbibdnkekcaaDoorW.PrintWords Go.Proofs.YtfmhbibdnkekcaaDoorW.PrintLast Go.Proofs.YtfmhbibdnkekcaaDoorW.PrintMore
attribute [local go_sem] max2_int min2_int max_two min_two max_three min_three max_four min_four   -- for this text's walks alone
set_option linter.unusedVariables false
set_option linter.unusedSimpArgs false

--PART
/-! ### spigotref09_ReadLength: function 7 -/
theorem spigotref09_ReadLength_loop (s : ByteArray) (d : Nat) : ∀ (k : Nat) (i : Nat), i + d = 4097 → 1 ≤ i → d < k → (∀ j : Nat, 1 ≤ j → j < i → digitsN j ≠ s.data.toList) →
    spigotref09_ReadLength_p.l0 k s (i : Int) = some (lenNo s) := by
  induction d with
  | zero =>
    intro k i hi h1 hk hn
    obtain ⟨k, rfl⟩ : ∃ m, k = m + 1 := ⟨k - 1, by omega⟩
    simp only [spigotref09_ReadLength_p.l0]
    rw [if_neg (by omega)]
    congr 1
    have hr := lenNo_range s
    rcases Int.lt_or_le (lenNo s) 0 with h | h
    · omega
    · obtain ⟨n, hN⟩ := Int.eq_ofNat_of_zero_le h
      obtain ⟨g1, g2, g3⟩ := lenNo_yes s n hN
      exact absurd g1 (hn n g2 (by omega))
  | succ d ih =>
    intro k i hi h1 hk hn
    obtain ⟨k, rfl⟩ : ∃ m, k = m + 1 := ⟨k - 1, by omega⟩
    simp only [spigotref09_ReadLength_p.l0]
    have e3 : spigotref08_Digits.f (i : Int) = some (digitsB i) := by unfold spigotref08_Digits.f; rw [if_pos (by omega)]
    rw [if_pos (by omega), e3]
    simp only [Option.bind_some]
    rw [ByteArray.toList_eq, ByteArray.toList_eq, digitsB_list, Int.toNat_natCast]
    by_cases c : digitsN i = s.data.toList
    · rw [if_pos c, lenNo_of s i h1 (by omega) c]
    · rw [if_neg c, w64 (by omega) (by omega), show ((i : Int) + 1) = ((i + 1 : Nat) : Int) by omega]
      refine ih k (i + 1) (by omega) (by omega) (by omega) (fun j hj1 hj => ?_)
      rcases Nat.lt_or_ge j i with h | h
      · exact hn j hj1 h
      · obtain rfl : j = i := by omega
        exact c
theorem spigotref09_ReadLength_eq (s : ByteArray) : spigotref09_ReadLength_p.f 4097 s = some (lenNo s) := by
  unfold spigotref09_ReadLength_p.f
  by_cases c : (s.size : Int) > 4
  · rw [if_pos c]
    congr 1
    have hr := lenNo_range s
    rcases Int.lt_or_le (lenNo s) 0 with h | h
    · omega
    · obtain ⟨n, hN⟩ := Int.eq_ofNat_of_zero_le h
      obtain ⟨g1, g2, g3⟩ := lenNo_yes s n hN
      have := digitsN_len 3 n (by omega)
      rw [g1, size_list] at this
      omega
  · rw [if_neg c]
    exact spigotref09_ReadLength_loop s 4096 4097 1 (by omega) (by omega) (by omega) (fun j h1 h2 => by omega)
def spigotref09_ReadLength.f (a0 : ByteArray) : Option Int := some (lenNo a0)
theorem spigotref09_ReadLength.calls (a0 : ByteArray) (r : Int) (w : World) (h : spigotref09_ReadLength.f a0 = some r) :
    Calls Tryd.prog 7 #[.string a0] w fun e w' => e = .returned (.int .i64 r) ∧ Below w.heap.size w w' :=
  spigotref09_ReadLength_p.calls 4097 a0 r w ((spigotref09_ReadLength_eq a0).trans h)

end Go.Proofs.YtfmhbibdnkekcaaDoor.Q
