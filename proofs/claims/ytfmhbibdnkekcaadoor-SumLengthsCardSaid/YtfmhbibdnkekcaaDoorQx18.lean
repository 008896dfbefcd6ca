/- Each Go function that the laws of this seat reach, as a plain Lean function, and its contract: the machine's call does what that function says. -/
import Derived.Test.YtfmhbibdnkekcaaDoorQx0
import Derived.Test.YtfmhbibdnkekcaaDoorQx1
import Derived.Test.YtfmhbibdnkekcaaDoorQx2
import Derived.Test.YtfmhbibdnkekcaaDoorQx17
namespace Go.Proofs.YtfmhbibdnkekcaaDoor.Q
open Go.RowKit Go.Proofs.YtfmhbibdnkekcaaDoorW.PrintWords Go.Proofs.YtfmhbibdnkekcaaDoorW.PrintLast Go.Proofs.YtfmhbibdnkekcaaDoorW.PrintMore
attribute [local go_sem] max2_int min2_int max_two min_two max_three min_three max_four min_four   -- for this text's walks alone
set_option linter.unusedVariables false
set_option linter.unusedSimpArgs false

--PART
/-! ### spigotref08_Digits: function 8 -/
theorem spigotref08_Digits_loop (n : Nat) : ∀ (k : Nat), n < 9223372036854775808 → n < k → spigotref08_Digits_p.f k (n : Int) = some ⟨(digitsN n).toArray⟩ := by
  induction n using Nat.strongRecOn with
  | _ n ih =>
  intro k hn hk
  obtain ⟨k, rfl⟩ : ∃ m, k = m + 1 := ⟨k - 1, by omega⟩
  simp only [spigotref08_Digits_p.f]
  by_cases h : n < 10
  · rw [if_pos (by omega), digitsN_small h, w64 (by omega) (by omega)]
    refine congrArg some (ba_ext ?_)
    have e3 : ((48 + (n : Int)) % 256).toNat = 48 + n := by omega
    simp only [strOfNums_list, List.map_cons, List.map_nil, e3]
  · have ed : Int.tdiv (n : Int) 10 = ((n / 10 : Nat) : Int) := by rw [Int.tdiv_eq_ediv_of_nonneg (by omega)]; omega
    have em : Int.tmod (n : Int) 10 = ((n % 10 : Nat) : Int) := by rw [Int.tmod_eq_emod_of_nonneg (by omega)]; omega
    rw [if_neg (by omega), ed, em, w64 (x := ((n / 10 : Nat) : Int)) (by omega) (by omega), w64 (by omega) (by omega), ih (n / 10) (by omega) k (by omega) (by omega)]
    simp only [Option.bind_some]
    have hl := digitsN_len 19 (n / 10) (by omega)
    have e1 : (⟨(digitsN (n / 10)).toArray⟩ : ByteArray).size = (digitsN (n / 10)).length := by simp [ByteArray.size]
    rw [if_pos (by rw [e1, strOfNums_size]; simp only [List.length_cons, List.length_nil]; omega), digitsN_step (n := n) (by omega)]
    refine congrArg some (ba_ext ?_)
    have e3 : ((48 + ((n % 10 : Nat) : Int)) % 256).toNat = 48 + n % 10 := by omega
    simp only [ByteArray.data_append, Array.toList_append, strOfNums_list, List.map_cons, List.map_nil, e3]
def spigotref08_Digits.f (a0 : Int) : Option ByteArray := if 0 ≤ a0 ∧ a0 ≤ 9223372036854775807 then some (digitsB a0) else none
theorem spigotref08_Digits.calls (a0 : Int) (r : ByteArray) (w : World) (h : spigotref08_Digits.f a0 = some r) :
    Calls Tryd.prog 8 #[.int .i64 a0] w fun e w' => e = .returned (.string r) ∧ Below w.heap.size w w' := by
  unfold spigotref08_Digits.f at h
  by_cases c : 0 ≤ a0 ∧ a0 ≤ 9223372036854775807
  · rw [if_pos c] at h
    obtain rfl := Option.some.inj h
    obtain ⟨n, rfl⟩ := Int.eq_ofNat_of_zero_le c.1
    exact spigotref08_Digits_p.calls (n + 1) n _ w (by simpa [digitsB] using spigotref08_Digits_loop n (n + 1) (by omega) (by omega))
  · rw [if_neg c] at h; cases h

end Go.Proofs.YtfmhbibdnkekcaaDoor.Q
