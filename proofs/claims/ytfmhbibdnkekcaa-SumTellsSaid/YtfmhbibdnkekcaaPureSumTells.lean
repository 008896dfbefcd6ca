/- The law SumTells, over plain bytes: one byte that is another one changes a text's sum. Condition: the text's own reach, as the row has it. -/
import Derived.OpenShut
import Derived.Test.YtfmhbibdnkekcaaQx20
namespace Go.Proofs.Ytfmhbibdnkekcaa.Pure
set_option linter.unusedVariables false
set_option linter.unusedSimpArgs false
open Go.RowKit Go.Proofs.Ytfmhbibdnkekcaa.Q Go.Proofs.YtfmhbibdnkekcaaW.PrintWords Go.Proofs.YtfmhbibdnkekcaaW.PrintLast

theorem SumTells : spigotlaw09_SumTells.Pure := by
  intro s i x hs hi hx
  refine ⟨1, ?_⟩
  have hx2 : 0 ≤ x ∧ x ≤ 255 := by have := bounds_u8 hx; omega
  unfold spigotlaw09_SumTells.f spigotlaw09_awake.f
  simp only [Option.bind_some, if_true]
  have ht : ∀ x2, spigotlaw09_SumTells.j0 1 s i x2 true = some true := fun x2 => by simp [spigotlaw09_SumTells.j0]
  by_cases c0 : (s.size : Int) > 10000
  · rw [if_pos c0, ht]
  rw [if_neg c0]
  by_cases c1 : i < 0
  · rw [if_pos c1, ht]
  rw [if_neg c1]
  by_cases c2 : i ≥ s.size
  · rw [if_pos c2, ht]
  rw [if_neg c2, if_pos (by omega), if_pos (by omega)]
  obtain ⟨n, rfl⟩ := Int.eq_ofNat_of_zero_le (show 0 ≤ i by omega)
  have hl : n < s.data.toList.length := by rw [size_list]; omega
  rw [bt_get s n hl]
  by_cases c3 : ((s.data.toList[n]).toNat : Int) = x
  · rw [beq_iff_eq.2 c3, ht]
  rw [beq_eq_false_iff_ne.2 c3]
  simp only [spigotlaw09_SumTells.j0, Bool.false_eq_true, if_false, Option.bind_some]
  rw [if_pos (by omega), if_pos (by omega), w64 (by omega) (by omega)]
  rw [show ((n : Int) + 1) = ((n + 1 : Nat) : Int) by omega, Int.toNat_natCast, Int.toNat_natCast]
  have e1 : (s.extract 0 n).data.toList = s.data.toList.take n := by simp
  have e2 : (s.extract (n + 1) s.size).data.toList = s.data.toList.drop (n + 1) := by rw [ByteArray.data_extract, Array.toList_extract, List.extract_eq_take_drop]; exact List.take_of_length_le (by rw [List.length_drop, size_list]; omega)
  have z1 : (s.extract 0 n).size = n := by rw [ByteArray.size_extract]; omega
  have z2 : (s.extract (n + 1) s.size).size = s.size - (n + 1) := by rw [ByteArray.size_extract]; omega
  have z3 : (strOfNums [x]).size = 1 := by rw [strOfNums_size]; rfl
  rw [if_pos (by omega), if_pos (by omega), if_pos (by omega), if_pos (by rw [ByteArray.size_append]; omega)]
  unfold sum_Sum.f
  rw [if_pos (by unfold big; omega), if_pos (by rw [ByteArray.size_append, ByteArray.size_append]; unfold big; omega)]
  simp only [Option.bind_some]
  congr 1
  rw [bne_iff_ne]
  unfold sumOf
  have e3 : (s.extract 0 n ++ strOfNums [x] ++ s.extract (n + 1) s.size).data.toList = s.data.toList.take n ++ [UInt8.ofNat x.toNat] ++ s.data.toList.drop (n + 1) := by
    rw [ByteArray.data_append, ByteArray.data_append, Array.toList_append, Array.toList_append, e1, e2]; rfl
  have e4 : s.data.toList = s.data.toList.take n ++ [s.data.toList[n]] ++ s.data.toList.drop (n + 1) := by
    rw [List.append_assoc, List.singleton_append, ← List.drop_eq_getElem_cons hl, List.take_append_drop]
  have e5 : bsum s.data.toList = bsum (s.data.toList.take n) + (s.data.toList[n]).toNat + bsum (s.data.toList.drop (n + 1)) := by
    conv => lhs; rw [e4]
    rw [bsum_append, bsum_append, bsum_cons, bsum_nil]; omega
  rw [e3, e5, bsum_append, bsum_append, bsum_cons, bsum_nil, ofNat_toNat_small (by omega)]
  have hb := u8_lt (s.data.toList[n])
  omega

end Go.Proofs.Ytfmhbibdnkekcaa.Pure
