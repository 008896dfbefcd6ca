/- What is cut out of a text is sealed as the same bytes. -/
import Derived.Test.YtgknfdjfgemceaaDoorQx31
namespace Go.Proofs.YtgknfdjfgemceaaDoor.Pure
set_option linter.unusedVariables false
set_option linter.unusedSimpArgs false
open Go.RowKit Go.Proofs.YtgknfdjfgemceaaDoor.Q Go.Proofs.YtgknfdjfgemceaaDoorW.PrintWords Go.Proofs.YtgknfdjfgemceaaDoorW.PrintLast

theorem one_loop (a0 : ByteArray) (at_ : Nat) (hat : at_ ≤ a0.size) (l : List (List UInt8)) (hl : ∀ b ∈ l, sealB ⟨b.toArray⟩ = (⟨(msgL b).toArray⟩, 0)) (hz : (l.flatMap msgL).length ≤ 8000) (hn : l.length ≤ 8000) (d : Nat) : ∀ (k i : Nat) (all : ByteArray), i + d = l.length → d < k → all.data.toList = (l.take i).flatMap msgL →
    spigotlaw10_WireOne.l0 k a0 (at_ : Int) all (l.map bodB) (l.length : Int) (i : Int) = some (decide (l.flatMap msgL = a0.data.toList.take at_)) := by
  induction d with
  | zero =>
    intro k i all hi hk ha
    obtain ⟨k, rfl⟩ : ∃ n, k = n + 1 := ⟨k - 1, by omega⟩
    simp only [spigotlaw10_WireOne.l0]
    rw [if_neg (by omega), if_pos (by omega), if_pos (by omega), if_pos (by omega), ByteArray.toList_eq, ByteArray.toList_eq, Int.toNat_natCast, ha, List.take_of_length_le (by omega)]
    congr 1
    rw [show (a0.extract 0 at_).data.toList = a0.data.toList.take at_ by simp [ByteArray.data_extract]]
    rw [Bool.eq_iff_iff]; simp
  | succ d ih =>
    intro k i all hi hk ha
    obtain ⟨k, rfl⟩ : ∃ n, k = n + 1 := ⟨k - 1, by omega⟩
    have h1 : i < l.length := by omega
    simp only [spigotlaw10_WireOne.l0]
    rw [if_pos (by omega), if_pos (by omega), if_pos (by rw [List.length_map]; omega), rdS_at (l.map bodB) i (by rw [List.length_map]; exact h1), List.getElem_map]
    unfold wire_Seal.f
    rw [show sealB (bodB l[i]) = (⟨(msgL l[i]).toArray⟩, 0) from hl _ (List.getElem_mem h1)]
    simp only [Option.bind_some, if_true]
    have e1 : (l.take (i + 1)).flatMap msgL = (l.take i).flatMap msgL ++ msgL l[i] := by
      rw [List.take_succ_eq_append_getElem h1, List.flatMap_append]; simp
    have e2 : l.flatMap msgL = (l.take (i + 1)).flatMap msgL ++ (l.drop (i + 1)).flatMap msgL := by
      rw [← List.flatMap_append, List.take_append_drop]
    have hs1 : all.size = ((l.take i).flatMap msgL).length := by rw [← ha]; rfl
    have hs2 : (⟨(msgL l[i]).toArray⟩ : ByteArray).size = (msgL l[i]).length := sz_lit _
    have hlen : ((l.take i).flatMap msgL).length + (msgL l[i]).length ≤ 8000 := by
      have := congrArg List.length e2
      rw [e1, List.length_append, List.length_append] at this
      omega
    rw [if_pos (by omega), w64 (by omega) (by omega), show (i : Int) + 1 = ((i + 1 : Nat) : Int) by omega]
    refine ih k (i + 1) _ (by omega) (by omega) ?_
    rw [ByteArray.data_append, Array.toList_append, ha, e1]
theorem WireOne : spigotlaw10_WireOne.Pure := by
  intro a0 h0
  refine ⟨a0.size + 2, ?_⟩
  unfold spigotlaw10_WireOne.f spigotlaw10_awake.f
  simp only [Option.bind_some, if_true]
  by_cases c : (a0.size : Int) > 8000
  · rw [if_pos c]
  · rw [if_neg c]
    unfold wire_Cut.f
    rw [if_pos (by omega)]
    simp only [Option.bind_some]
    have hsl : a0.data.toList.length = a0.size := rfl
    have hc := cutL_count a0.size a0.data.toList 0 (by rw [hsl]; omega)
    obtain ⟨p1, p2, p3⟩ := cutL_place a0.size a0.data.toList 0 (by rw [hsl]; omega)
    have hseal := cutL_seals a0.size a0.data.toList 0
    rw [hsl] at hc p2
    rw [Nat.sub_zero] at p3
    generalize (cutL a0.size a0.data.toList 0).2.1 = q at p1 p2 p3
    generalize (cutL a0.size a0.data.toList 0).1 = l at hc p3 hseal
    have hlen : (l.flatMap msgL).length ≤ 8000 := by rw [p3, List.length_take]; omega
    have := one_loop a0 q (by omega) l hseal hlen (by omega) l.length (a0.size + 2) 0 ⟨#[]⟩ (by omega) (by omega) (by simp)
    rw [List.length_map]
    rw [show (0 : Int) = ((0 : Nat) : Int) from rfl, this, p3]
    simp

end Go.Proofs.YtgknfdjfgemceaaDoor.Pure
