/- Orders and replies that are encoded are decoded as they were; and no order's body is a reply's. -/
import Derived.Test.YtgfigkfcmkdjdaaDoorOwnPostBack
namespace Go.Proofs.YtgfigkfcmkdjdaaDoor.Pure
open Go.RowKit Go.Proofs.YtgfigkfcmkdjdaaDoor.B Go.Proofs.YtgfigkfcmkdjdaaDoorW.PrintWords Go.Proofs.YtgfigkfcmkdjdaaDoorW.PrintLast Go.Proofs.YtgfigkfcmkdjdaaDoor.postBack
set_option linter.unusedVariables false
set_option linter.unusedSimpArgs false
theorem short_l0 (l : List ByteArray) (hl : l.length ≤ 100) : ∀ n i : Nat, i + n = l.length → ∃ b, spigotlaw14_short.l0 (n + 1) l (l.length : Int) (i : Int) = some b ∧ (b = true → ∀ j (h : j < l.length), i ≤ j → (l[j]).size ≤ 200) := by
  intro n
  induction n with
  | zero =>
    intro i hi
    refine ⟨true, ?_, fun _ j h hj => by omega⟩
    rw [spigotlaw14_short.l0, if_neg (by omega)]
  | succ n ih =>
    intro i hi
    have hr : rdOf ByteArray.empty l (i : Int) = l[i] := by simp [rdOf, show i < l.length by omega]
    rw [spigotlaw14_short.l0, if_pos (by omega), if_pos (by omega), if_pos (by omega), hr]
    by_cases c : ((l[i]).size : Int) > 200
    · exact ⟨false, by rw [if_pos c], fun h => by cases h⟩
    · obtain ⟨b, h1, h2⟩ := ih (i + 1) (by omega)
      refine ⟨b, by rw [if_neg c, show wrap64 ((i : Int) + 1) = ((i + 1 : Nat) : Int) by rw [w64 (by omega) (by omega)]; omega]; exact h1, fun hb j h hj => ?_⟩
      rcases Nat.eq_or_lt_of_le hj with rfl | hlt
      · omega
      · exact h2 hb j h hlt
theorem dO_f (s : ByteArray) (h : s.size ≤ 140737488351232) : post_DecodeOrder.f s = some ((orderD s).1.f0, (orderD s).1.f1, (orderD s).1.f2, (orderD s).1.f3, (orderD s).1.f4, (orderD s).1.f5, (orderD s).1.f6, (orderD s).2.1, (orderD s).2.2) := by unfold post_DecodeOrder.f; rw [if_pos h]
theorem dP_f (s : ByteArray) (h : s.size ≤ 140737488351232) : post_DecodeReply.f s = some ((replyD s).1.f0, (replyD s).1.f1, (replyD s).1.f2, (replyD s).1.f3, (replyD s).1.f4, (replyD s).1.f5, (replyD s).1.f6, (replyD s).2.1, (replyD s).2.2) := by unfold post_DecodeReply.f; rw [if_pos h]
theorem eO_f (v : OrdV) (h2 : v.f2.size ≤ 200) (h3 : v.f3.size ≤ 200) : post_EncodeOrder.f v.f0 v.f1 v.f2 v.f3 v.f4 v.f5 v.f6 = some (encO v) := by unfold post_EncodeOrder.f; rw [if_pos ⟨by omega, by omega⟩]
theorem eP_f (v : RepV) (h2 : v.f2.size ≤ 200) (h3 : v.f3.size ≤ 200) (h6 : v.f6.size ≤ 200) : post_EncodeReply.f v.f0 v.f1 v.f2 v.f3 v.f4 v.f5 v.f6 = some (encP v) := by unfold post_EncodeReply.f; rw [if_pos ⟨by omega, by omega, by omega⟩]
theorem back_j0 (v : RepV) (h2 : v.f2.size ≤ 200) (h3 : v.f3.size ≤ 200) (h6 : v.f6.size ≤ 200) : spigotlaw14_PostBack.j0 6 v.f0 v.f1 v.f2 v.f3 v.f4 v.f5 v.f6 = some true := by
  rw [spigotlaw14_PostBack.j0, eP_f v h2 h3 h6]
  simp only [Option.bind_some]
  cases hr : rightP v with
  | false => rw [encP_wrong v hr, if_neg (by decide)]
  | true =>
    have hs := encP_size v
    have hc := encP_cross v hr
    rw [if_pos (by rw [encP_right v hr]), dP_f _ (by omega), encP_back v hr, dO_f _ (by omega)]
    simp only [Option.bind_some]
    rw [if_pos trivial, if_pos (by simp), show ((orderD (encP v).1).2.2 != 0) = true by rw [bne_iff_ne]; exact hc]
theorem PostBack : Go.Proofs.YtgfigkfcmkdjdaaDoor.postBack.P := by
  intro s0 s1 hok0 hok1
  refine ⟨6, ?_⟩
  unfold spigotlaw14_PostBack.f spigotlaw14_awake.f
  simp only [Option.bind_some]
  rw [if_pos trivial]
  obtain ⟨b, hb, hs⟩ := short_l0 [s0.f2, s0.f3, s1.f2, s1.f3, s1.f6] (by simp) 5 0 rfl
  have hb' : spigotlaw14_short.f 6 [s0.f2, s0.f3, s1.f2, s1.f3, s1.f6] = some b := hb
  rw [hb']
  simp only [Option.bind_some]
  cases b with
  | false => rw [if_neg (by decide)]
  | true =>
    rw [if_pos rfl]
    have g := hs rfl
    have g0 : s0.f2.size ≤ 200 := g 0 (by simp) (Nat.zero_le _)
    have g1 : s0.f3.size ≤ 200 := g 1 (by simp) (Nat.zero_le _)
    have g2 : s1.f2.size ≤ 200 := g 2 (by simp) (Nat.zero_le _)
    have g3 : s1.f3.size ≤ 200 := g 3 (by simp) (Nat.zero_le _)
    have g4 : s1.f6.size ≤ 200 := g 4 (by simp) (Nat.zero_le _)
    have hj := back_j0 ⟨s1.f0, s1.f1, s1.f2, s1.f3, s1.f4, s1.f5, s1.f6⟩ g2 g3 g4
    have he := eO_f ⟨s0.f0, s0.f1, s0.f2, s0.f3, s0.f4, s0.f5, s0.f6⟩ g0 g1
    simp only at hj he
    rw [he]
    simp only [Option.bind_some]
    have hz := encO_size ⟨s0.f0, s0.f1, s0.f2, s0.f3, s0.f4, s0.f5, s0.f6⟩
    cases hr : rightO ⟨s0.f0, s0.f1, s0.f2, s0.f3, s0.f4, s0.f5, s0.f6⟩ with
    | false => rw [encO_wrong _ hr, if_neg (by decide)]; exact hj
    | true =>
      have hc := encO_cross _ hr
      rw [if_pos (by rw [encO_right _ hr]), dO_f _ (by omega), encO_back _ hr, dP_f _ (by omega)]
      simp only [Option.bind_some]
      rw [if_pos trivial, if_neg (by simp), if_neg hc]
      exact hj

end Go.Proofs.YtgfigkfcmkdjdaaDoor.Pure
