/- Any reply is right just if the document says so, and has the document's body. -/
import Derived.Test.YtgfigkfcmkdjdaaDoorOwnPostReplies
namespace Go.Proofs.YtgfigkfcmkdjdaaDoor.Pure
open Go.RowKit Go.Proofs.YtgfigkfcmkdjdaaDoor.B Go.Proofs.YtgfigkfcmkdjdaaDoorW.PrintWords Go.Proofs.YtgfigkfcmkdjdaaDoorW.PrintLast Go.Proofs.YtgfigkfcmkdjdaaDoor.postReplies
set_option linter.unusedVariables false
set_option linter.unusedSimpArgs false
theorem short_l0 (l : List ByteArray) (hl : l.length ≤ 100) : ∀ n i : Nat, i + n = l.length → ∃ b, spigotlaw14_short.l0 (n + 1) l (l.length : Int) (i : Int) = some b ∧ (b = true → ∀ j (h : j < l.length), i ≤ j → (l[j]).size ≤ 200) := by
  intro n
  induction n with
  | zero =>
    intro i hi
    refine ⟨true, ?_, fun _ j h hj => by omega⟩
    rw [spigotlaw14_short.l0, if_neg (by omega)]
  | succ n ih =>
    intro i hi
    have hr : rdOf ByteArray.empty l (i : Int) = l[i] := by simp [rdOf, show i < l.length by omega]
    rw [spigotlaw14_short.l0, if_pos (by omega), if_pos (by omega), if_pos (by omega), hr]
    by_cases c : ((l[i]).size : Int) > 200
    · exact ⟨false, by rw [if_pos c], fun h => by cases h⟩
    · obtain ⟨b, h1, h2⟩ := ih (i + 1) (by omega)
      refine ⟨b, by rw [if_neg c, show wrap64 ((i : Int) + 1) = ((i + 1 : Nat) : Int) by rw [w64 (by omega) (by omega)]; omega]; exact h1, fun hb j h hj => ?_⟩
      rcases Nat.eq_or_lt_of_le hj with rfl | hlt
      · omega
      · exact h2 hb j h hlt
theorem eP_f (v : RepV) (h2 : v.f2.size ≤ 200) (h3 : v.f3.size ≤ 200) (h6 : v.f6.size ≤ 200) : post_EncodeReply.f v.f0 v.f1 v.f2 v.f3 v.f4 v.f5 v.f6 = some (encP v) := by unfold post_EncodeReply.f; rw [if_pos ⟨by omega, by omega, by omega⟩]
theorem rP_f (v : RepV) (h2 : v.f2.size ≤ 200) (h3 : v.f3.size ≤ 200) (h6 : v.f6.size ≤ 200) : post_RightReply.f v.f0 v.f1 v.f2 v.f3 v.f4 v.f5 v.f6 = some (rightP v) := by unfold post_RightReply.f; rw [if_pos ⟨by omega, by omega, by omega⟩]
theorem refin_f (x l h : Int) : spigotref14_in.f x l h = some (decide (l ≤ x ∧ x ≤ h)) := by
  unfold spigotref14_in.f
  by_cases c : x ≥ l
  · rw [if_pos c]; simp [show l ≤ x from c]
  · rw [if_neg c]; simp [show ¬ l ≤ x from c]
theorem refname_f (s : ByteArray) (h : s.size ≤ 200) : spigotref04_Valid.f s = some (nameL s.data.toList 0) := by
  unfold spigotref04_Valid.f; rw [if_pos (by omega)]
theorem refP_f (a : RepV) (h2 : a.f2.size ≤ 200) (h3 : a.f3.size ≤ 200) (h6 : a.f6.size ≤ 200) : spigotref14_RightReply.f 3 a.f0 a.f1 a.f2 a.f3 a.f4 a.f5 a.f6 = some (rightP a) := by
  obtain ⟨f0, f1, f2, f3, f4, f5, f6⟩ := a
  simp only at h2 h3 h6
  have n2 := refname_f f2 h2
  have n3 := refname_f f3 h3
  have n6 := refname_f f6 h6
  have e6 : (f6.toList != ([] : List UInt8)) = !decide (f6 = ⟨#[]⟩) := by
    by_cases c : f6 = ⟨#[]⟩
    · simp [c, ByteArray.toList_eq]
    · have : f6.toList ≠ [] := fun h => c ((empty_iff f6).1 h)
      simp [c, this]
  simp only [spigotref14_RightReply.f, spigotref14_RightReply.j0, spigotref14_RightReply.j1, spigotref14_RightReply.j2, refin_f, n2, n3, n6, e6, Option.bind_some, empty_iff, rightP]
  generalize nameL f2.data.toList 0 = b2
  generalize nameL f3.data.toList 0 = b3
  generalize nameL f6.data.toList 0 = b6
  by_cases q0 : 1 ≤ f0 ∧ f0 ≤ 7
  · by_cases q1 : 1 ≤ f1 ∧ f1 ≤ 1099511627776
    · by_cases c5 : f0 = 5
      · subst c5
        by_cases q4 : 1 ≤ f4 ∧ f4 ≤ 1099511627776 <;> by_cases q5 : 1 ≤ f5 ∧ f5 ≤ 1099511627776 <;> by_cases q6 : f6 = ⟨#[]⟩ <;> cases b2 <;> cases b3 <;> simp [q1, q4, q5, q6]
      by_cases c6 : f0 = 6
      · subst c6
        by_cases q4 : f4 = 0 <;> by_cases q5 : f5 = 0 <;> cases b2 <;> cases b3 <;> cases b6 <;> simp [q1, q4, q5] <;> rfl
      by_cases c7 : f0 = 7
      · subst c7
        by_cases q4 : f4 = 0 <;> by_cases q5 : f5 = 0 <;> by_cases q6 : f6 = ⟨#[]⟩ <;> by_cases q3 : f3 = ⟨#[]⟩ <;> cases b2 <;> simp [q1, q3, q4, q5, q6] <;> rfl
      · by_cases q4 : f4 = 0 <;> by_cases q5 : f5 = 0 <;> by_cases q6 : f6 = ⟨#[]⟩ <;> cases b2 <;> cases b3 <;> simp [q0, q1, q4, q5, q6, c5, c6, c7] <;> rfl
    · simp [q0, q1]
  · simp [q0]
theorem replies_in (v : RepV) (h2 : v.f2.size ≤ 200) (h3 : v.f3.size ≤ 200) (h6 : v.f6.size ≤ 200) (b : Bool) (hb : spigotlaw14_short.f 4 [v.f2, v.f3, v.f6] = some b) (hh : b = true) : spigotlaw14_PostReplies.f 4 v.f0 v.f1 v.f2 v.f3 v.f4 v.f5 v.f6 = some true := by
  have hR : spigotref14_RightReply.f 4 v.f0 v.f1 v.f2 v.f3 v.f4 v.f5 v.f6 = some (rightP v) := spigotref14_RightReply.mono _ _ _ _ _ _ _ _ _ (refP_f v h2 h3 h6)
  unfold spigotlaw14_PostReplies.f spigotlaw14_awake.f spigotlaw14_Reply.f
  simp only [Option.bind_some]
  rw [if_pos trivial, hb]
  simp only [Option.bind_some]
  rw [if_pos hh, eP_f v h2 h3 h6]
  simp only [Option.bind_some]
  rw [hR, rP_f v h2 h3 h6]
  simp only [Option.bind_some]
  cases hr : rightP v with
  | true =>
    have hf : spigotref14_ReplyForm.f v.f0 v.f1 v.f2 v.f3 v.f4 v.f5 v.f6 = some (encP v).1 := by
      unfold spigotref14_ReplyForm.f
      rw [if_pos (show rightP ⟨v.f0, v.f1, v.f2, v.f3, v.f4, v.f5, v.f6⟩ = true from hr)]
    rw [if_pos rfl, if_pos rfl, if_pos (by rw [encP_right v hr]), hf]
    simp
  | false =>
    rw [if_neg (by decide), if_neg (by decide), if_pos (by rw [encP_wrong v hr]), encP_wrong v hr]
    simp [ByteArray.toList_eq]
theorem PostReplies : Go.Proofs.YtgfigkfcmkdjdaaDoor.postReplies.P := by
  intro s0 hok0
  refine ⟨4, ?_⟩
  obtain ⟨b, hb, hs⟩ := short_l0 [s0.f2, s0.f3, s0.f6] (by simp) 3 0 rfl
  have hb' : spigotlaw14_short.f 4 [s0.f2, s0.f3, s0.f6] = some b := hb
  cases b with
  | false =>
    unfold spigotlaw14_PostReplies.f spigotlaw14_awake.f
    simp only [Option.bind_some]
    rw [if_pos trivial, hb']
    simp only [Option.bind_some]
    rw [if_neg (by decide)]
  | true =>
    have g := hs rfl
    have g0 : s0.f2.size ≤ 200 := g 0 (by simp) (Nat.zero_le _)
    have g1 : s0.f3.size ≤ 200 := g 1 (by simp) (Nat.zero_le _)
    have g2 : s0.f6.size ≤ 200 := g 2 (by simp) (Nat.zero_le _)
    exact replies_in ⟨s0.f0, s0.f1, s0.f2, s0.f3, s0.f4, s0.f5, s0.f6⟩ g0 g1 g2 true hb' rfl

end Go.Proofs.YtgfigkfcmkdjdaaDoor.Pure
