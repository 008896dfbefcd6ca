/- Any order is right just if the document says so, and has the document's body. -/
import Derived.Test.YtgfigkfcmkdjdaaDoorOwnPostOrders
namespace Go.Proofs.YtgfigkfcmkdjdaaDoor.Pure
open Go.RowKit Go.Proofs.YtgfigkfcmkdjdaaDoor.B Go.Proofs.YtgfigkfcmkdjdaaDoorW.PrintWords Go.Proofs.YtgfigkfcmkdjdaaDoorW.PrintLast Go.Proofs.YtgfigkfcmkdjdaaDoor.postOrders
set_option linter.unusedVariables false
set_option linter.unusedSimpArgs false
theorem short_l0 (l : List ByteArray) (hl : l.length ≤ 100) : ∀ n i : Nat, i + n = l.length → ∃ b, spigotlaw14_short.l0 (n + 1) l (l.length : Int) (i : Int) = some b ∧ (b = true → ∀ j (h : j < l.length), i ≤ j → (l[j]).size ≤ 200) := by
  intro n
  induction n with
  | zero =>
    intro i hi
    refine ⟨true, ?_, fun _ j h hj => by omega⟩
    rw [spigotlaw14_short.l0, if_neg (by omega)]
  | succ n ih =>
    intro i hi
    have hr : rdOf ByteArray.empty l (i : Int) = l[i] := by simp [rdOf, show i < l.length by omega]
    rw [spigotlaw14_short.l0, if_pos (by omega), if_pos (by omega), if_pos (by omega), hr]
    by_cases c : ((l[i]).size : Int) > 200
    · exact ⟨false, by rw [if_pos c], fun h => by cases h⟩
    · obtain ⟨b, h1, h2⟩ := ih (i + 1) (by omega)
      refine ⟨b, by rw [if_neg c, show wrap64 ((i : Int) + 1) = ((i + 1 : Nat) : Int) by rw [w64 (by omega) (by omega)]; omega]; exact h1, fun hb j h hj => ?_⟩
      rcases Nat.eq_or_lt_of_le hj with rfl | hlt
      · omega
      · exact h2 hb j h hlt
theorem eO_f (v : OrdV) (h2 : v.f2.size ≤ 200) (h3 : v.f3.size ≤ 200) : post_EncodeOrder.f v.f0 v.f1 v.f2 v.f3 v.f4 v.f5 v.f6 = some (encO v) := by unfold post_EncodeOrder.f; rw [if_pos ⟨by omega, by omega⟩]
theorem refin_f (x l h : Int) : spigotref14_in.f x l h = some (decide (l ≤ x ∧ x ≤ h)) := by
  unfold spigotref14_in.f
  by_cases c : x ≥ l
  · rw [if_pos c]; simp [show l ≤ x from c]
  · rw [if_neg c]; simp [show ¬ l ≤ x from c]
theorem refname_f (s : ByteArray) (h : s.size ≤ 200) : spigotref04_Valid.f s = some (nameL s.data.toList 0) := by
  unfold spigotref04_Valid.f; rw [if_pos (by omega)]
theorem refO_f (a : OrdV) (h2 : a.f2.size ≤ 200) (h3 : a.f3.size ≤ 200) : spigotref14_RightOrder.f 3 a.f0 a.f1 a.f2 a.f3 a.f4 a.f5 a.f6 = some (rightO a) := by
  obtain ⟨f0, f1, f2, f3, f4, f5, f6⟩ := a
  simp only at h2 h3
  have n2 := refname_f f2 h2
  have n3 := refname_f f3 h3
  simp only [spigotref14_RightOrder.f, spigotref14_RightOrder.j0, spigotref14_RightOrder.j1, spigotref14_RightOrder.j2, refin_f, n2, n3, Option.bind_some, empty_iff, rightO]
  generalize nameL f2.data.toList 0 = b2
  generalize nameL f3.data.toList 0 = b3
  by_cases c1 : f0 = 1
  · subst c1
    by_cases q1 : 1 ≤ f1 ∧ f1 ≤ 1099511627776 <;> by_cases q5 : 1 ≤ f5 ∧ f5 ≤ 1099511627776 <;> by_cases q6 : 1 ≤ f6 ∧ f6 ≤ 1099511627776 <;> by_cases q4 : 1 ≤ f4 ∧ f4 ≤ 2 <;> cases b2 <;> cases b3 <;> simp [q1, q4, q5, q6]
  by_cases c2 : f0 = 2
  · subst c2
    by_cases q1 : 1 ≤ f1 ∧ f1 ≤ 1099511627776 <;> by_cases q3 : f3 = ⟨#[]⟩ <;> by_cases q4 : f4 = 0 <;> by_cases z5 : f5 = 0 <;> cases b2 <;> simp [q1, q3, q4, z5] <;> rfl
  by_cases c3 : f0 = 3
  · subst c3
    by_cases q1 : 1 ≤ f1 ∧ f1 ≤ 1099511627776 <;> by_cases q5 : 1 ≤ f5 ∧ f5 ≤ 1099511627776 <;> by_cases q6 : 1 ≤ f6 ∧ f6 ≤ 1099511627776 <;> by_cases q3 : f3 = ⟨#[]⟩ <;> by_cases q4 : f4 = 0 <;> cases b2 <;> simp [q1, q3, q4, q5, q6]
  · have q : ¬ (1 ≤ f0 ∧ f0 ≤ 3) := by omega
    simp [q]
theorem orders_in (v : OrdV) (h2 : v.f2.size ≤ 200) (h3 : v.f3.size ≤ 200) (b : Bool) (hb : spigotlaw14_short.f 3 [v.f2, v.f3] = some b) (hh : b = true) : spigotlaw14_PostOrders.f 3 v.f0 v.f1 v.f2 v.f3 v.f4 v.f5 v.f6 = some true := by
  unfold spigotlaw14_PostOrders.f spigotlaw14_awake.f spigotlaw14_Order.f
  simp only [Option.bind_some]
  rw [if_pos trivial, hb]
  simp only [Option.bind_some]
  rw [if_pos hh, eO_f v h2 h3]
  simp only [Option.bind_some]
  rw [refO_f v h2 h3, rightO_f v ⟨by omega, by omega⟩]
  simp only [Option.bind_some]
  cases hr : rightO v with
  | true =>
    have hf : spigotref14_OrderForm.f v.f0 v.f1 v.f2 v.f3 v.f4 v.f5 v.f6 = some (encO v).1 := by
      unfold spigotref14_OrderForm.f
      rw [if_pos (show rightO ⟨v.f0, v.f1, v.f2, v.f3, v.f4, v.f5, v.f6⟩ = true from hr)]
    rw [if_pos rfl, if_pos rfl, if_pos (by rw [encO_right v hr]), hf]
    simp
  | false =>
    rw [if_neg (by decide), if_neg (by decide), if_pos (by rw [encO_wrong v hr]), encO_wrong v hr]
    simp [ByteArray.toList_eq]
theorem PostOrders : Go.Proofs.YtgfigkfcmkdjdaaDoor.postOrders.P := by
  intro s0 hok0
  refine ⟨3, ?_⟩
  obtain ⟨b, hb, hs⟩ := short_l0 [s0.f2, s0.f3] (by simp) 2 0 rfl
  have hb' : spigotlaw14_short.f 3 [s0.f2, s0.f3] = some b := hb
  cases b with
  | false =>
    unfold spigotlaw14_PostOrders.f spigotlaw14_awake.f
    simp only [Option.bind_some]
    rw [if_pos trivial, hb']
    simp only [Option.bind_some]
    rw [if_neg (by decide)]
  | true =>
    have g := hs rfl
    have g0 : s0.f2.size ≤ 200 := g 0 (by simp) (Nat.zero_le _)
    have g1 : s0.f3.size ≤ 200 := g 1 (by simp) (Nat.zero_le _)
    exact orders_in ⟨s0.f0, s0.f1, s0.f2, s0.f3, s0.f4, s0.f5, s0.f6⟩ g0 g1 true hb' rfl

end Go.Proofs.YtgfigkfcmkdjdaaDoor.Pure
