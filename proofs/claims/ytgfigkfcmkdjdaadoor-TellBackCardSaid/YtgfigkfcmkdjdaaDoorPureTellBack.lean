/- What is encoded is decoded as it was, and what is decoded is right, and told again the same. -/
import Derived.Test.YtgfigkfcmkdjdaaDoorOwnTellBack
namespace Go.Proofs.YtgfigkfcmkdjdaaDoor.Pure
open Go.RowKit Go.Proofs.YtgfigkfcmkdjdaaDoor.B Go.Proofs.YtgfigkfcmkdjdaaDoorW.PrintWords Go.Proofs.YtgfigkfcmkdjdaaDoorW.PrintLast Go.Proofs.YtgfigkfcmkdjdaaDoor.tellBack
set_option linter.unusedVariables false
set_option linter.unusedSimpArgs false
theorem dec_f (s : ByteArray) (h : s.size ≤ 140737488351232) : tell_Decode.f s = some (flatT (tellD s)) := by unfold tell_Decode.f; rw [if_pos h]
theorem enc_f (v : TellV) (h1 : v.f1.size ≤ 200) (h2 : v.f2.size ≤ 200) : tell_Encode.f v.f0 v.f1 v.f2 v.f3 v.f4 v.f5 v.f6 v.f7 v.f8 v.f9 = some (encT v) := by
  unfold tell_Encode.f; rw [if_pos ⟨by omega, by omega⟩]
theorem right_f (v : TellV) (h1 : v.f1.size ≤ 200) (h2 : v.f2.size ≤ 200) : tell_Right.f v.f0 v.f1 v.f2 v.f3 v.f4 v.f5 v.f6 v.f7 v.f8 v.f9 = some (rightT v) := by
  unfold tell_Right.f; rw [if_pos ⟨by omega, by omega⟩]
theorem back_j1 (s : ByteArray) (h : s.size ≤ 140737488351232) : spigotlaw13_TellBack.j1 1 s = some true := by
  rw [spigotlaw13_TellBack.j1]
  rw [dec_f s h]
  simp only [Option.bind_some, flatT]
  obtain ⟨g1, g2⟩ := tellD_right s
  generalize tellD s = r at *
  obtain ⟨v, t, e⟩ := r
  simp only at g1 g2 ⊢
  by_cases he : e = 0
  · obtain ⟨hr, _⟩ := g1 he
    have hz := rightT_sizes v hr
    have hb := encT_back v hr
    rw [if_pos he, enc_f v (by omega) (by omega)]
    simp only [Option.bind_some]
    rw [dec_f _ (by have := encT_size v; omega), hb, right_f v (by omega) (by omega), hr]
    simp only [Option.bind_some, flatT]
    rw [if_pos trivial, if_pos (by rw [encT_right v hr]), if_pos trivial]
    simp
  · rw [if_neg he, g2 he]
    simp [zTell, ByteArray.toList_eq]
theorem back_j0 (a1 : ByteArray) (b : Bool) (v : TellV) (h : a1.size ≤ 140737488351232) (h1 : v.f1.size ≤ 200) (h2 : v.f2.size ≤ 200) : spigotlaw13_TellBack.j0 2 a1 b v.f0 v.f1 v.f2 v.f3 v.f4 v.f5 v.f6 v.f7 v.f8 v.f9 = some true := by
  rw [spigotlaw13_TellBack.j0]
  cases b with
  | true => rw [if_pos rfl]
  | false =>
    rw [if_neg (by decide), enc_f v h1 h2]
    simp only [Option.bind_some]
    cases hr : rightT v with
    | false =>
      rw [encT_wrong v hr, if_neg (by decide)]
      exact back_j1 a1 h
    | true =>
      rw [if_pos (by rw [encT_right v hr]), dec_f _ (by have := encT_size v; omega), encT_back v hr, right_f v h1 h2, hr]
      simp only [Option.bind_some, flatT]
      rw [if_neg (by simp), if_pos trivial, if_pos trivial, if_pos trivial]
      exact back_j1 a1 h
theorem TellBack : Go.Proofs.YtgfigkfcmkdjdaaDoor.tellBack.P := by
  intro s0 a1 hok hw
  refine ⟨2, ?_⟩
  unfold spigotlaw13_TellBack.f spigotlaw13_awake.f spigotlaw13_few.f
  simp only [Option.bind_some]
  rw [if_pos trivial]
  have key : ∀ b, (s0.f1.size : Int) ≤ 200 → (s0.f2.size : Int) ≤ 200 → spigotlaw13_TellBack.j0 2 a1 b s0.f0 s0.f1 s0.f2 s0.f3 s0.f4 s0.f5 s0.f6 s0.f7 s0.f8 s0.f9 = some true := fun b h1 h2 =>
    back_j0 a1 b ⟨s0.f0, s0.f1, s0.f2, s0.f3, s0.f4, s0.f5, s0.f6, s0.f7, s0.f8, s0.f9⟩ hw (by show s0.f1.size ≤ 200; omega) (by show s0.f2.size ≤ 200; omega)
  have kt : spigotlaw13_TellBack.j0 2 a1 true s0.f0 s0.f1 s0.f2 s0.f3 s0.f4 s0.f5 s0.f6 s0.f7 s0.f8 s0.f9 = some true := by
    rw [spigotlaw13_TellBack.j0]
    rw [if_pos rfl]
  by_cases c1 : (s0.f1.size : Int) ≤ 200
  · rw [if_pos c1]
    simp only [Option.bind_some]
    by_cases c2 : (s0.f2.size : Int) ≤ 200
    · rw [if_pos (decide_eq_true c2)]
      exact key _ c1 c2
    · rw [if_neg (by rw [decide_eq_false c2]; decide)]
      exact kt
  · rw [if_neg c1]
    simp only [Option.bind_some]
    rw [if_neg (by decide)]
    exact kt

end Go.Proofs.YtgfigkfcmkdjdaaDoor.Pure
