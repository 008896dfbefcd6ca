/- What is decoded of any bytes is right, and is decoded again as it was from its own body. -/
import Derived.Test.YtgfigkfcmkdjdaaDoorzPostSound3
import Derived.Test.YtgfigkfcmkdjdaaDoorzPostSound0
import Derived.Test.YtgfigkfcmkdjdaaDoorzPostSound1
import Derived.Test.YtgfigkfcmkdjdaaDoorzPostSound2
import Derived.Test.YtgfigkfcmkdjdaaDoorzPostSound4
import Derived.Test.YtgfigkfcmkdjdaaDoorzPostSound5
import Derived.Test.YtgfigkfcmkdjdaaDoorzPostSound6
import Derived.Test.YtgfigkfcmkdjdaaDoorzPostSound7
import Derived.Test.YtgfigkfcmkdjdaaDoorzPostSound8
import Derived.Test.YtgfigkfcmkdjdaaDoorzPostSound9
import Derived.Test.YtgfigkfcmkdjdaaDoorzPostSound10
import Derived.Test.YtgfigkfcmkdjdaaDoorzPostSound11
import Derived.Test.YtgfigkfcmkdjdaaDoorzPostSound12
import Derived.Test.YtgfigkfcmkdjdaaDoorzPostSound13
import Derived.Test.YtgfigkfcmkdjdaaDoorzPostSound14
import Derived.Test.YtgfigkfcmkdjdaaDoorzPostSound15
import Derived.Test.YtgfigkfcmkdjdaaDoorzPostSound16
import Derived.Test.YtgfigkfcmkdjdaaDoorzPostSound17
import Derived.Test.YtgfigkfcmkdjdaaDoorzPostSound18
import Derived.Test.YtgfigkfcmkdjdaaDoorzPostSound19
namespace Go.Proofs.YtgfigkfcmkdjdaaDoor.Pure
set_option linter.unusedVariables false
set_option linter.unusedSimpArgs false
open Go.RowKit Go.Proofs.YtgfigkfcmkdjdaaDoor.B Go.Proofs.YtgfigkfcmkdjdaaDoorW.PrintWords Go.Proofs.YtgfigkfcmkdjdaaDoorW.PrintLast

theorem dO_f (s : ByteArray) (h : s.size ≤ 140737488351232) : post_DecodeOrder.f s = some ((orderD s).1.f0, (orderD s).1.f1, (orderD s).1.f2, (orderD s).1.f3, (orderD s).1.f4, (orderD s).1.f5, (orderD s).1.f6, (orderD s).2.1, (orderD s).2.2) := by unfold post_DecodeOrder.f; rw [if_pos h]
theorem dP_f (s : ByteArray) (h : s.size ≤ 140737488351232) : post_DecodeReply.f s = some ((replyD s).1.f0, (replyD s).1.f1, (replyD s).1.f2, (replyD s).1.f3, (replyD s).1.f4, (replyD s).1.f5, (replyD s).1.f6, (replyD s).2.1, (replyD s).2.2) := by unfold post_DecodeReply.f; rw [if_pos h]
theorem eO_f (v : OrdV) (h2 : v.f2.size ≤ 200) (h3 : v.f3.size ≤ 200) : post_EncodeOrder.f v.f0 v.f1 v.f2 v.f3 v.f4 v.f5 v.f6 = some (encO v) := by unfold post_EncodeOrder.f; rw [if_pos ⟨by omega, by omega⟩]
theorem eP_f (v : RepV) (h2 : v.f2.size ≤ 200) (h3 : v.f3.size ≤ 200) (h6 : v.f6.size ≤ 200) : post_EncodeReply.f v.f0 v.f1 v.f2 v.f3 v.f4 v.f5 v.f6 = some (encP v) := by unfold post_EncodeReply.f; rw [if_pos ⟨by omega, by omega, by omega⟩]
theorem rP_f (v : RepV) (h2 : v.f2.size ≤ 200) (h3 : v.f3.size ≤ 200) (h6 : v.f6.size ≤ 200) : post_RightReply.f v.f0 v.f1 v.f2 v.f3 v.f4 v.f5 v.f6 = some (rightP v) := by unfold post_RightReply.f; rw [if_pos ⟨by omega, by omega, by omega⟩]
theorem sound_j0 (s : ByteArray) (h : s.size ≤ 140737488351232) : spigotlaw14_PostSound.j0 3 s = some true := by
  rw [spigotlaw14_PostSound.j0, dP_f s h]
  simp only [Option.bind_some]
  obtain ⟨g1, g2⟩ := replyD_right s
  generalize replyD s = r at *
  obtain ⟨v, t, e⟩ := r
  simp only at g1 g2 ⊢
  by_cases he : e = 0
  · have hr := g1 he
    have hz := rightP_sizes v hr
    have hs := encP_size v
    rw [if_pos he, eP_f v (by omega) (by omega) (by omega)]
    simp only [Option.bind_some]
    rw [dP_f _ (by omega), encP_back v hr, rP_f v (by omega) (by omega) (by omega), hr]
    simp only [Option.bind_some]
    rw [if_pos trivial, if_pos (by rw [encP_right v hr]), if_pos trivial]
    simp
  · rw [if_neg he, g2 he]
    simp [zRep, ByteArray.toList_eq]
theorem PostSound : spigotlaw14_PostSound.Pure := by
  intro a0 h0
  refine ⟨3, ?_⟩
  have hj := sound_j0 a0 h0
  unfold spigotlaw14_PostSound.f spigotlaw14_awake.f
  simp only [Option.bind_some]
  rw [if_pos trivial]
  by_cases c : (a0.size : Int) > 5000
  · rw [if_pos c]
  rw [if_neg c, dO_f a0 h0]
  simp only [Option.bind_some]
  have g1 := (orderD_right a0).1
  generalize orderD a0 = r at *
  obtain ⟨v, t, e⟩ := r
  simp only at g1 ⊢
  by_cases he : e = 0
  · have hr := g1 he
    have hz := rightO_sizes v hr
    have hs := encO_size v
    have hrf := rightO_f v ⟨by omega, by omega⟩
    rw [if_pos he, eO_f v (by omega) (by omega)]
    simp only [Option.bind_some]
    rw [dO_f _ (by omega), encO_back v hr, hrf, hr]
    simp only [Option.bind_some]
    rw [if_pos trivial, if_pos (by rw [encO_right v hr]), if_pos trivial, if_neg (by simp)]
    exact hj
  · rw [if_neg he]
    exact hj

end Go.Proofs.YtgfigkfcmkdjdaaDoor.Pure
