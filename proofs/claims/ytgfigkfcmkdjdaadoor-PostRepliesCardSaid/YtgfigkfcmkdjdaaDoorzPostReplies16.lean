/- The functions that the law reaches, as plain Lean functions, and their contracts: texts merged. -/
import Derived.Laws.StructEq
import Derived.Test.YtgfigkfcmkdjdaaDoorzPostReplies3
import Derived.Test.YtgfigkfcmkdjdaaDoorzPostReplies0
import Derived.Test.YtgfigkfcmkdjdaaDoorzPostReplies1
import Derived.Test.YtgfigkfcmkdjdaaDoorzPostReplies2
import Derived.Test.YtgfigkfcmkdjdaaDoorzPostReplies4
import Derived.Test.YtgfigkfcmkdjdaaDoorzPostReplies5
import Derived.Test.YtgfigkfcmkdjdaaDoorzPostReplies6
import Derived.Test.YtgfigkfcmkdjdaaDoorzPostReplies7
import Derived.Test.YtgfigkfcmkdjdaaDoorzPostReplies8
import Derived.Test.YtgfigkfcmkdjdaaDoorzPostReplies9
import Derived.Test.YtgfigkfcmkdjdaaDoorzPostReplies10
import Derived.Test.YtgfigkfcmkdjdaaDoorzPostReplies11
import Derived.Test.YtgfigkfcmkdjdaaDoorzPostReplies12
import Derived.Test.YtgfigkfcmkdjdaaDoorzPostReplies13
import Derived.Test.YtgfigkfcmkdjdaaDoorzPostReplies14
import Derived.Test.YtgfigkfcmkdjdaaDoorzPostReplies15
section
namespace Go.Proofs.YtgfigkfcmkdjdaaDoor.B
open Go.RowKit Go.Proofs.YtgfigkfcmkdjdaaDoorW.PrintWords Go.Proofs.YtgfigkfcmkdjdaaDoorW.PrintLast Go.Proofs.YtgfigkfcmkdjdaaDoorW.PrintMore
attribute [local go_sem] max2_int min2_int max_two min_two max_three min_three max_four min_four   -- for this text's walks alone
set_option linter.unusedVariables false
set_option linter.unusedSimpArgs false
def rwordB (k : Int) : ByteArray := if k = 0 then ⟨#[]⟩ else if k = 1 then ⟨#[48]⟩ else if k = 2 then ⟨#[52]⟩ else if k = 3 then ⟨#[53]⟩ else if k = 4 then ⟨#[56]⟩ else if k = 5 then ⟨#[70]⟩ else ⟨#[72]⟩
set_option maxRecDepth 100000 in
theorem ref14_word_walk (k : Int) (h : 0 ≤ k ∧ k ≤ 6) (w : World) : Calls Tryd.prog 82 #[.int .i64 k] w fun e w' => e = .returned (.string (rwordB k)) ∧ Below w.heap.size w w' := by
  rcases (show k = 0 ∨ k = 1 ∨ k = 2 ∨ k = 3 ∨ k = 4 ∨ k = 5 ∨ k = 6 by omega) with rfl | rfl | rfl | rfl | rfl | rfl | rfl
  all_goals
    clear h
    go_enter Tryd.func82, Tryd.ntmps82
    go_wp2
    go_ret
    exact ⟨rfl, (Below.refl _ _).alloc (Nat.le_refl _) _⟩
end Go.Proofs.YtgfigkfcmkdjdaaDoor.B
end
section
namespace Go.Proofs.YtgfigkfcmkdjdaaDoor.B
open Go.RowKit Go.Proofs.YtgfigkfcmkdjdaaDoorW.PrintWords Go.Proofs.YtgfigkfcmkdjdaaDoorW.PrintLast Go.Proofs.YtgfigkfcmkdjdaaDoorW.PrintMore
attribute [local go_sem] max2_int min2_int max_two min_two max_three min_three max_four min_four   -- for this text's walks alone
set_option linter.unusedVariables false
set_option linter.unusedSimpArgs false
theorem spareL_e (asked : Int → Bool) : ∀ l : List Int, (spareL asked l).2 = 0 ∨ (spareL asked l).2 = 113
  | [] => .inl rfl
  | t :: r => by
    rw [spareL_cons]
    split
    · exact spareL_e asked r
    · exact .inr rfl
theorem doneL_on {F : FormS} (h : F.e = 0) : ¬ ((doneL F).2 ≠ 0 ∧ (doneL F).2 ≠ 113) := by
  unfold doneL
  rw [if_neg (by simpa using h)]
  rcases spareL_e F.asked F.order with g | g <;> rw [g] <;> omega
section
variable {s : ByteArray} {F F1 F2 F3 F4 F5 F6 : FormS} {q q5 q6 td ed : Int} {i x wd n : ByteArray} {k : Nat}
end
end Go.Proofs.YtgfigkfcmkdjdaaDoor.B
end
