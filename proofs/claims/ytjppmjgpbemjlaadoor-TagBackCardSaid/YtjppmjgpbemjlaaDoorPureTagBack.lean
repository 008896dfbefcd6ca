/- The law TagBack: the walk itself shows that it answers true (wip/hand/law08.TagBack.lean); nothing is left to say. -/
import Derived.Test.YtjppmjgpbemjlaaDoorOwnTagBack
namespace Go.Proofs.YtjppmjgpbemjlaaDoor.Pure
open Go.RowKit Go.Proofs.YtjppmjgpbemjlaaDoor.Q Go.Proofs.YtjppmjgpbemjlaaDoorW.PrintWords Go.Proofs.YtjppmjgpbemjlaaDoorW.PrintLast Go.Proofs.YtjppmjgpbemjlaaDoor.tagBack
set_option linter.unusedVariables false
set_option linter.unusedSimpArgs false
theorem TagBack : Go.Proofs.YtjppmjgpbemjlaaDoor.tagBack.P := by
  intro l0 a1 hok hw
  have h := Go.bounds_i64 hw
  unfold spigotlaw08_TagBack.f
  rw [if_pos (by omega)]

end Go.Proofs.YtjppmjgpbemjlaaDoor.Pure
