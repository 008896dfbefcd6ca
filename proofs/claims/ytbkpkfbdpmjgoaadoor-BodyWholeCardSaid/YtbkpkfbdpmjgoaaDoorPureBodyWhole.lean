/- The law BodyWhole: the walk itself shows that it answers true (law11.BodyWhole.lean); nothing is left to say but the numbers' reach. -/
import Derived.Test.YtbkpkfbdpmjgoaaDoorOwnBodyWhole
namespace Go.Proofs.YtbkpkfbdpmjgoaaDoor.Pure
open Go.RowKit Go.Proofs.YtbkpkfbdpmjgoaaDoor.T Go.Proofs.YtbkpkfbdpmjgoaaDoorW.PrintWords Go.Proofs.YtbkpkfbdpmjgoaaDoorW.PrintLast Go.Proofs.YtbkpkfbdpmjgoaaDoor.bodyWhole
set_option linter.unusedVariables false
set_option linter.unusedSimpArgs false
theorem BodyWhole : Go.Proofs.YtbkpkfbdpmjgoaaDoor.bodyWhole.P := by
  intro l0 a1 a2 hs h1 h2
  have h := Go.bounds_i64 h1
  unfold spigotlaw11_BodyWhole.f
  rw [if_pos ⟨by omega, hs⟩]

end Go.Proofs.YtbkpkfbdpmjgoaaDoor.Pure
