/- InjectBreaks: calls worked out, part 2d. -/
import Derived.Test.YtmggogbpepghkacGreatDoorKnow

namespace Go.Proofs.YtmggogbpepghkacGreatDoor
open Go.Sx
set_option maxRecDepth 1000000
theorem memo2d_ok : memoB E1 memo2d = true := by kernel_rfl
end Go.Proofs.YtmggogbpepghkacGreatDoor
