/- InjectBreaks: calls worked out, part 4b. -/
import Derived.Test.YtmggogbpepghkacGreatDoorKnow

namespace Go.Proofs.YtmggogbpepghkacGreatDoor
open Go.Sx
set_option maxRecDepth 1000000
theorem memo4b_ok : memoB E3 memo4b = true := by kernel_rfl
end Go.Proofs.YtmggogbpepghkacGreatDoor
