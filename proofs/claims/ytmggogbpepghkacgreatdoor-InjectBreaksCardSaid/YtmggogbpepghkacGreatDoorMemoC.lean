/- InjectBreaks: calls worked out, part 2c. -/
import Derived.Test.YtmggogbpepghkacGreatDoorKnow

namespace Go.Proofs.YtmggogbpepghkacGreatDoor
open Go.Sx
set_option maxRecDepth 1000000
theorem memo2c_ok : memoB E1 memo2c = true := by kernel_rfl
end Go.Proofs.YtmggogbpepghkacGreatDoor
