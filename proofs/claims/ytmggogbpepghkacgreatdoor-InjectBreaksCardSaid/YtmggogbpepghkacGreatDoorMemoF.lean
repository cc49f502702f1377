/- InjectBreaks: calls worked out, part 4a. -/
import Derived.Test.YtmggogbpepghkacGreatDoorKnow

namespace Go.Proofs.YtmggogbpepghkacGreatDoor
open Go.Sx
set_option maxRecDepth 1000000
theorem memo4a_ok : memoB E3 memo4a = true := by kernel_rfl
end Go.Proofs.YtmggogbpepghkacGreatDoor
