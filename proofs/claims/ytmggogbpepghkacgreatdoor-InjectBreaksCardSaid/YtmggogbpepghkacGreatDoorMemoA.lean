/- InjectBreaks: calls worked out, part 1. -/
import Derived.Test.YtmggogbpepghkacGreatDoorKnow

namespace Go.Proofs.YtmggogbpepghkacGreatDoor
open Go.Sx
set_option maxRecDepth 1000000
theorem memo1_ok : memoB E0 memo1 = true := by kernel_rfl
end Go.Proofs.YtmggogbpepghkacGreatDoor
