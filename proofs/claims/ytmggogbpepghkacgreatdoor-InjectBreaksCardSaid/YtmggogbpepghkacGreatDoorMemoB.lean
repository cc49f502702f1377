/- InjectBreaks: calls worked out, part 2a. -/
import Derived.Test.YtmggogbpepghkacGreatDoorKnow

namespace Go.Proofs.YtmggogbpepghkacGreatDoor
open Go.Sx
set_option maxRecDepth 1000000
theorem memo2a_ok : memoB E1 memo2a = true := by kernel_rfl
end Go.Proofs.YtmggogbpepghkacGreatDoor

/- InjectBreaks: calls worked out, part 2b. -/
namespace Go.Proofs.YtmggogbpepghkacGreatDoor
open Go.Sx
set_option maxRecDepth 1000000
theorem memo2b_ok : memoB E1 memo2b = true := by kernel_rfl
end Go.Proofs.YtmggogbpepghkacGreatDoor
