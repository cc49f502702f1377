/- InjectBreaks: calls worked out, part 2e. -/
import Derived.Test.YtmggogbpepghkacGreatDoorKnow

namespace Go.Proofs.YtmggogbpepghkacGreatDoor
open Go.Sx
set_option maxRecDepth 1000000
theorem memo2e_ok : memoB E1 memo2e = true := by kernel_rfl
end Go.Proofs.YtmggogbpepghkacGreatDoor

/- InjectBreaks: calls worked out, part 3. -/
namespace Go.Proofs.YtmggogbpepghkacGreatDoor
open Go.Sx
set_option maxRecDepth 1000000
theorem memo3_ok : memoB E2 memo3 = true := by kernel_rfl
end Go.Proofs.YtmggogbpepghkacGreatDoor
