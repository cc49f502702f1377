/- InjectFrames: calls worked out, part 2f. -/
import Derived.Test.YtmggogbpepghkaaGreatDoorKnow

namespace Go.Proofs.YtmggogbpepghkaaGreatDoor
open Go.Sx
set_option maxRecDepth 1000000
theorem memo2f_ok : memoB E1 memo2f = true := by kernel_rfl
end Go.Proofs.YtmggogbpepghkaaGreatDoor

/- InjectFrames: calls worked out, part 3. -/
namespace Go.Proofs.YtmggogbpepghkaaGreatDoor
open Go.Sx
set_option maxRecDepth 1000000
theorem memo3_ok : memoB E2 memo3 = true := by kernel_rfl
end Go.Proofs.YtmggogbpepghkaaGreatDoor
