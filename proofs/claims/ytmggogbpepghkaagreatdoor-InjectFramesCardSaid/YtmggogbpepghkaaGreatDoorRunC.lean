/- InjectFrames: the kinds, part 3. -/
import Derived.Test.YtmggogbpepghkaaGreatDoorCases

namespace Go.Proofs.YtmggogbpepghkaaGreatDoor
open Go.Sx
set_option maxRecDepth 1000000
theorem run_15_0 : good [] bnds [int 15, v 0, int 0] = true := by kernel_rfl
theorem run_15_1 : good [] bnds [int 15, v 0, int 1] = true := by kernel_rfl
end Go.Proofs.YtmggogbpepghkaaGreatDoor
