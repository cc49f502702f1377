/- InjectFrames: the kinds, part 5. -/
import Derived.Test.YtmggogbpepghkaaGreatDoorCases

namespace Go.Proofs.YtmggogbpepghkaaGreatDoor
open Go.Sx
set_option maxRecDepth 1000000
theorem run_18_0_0 : good (par 0) bnds [int 18, v 0, int 0] = true := by kernel_rfl
theorem run_18_0_1 : good (par 1) bnds [int 18, v 0, int 0] = true := by kernel_rfl
end Go.Proofs.YtmggogbpepghkaaGreatDoor
