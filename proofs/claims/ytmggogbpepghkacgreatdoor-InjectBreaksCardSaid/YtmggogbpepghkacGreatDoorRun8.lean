/- InjectBreaks: kind 8. -/
import Derived.Test.YtmggogbpepghkacGreatDoorCases

namespace Go.Proofs.YtmggogbpepghkacGreatDoor
open Go.Sx
set_option maxRecDepth 1000000
theorem run_8_0 : good [] bnds [int 8, v 0, int 0] = true := by kernel_rfl
theorem run_8_1 : good [] bnds [int 8, v 0, int 1] = true := by kernel_rfl
end Go.Proofs.YtmggogbpepghkacGreatDoor
