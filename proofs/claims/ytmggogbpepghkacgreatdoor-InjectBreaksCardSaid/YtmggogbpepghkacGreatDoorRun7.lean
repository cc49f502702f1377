/- InjectBreaks: kind 7. -/
import Derived.Test.YtmggogbpepghkacGreatDoorCases

namespace Go.Proofs.YtmggogbpepghkacGreatDoor
open Go.Sx
set_option maxRecDepth 1000000
theorem run_7_0 : good [] bnds [int 7, v 0, int 0] = true := by kernel_rfl
theorem run_7_1 : good [] bnds [int 7, v 0, int 1] = true := by kernel_rfl
end Go.Proofs.YtmggogbpepghkacGreatDoor
