/- InjectBreaks: kind 18. -/
import Derived.Test.YtmggogbpepghkacGreatDoorCases

namespace Go.Proofs.YtmggogbpepghkacGreatDoor
open Go.Sx
set_option maxRecDepth 1000000
theorem run_18_0_0 : good (par 0) bnds [int 18, v 0, int 0] = true := by kernel_rfl
theorem run_18_0_1 : good (par 1) bnds [int 18, v 0, int 0] = true := by kernel_rfl
theorem run_18_1_0 : good (par 0) bnds [int 18, v 0, int 1] = true := by kernel_rfl
theorem run_18_1_1 : good (par 1) bnds [int 18, v 0, int 1] = true := by kernel_rfl
end Go.Proofs.YtmggogbpepghkacGreatDoor
