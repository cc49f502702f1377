/- InjectBreaks: kind 20. -/
import Derived.Test.YtmggogbpepghkacGreatDoorCases

namespace Go.Proofs.YtmggogbpepghkacGreatDoor
open Go.Sx
set_option maxRecDepth 1000000
theorem run_20_0_0 : good (par 0) bnds [int 20, v 0, int 0] = true := by kernel_rfl
theorem run_20_0_1 : good (par 1) bnds [int 20, v 0, int 0] = true := by kernel_rfl
theorem run_20_1_0 : good (par 0) bnds [int 20, v 0, int 1] = true := by kernel_rfl
theorem run_20_1_1 : good (par 1) bnds [int 20, v 0, int 1] = true := by kernel_rfl
end Go.Proofs.YtmggogbpepghkacGreatDoor
