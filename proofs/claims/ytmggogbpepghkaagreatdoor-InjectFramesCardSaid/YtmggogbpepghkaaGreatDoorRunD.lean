/- InjectFrames: the kinds, part 4. -/
import Derived.Test.YtmggogbpepghkaaGreatDoorCases

namespace Go.Proofs.YtmggogbpepghkaaGreatDoor
open Go.Sx
set_option maxRecDepth 1000000
theorem run_16_0 : good [] bnds [int 16, v 0, int 0] = true := by kernel_rfl
theorem run_16_1 : good [] bnds [int 16, v 0, int 1] = true := by kernel_rfl
theorem run_17_0 : good [] bnds [int 17, v 0, int 0] = true := by kernel_rfl
theorem run_17_1 : good [] bnds [int 17, v 0, int 1] = true := by kernel_rfl
theorem run_21_0 : good [] bnds [int 21, v 0, int 0] = true := by kernel_rfl
theorem run_21_1 : good [] bnds [int 21, v 0, int 1] = true := by kernel_rfl
theorem run_22_0 : good [] bnds [int 22, v 0, int 0] = true := by kernel_rfl
theorem run_22_1 : good [] bnds [int 22, v 0, int 1] = true := by kernel_rfl
theorem run_23_0 : good [] bnds [int 23, v 0, int 0] = true := by kernel_rfl
theorem run_23_1 : good [] bnds [int 23, v 0, int 1] = true := by kernel_rfl
theorem run_24_0 : good [] bnds [int 24, v 0, int 0] = true := by kernel_rfl
theorem run_24_1 : good [] bnds [int 24, v 0, int 1] = true := by kernel_rfl
theorem run_25_0 : good [] bnds [int 25, v 0, int 0] = true := by kernel_rfl
theorem run_25_1 : good [] bnds [int 25, v 0, int 1] = true := by kernel_rfl
theorem run_26_0 : good [] bnds [int 26, v 0, int 0] = true := by kernel_rfl
theorem run_26_1 : good [] bnds [int 26, v 0, int 1] = true := by kernel_rfl
end Go.Proofs.YtmggogbpepghkaaGreatDoor
