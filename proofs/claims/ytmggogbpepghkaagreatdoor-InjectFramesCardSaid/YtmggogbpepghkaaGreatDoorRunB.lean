/- InjectFrames: the kinds, part 2. -/
import Derived.Test.YtmggogbpepghkaaGreatDoorCases

namespace Go.Proofs.YtmggogbpepghkaaGreatDoor
open Go.Sx
set_option maxRecDepth 1000000
theorem run_9_0 : good [] bnds [int 9, v 0, int 0] = true := by kernel_rfl
theorem run_9_1 : good [] bnds [int 9, v 0, int 1] = true := by kernel_rfl
theorem run_10_0 : good [] bnds [int 10, v 0, int 0] = true := by kernel_rfl
theorem run_10_1 : good [] bnds [int 10, v 0, int 1] = true := by kernel_rfl
theorem run_11_0 : good [] bnds [int 11, v 0, int 0] = true := by kernel_rfl
theorem run_11_1 : good [] bnds [int 11, v 0, int 1] = true := by kernel_rfl
theorem run_12_0 : good [] bnds [int 12, v 0, int 0] = true := by kernel_rfl
theorem run_12_1 : good [] bnds [int 12, v 0, int 1] = true := by kernel_rfl
theorem run_13_0 : good [] bnds [int 13, v 0, int 0] = true := by kernel_rfl
theorem run_13_1 : good [] bnds [int 13, v 0, int 1] = true := by kernel_rfl
theorem run_14_0 : good [] bnds [int 14, v 0, int 0] = true := by kernel_rfl
theorem run_14_1 : good [] bnds [int 14, v 0, int 1] = true := by kernel_rfl
end Go.Proofs.YtmggogbpepghkaaGreatDoor
