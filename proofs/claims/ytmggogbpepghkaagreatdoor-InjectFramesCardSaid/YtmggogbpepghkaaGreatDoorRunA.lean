/- InjectFrames: the kinds, part 1. -/
import Derived.Test.YtmggogbpepghkaaGreatDoorCases

namespace Go.Proofs.YtmggogbpepghkaaGreatDoor
open Go.Sx
set_option maxRecDepth 1000000
theorem run_1_0 : good [] bnds [int 1, v 0, int 0] = true := by kernel_rfl
theorem run_1_1 : good [] bnds [int 1, v 0, int 1] = true := by kernel_rfl
theorem run_2_0 : good [] bnds [int 2, v 0, int 0] = true := by kernel_rfl
theorem run_2_1 : good [] bnds [int 2, v 0, int 1] = true := by kernel_rfl
theorem run_3_0 : good [] bnds [int 3, v 0, int 0] = true := by kernel_rfl
theorem run_3_1 : good [] bnds [int 3, v 0, int 1] = true := by kernel_rfl
theorem run_4_0 : good [] bnds [int 4, v 0, int 0] = true := by kernel_rfl
theorem run_4_1 : good [] bnds [int 4, v 0, int 1] = true := by kernel_rfl
theorem run_5_0 : good [] bnds [int 5, v 0, int 0] = true := by kernel_rfl
theorem run_5_1 : good [] bnds [int 5, v 0, int 1] = true := by kernel_rfl
theorem run_6_0 : good [] bnds [int 6, v 0, int 0] = true := by kernel_rfl
theorem run_6_1 : good [] bnds [int 6, v 0, int 1] = true := by kernel_rfl
theorem run_7_0 : good [] bnds [int 7, v 0, int 0] = true := by kernel_rfl
theorem run_7_1 : good [] bnds [int 7, v 0, int 1] = true := by kernel_rfl
theorem run_8_0 : good [] bnds [int 8, v 0, int 0] = true := by kernel_rfl
theorem run_8_1 : good [] bnds [int 8, v 0, int 1] = true := by kernel_rfl
end Go.Proofs.YtmggogbpepghkaaGreatDoor
