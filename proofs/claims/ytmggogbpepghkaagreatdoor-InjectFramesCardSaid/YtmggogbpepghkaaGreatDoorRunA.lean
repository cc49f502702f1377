/- InjectFrames: the kinds, part 1. -/
import Derived.Test.YtmggogbpepghkaaGreatDoorCases

namespace Go.Proofs.YtmggogbpepghkaaGreatDoor
open Go.Sx
set_option maxRecDepth 1000000
theorem run_1_0 : good [] bnds [int 1, v 0, int 0] = true := by kernel_rfl
theorem run_1_1 : good [] bnds [int 1, v 0, int 1] = true := by kernel_rfl
theorem run_2_0 : good [] bnds [int 2, v 0, int 0] = true := by kernel_rfl
theorem run_2_1 : good [] bnds [int 2, v 0, int 1] = true := by kernel_rfl
theorem run_3_0 : good [] bnds [int 3, v 0, int 0] = true := by kernel_rfl
theorem run_3_1 : good [] bnds [int 3, v 0, int 1] = true := by kernel_rfl
theorem run_4_0 : good [] bnds [int 4, v 0, int 0] = true := by kernel_rfl
theorem run_4_1 : good [] bnds [int 4, v 0, int 1] = true := by kernel_rfl
theorem run_5_0 : good [] bnds [int 5, v 0, int 0] = true := by kernel_rfl
theorem run_5_1 : good [] bnds [int 5, v 0, int 1] = true := by kernel_rfl
theorem run_6_0 : good [] bnds [int 6, v 0, int 0] = true := by kernel_rfl
theorem run_6_1 : good [] bnds [int 6, v 0, int 1] = true := by kernel_rfl
theorem run_7_0 : good [] bnds [int 7, v 0, int 0] = true := by kernel_rfl
theorem run_7_1 : good [] bnds [int 7, v 0, int 1] = true := by kernel_rfl
theorem run_8_0 : good [] bnds [int 8, v 0, int 0] = true := by kernel_rfl
theorem run_8_1 : good [] bnds [int 8, v 0, int 1] = true := by kernel_rfl
theorem run_9_0 : good [] bnds [int 9, v 0, int 0] = true := by kernel_rfl
theorem run_9_1 : good [] bnds [int 9, v 0, int 1] = true := by kernel_rfl
theorem run_10_0 : good [] bnds [int 10, v 0, int 0] = true := by kernel_rfl
theorem run_10_1 : good [] bnds [int 10, v 0, int 1] = true := by kernel_rfl
theorem run_11_0 : good [] bnds [int 11, v 0, int 0] = true := by kernel_rfl
theorem run_11_1 : good [] bnds [int 11, v 0, int 1] = true := by kernel_rfl
theorem run_12_0 : good [] bnds [int 12, v 0, int 0] = true := by kernel_rfl
theorem run_12_1 : good [] bnds [int 12, v 0, int 1] = true := by kernel_rfl
theorem run_13_0 : good [] bnds [int 13, v 0, int 0] = true := by kernel_rfl
theorem run_13_1 : good [] bnds [int 13, v 0, int 1] = true := by kernel_rfl
theorem run_14_0 : good [] bnds [int 14, v 0, int 0] = true := by kernel_rfl
theorem run_14_1 : good [] bnds [int 14, v 0, int 1] = true := by kernel_rfl
theorem run_15_0 : good [] bnds [int 15, v 0, int 0] = true := by kernel_rfl
theorem run_15_1 : good [] bnds [int 15, v 0, int 1] = true := by kernel_rfl
theorem run_16_0 : good [] bnds [int 16, v 0, int 0] = true := by kernel_rfl
theorem run_16_1 : good [] bnds [int 16, v 0, int 1] = true := by kernel_rfl
theorem run_17_0 : good [] bnds [int 17, v 0, int 0] = true := by kernel_rfl
theorem run_17_1 : good [] bnds [int 17, v 0, int 1] = true := by kernel_rfl
theorem run_21_0 : good [] bnds [int 21, v 0, int 0] = true := by kernel_rfl
theorem run_21_1 : good [] bnds [int 21, v 0, int 1] = true := by kernel_rfl
theorem run_22_0 : good [] bnds [int 22, v 0, int 0] = true := by kernel_rfl
theorem run_22_1 : good [] bnds [int 22, v 0, int 1] = true := by kernel_rfl
theorem run_23_0 : good [] bnds [int 23, v 0, int 0] = true := by kernel_rfl
theorem run_23_1 : good [] bnds [int 23, v 0, int 1] = true := by kernel_rfl
theorem run_24_0 : good [] bnds [int 24, v 0, int 0] = true := by kernel_rfl
theorem run_24_1 : good [] bnds [int 24, v 0, int 1] = true := by kernel_rfl
theorem run_25_0 : good [] bnds [int 25, v 0, int 0] = true := by kernel_rfl
theorem run_25_1 : good [] bnds [int 25, v 0, int 1] = true := by kernel_rfl
theorem run_26_0 : good [] bnds [int 26, v 0, int 0] = true := by kernel_rfl
theorem run_26_1 : good [] bnds [int 26, v 0, int 1] = true := by kernel_rfl
end Go.Proofs.YtmggogbpepghkaaGreatDoor
