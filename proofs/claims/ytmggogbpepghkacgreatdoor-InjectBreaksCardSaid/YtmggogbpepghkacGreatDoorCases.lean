/- InjectBreaks: the cases. -/
import Derived.Test.YtmggogbpepghkacGreatDoorKnow

namespace Go.Proofs.YtmggogbpepghkacGreatDoor
open Go.Sx
set_option maxRecDepth 1000000
/-- A known number. -/
noncomputable def int (n : Int) : EV := .one (.cst (.int .i64 n))
/-- A number that is not known. -/
noncomputable def v (i : Nat) : EV := .one (.num .i64 (.v i))
/-- The stream's number may be. -/
def bnds : List (BE × Bool) := [(.cmp .geq (.v 0) (.k 1), true), (.cmp .leq (.v 0) (.k 2147483647), true), (.cmp .lss (.v 0) (.k 1), false), (.cmp .gtr (.v 0) (.k 2147483647), false), (.cmp .gtr (.k 0) (.v 0), false), (.cmp .geq (.v 0) (.k 0), true), (.cmp .eql (.v 0) (.k 0), false), (.cmp .neq (.v 0) (.k 0), true)]
/-- Odd or even. -/
def par (p : Int) : List (IE × Int) := [(.bin .rem .i64 (.v 0) (.k 2), p), (.bin .sub .i64 (.k 1) (.bin .rem .i64 (.v 0) (.k 2)), 1 - p)]
/-- The side is neither. -/
def sideBad : List (BE × Bool) := [(.cmp .eql (.v 2) (.k 0), false), (.cmp .neq (.v 2) (.k 0), true), (.cmp .eql (.v 2) (.k 1), false), (.cmp .neq (.v 2) (.k 1), true)]
/-- The kind is too small. -/
def kLow : List (BE × Bool) := [(.cmp .lss (.v 1) (.k 0), true), (.cmp .lss (.v 1) (.k 1), true), (.cmp .geq (.v 1) (.k 1), false), (.cmp .eql (.v 1) (.k 0), false), (.cmp .neq (.v 1) (.k 0), true)]
/-- The kind is too great. -/
def kHigh : List (BE × Bool) := [(.cmp .lss (.v 1) (.k 0), false), (.cmp .gtr (.v 1) (.k 26), true), (.cmp .leq (.v 1) (.k 26), false), (.cmp .lss (.v 1) (.k 1), false), (.cmp .geq (.v 1) (.k 1), true), (.cmp .eql (.v 1) (.k 0), false), (.cmp .neq (.v 1) (.k 0), true)]
/-- The kind may be. -/
def kIn : List (BE × Bool) := [(.cmp .lss (.v 1) (.k 0), false), (.cmp .gtr (.v 1) (.k 26), false), (.cmp .leq (.v 1) (.k 26), true), (.cmp .lss (.v 1) (.k 1), false), (.cmp .geq (.v 1) (.k 1), true), (.cmp .eql (.v 1) (.k 0), false), (.cmp .neq (.v 1) (.k 0), true)]
/-- The stream's number is too small. -/
def sLow : List (BE × Bool) := [(.cmp .lss (.v 0) (.k 1), true), (.cmp .geq (.v 0) (.k 1), false)]
/-- The stream's number is too great. -/
def sHigh : List (BE × Bool) := [(.cmp .lss (.v 0) (.k 1), false), (.cmp .geq (.v 0) (.k 1), true), (.cmp .gtr (.v 0) (.k 2147483647), true), (.cmp .leq (.v 0) (.k 2147483647), false)]
/-- The statement at some arguments, by the evaluator. -/
noncomputable def good (fs : List (IE × Int)) (asm : List (BE × Bool)) (args : List EV) : Bool := isTrue (callB E4 fs asm fuel 3 args)
theorem bad_side : good [] sideBad [v 1, v 0, v 2] = true := by kernel_rfl
theorem bad_zero0 : good [] [] [int 0, v 0, int 0] = true := by kernel_rfl
theorem bad_low0 : good [] kLow [v 1, v 0, int 0] = true := by kernel_rfl
theorem bad_high0 : good [] kHigh [v 1, v 0, int 0] = true := by kernel_rfl
theorem bad_slow0 : good [] (kIn ++ sLow) [v 1, v 0, int 0] = true := by kernel_rfl
theorem bad_shigh0 : good [] (kIn ++ sHigh) [v 1, v 0, int 0] = true := by kernel_rfl
theorem bad_zero1 : good [] [] [int 0, v 0, int 1] = true := by kernel_rfl
theorem bad_low1 : good [] kLow [v 1, v 0, int 1] = true := by kernel_rfl
theorem bad_high1 : good [] kHigh [v 1, v 0, int 1] = true := by kernel_rfl
theorem bad_slow1 : good [] (kIn ++ sLow) [v 1, v 0, int 1] = true := by kernel_rfl
theorem bad_shigh1 : good [] (kIn ++ sHigh) [v 1, v 0, int 1] = true := by kernel_rfl
end Go.Proofs.YtmggogbpepghkacGreatDoor
