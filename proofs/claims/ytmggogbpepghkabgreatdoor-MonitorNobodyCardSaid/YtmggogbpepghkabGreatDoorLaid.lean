/- MonitorNobody: the program's types are laid out well. -/
import Derived.WalkKit
import Derived.Carry
import Derived.Test.YtmggogbpepghkabGreatDoorRows

namespace Go.Proofs.YtmggogbpepghkabGreatDoor
open Go.ChangeShapes Go.WideShapes Go.RowKit
set_option maxRecDepth 1000000
theorem laidOut : laidOutB Tryz.prog = true := by kernel_rfl
end Go.Proofs.YtmggogbpepghkabGreatDoor
