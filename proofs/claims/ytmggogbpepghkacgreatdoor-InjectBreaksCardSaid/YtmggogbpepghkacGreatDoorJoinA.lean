/- InjectBreaks: what the row's facts ask of the program, part 1. -/
import Derived.WalkKit
import Derived.ProofKit
import Derived.OpenShut
import Derived.Carry
import Derived.Deep.DeepHandedRow
import Derived.Test.YtmggogbpepghkacGreatDoorRows

namespace Go.Proofs.YtmggogbpepghkacGreatDoor
open Go.ChangeShapes Go.WideShapes Go.RowKit
set_option maxRecDepth 1000000
theorem joined1 : laidOutB Tryz.pinned.checked.prog = true := by kernel_rfl
theorem joined2 : (Rows.injectBreaksRow.inPlace == Tryz.pinned.checked.prog.inPlace 3) = true := by kernel_rfl
end Go.Proofs.YtmggogbpepghkacGreatDoor
