/- InjectBreaks: what the row's facts ask of the program, part 3. -/
import Derived.WalkKit
import Derived.ProofKit
import Derived.OpenShut
import Derived.Carry
import Derived.Deep.DeepHandedRow
import Derived.Test.YtmggogbpepghkacGreatDoorRows

namespace Go.Proofs.YtmggogbpepghkacGreatDoor
open Go.ChangeShapes Go.WideShapes Go.RowKit
set_option maxRecDepth 1000000
theorem joined5 : (Rows.injectBreaksRow.named == Tryz.pinned.checked.prog.varsNamed 3) = true := by kernel_rfl
end Go.Proofs.YtmggogbpepghkacGreatDoor
