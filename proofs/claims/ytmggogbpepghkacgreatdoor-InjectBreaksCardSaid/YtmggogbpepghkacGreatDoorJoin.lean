/- InjectBreaks: what the row's facts ask of the program, part 4. -/
import Derived.WalkKit
import Derived.ProofKit
import Derived.OpenShut
import Derived.Carry
import Derived.Deep.DeepHandedRow
import Derived.Test.YtmggogbpepghkacGreatDoorRows
import Derived.Test.YtmggogbpepghkacGreatDoorJoinA
import Derived.Test.YtmggogbpepghkacGreatDoorJoinB
import Derived.Test.YtmggogbpepghkacGreatDoorJoinC

namespace Go.Proofs.YtmggogbpepghkacGreatDoor
open Go.ChangeShapes Go.WideShapes Go.RowKit
set_option maxRecDepth 1000000
theorem joined : joinedFacts Tryz.pinned.checked.prog 3 Tryz.f3 (OpenSpec.ofChange Rows.injectBreaksSpec).bare Rows.injectBreaksRow = true := by
  unfold joinedFacts
  simp only [joined1, joined2, joined3, joined4, joined5, Bool.and_true]
  kernel_rfl
end Go.Proofs.YtmggogbpepghkacGreatDoor
