/- MonitorNobody: the server lives. -/
import Derived.Test.YtmggogbpepghkabGreatDoorKnow

namespace Go.Proofs.YtmggogbpepghkabGreatDoor
open Go.Sx
set_option maxRecDepth 1000000
theorem memo1_ok : memoB E0 memo1 = true := by kernel_rfl
end Go.Proofs.YtmggogbpepghkabGreatDoor
