/- MonitorNobody: the runs. -/
import Derived.Test.YtmggogbpepghkabGreatDoorKnow

namespace Go.Proofs.YtmggogbpepghkabGreatDoor
open Go.Sx
set_option maxRecDepth 1000000
theorem run_long : good true = true := by kernel_rfl
theorem run_short : good false = true := by kernel_rfl
end Go.Proofs.YtmggogbpepghkabGreatDoor
