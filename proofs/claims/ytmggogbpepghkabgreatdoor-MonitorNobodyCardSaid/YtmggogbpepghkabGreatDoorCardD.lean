/- MonitorNobody holds, card and all: whatever the frame and the side are, part 4. -/
import Derived.Test.YtmggogbpepghkabGreatDoorWalk
import Derived.Test.YtmggogbpepghkabGreatDoorCards
import Derived.Test.YtmggogbpepghkabGreatDoorTie
import Derived.WalkKit
import Derived.ProofKit
import Derived.OpenShut
import Derived.Deep.DeepHandedRow
import Derived.Lib.LaidTab
import Derived.Lib.SmallJoins
import Derived.Carry
import Derived.Test.YtmggogbpepghkabGreatDoorCardC
import Derived.Test.YtmggogbpepghkabGreatDoorJoin

namespace Go.Proofs.YtmggogbpepghkabGreatDoor
open Go.Joins Go.ChangeShapes Go.WideShapes Go.ChangeAt Go.RowKit Go.Deep Go.Sx
theorem said : Rows.MonitorNobodySaid :=
  OpenClaim.holds_of_cond 3 Tryz.f3 rfl rfl rfl rfl rfl rfl rfl ⟨rfl, rfl, rfl, rfl, rfl⟩ rfl rfl rfl rfl rfl (by kernel_rfl) Tryz.func3 joined
    (of_decide_eq_true (by kernel_rfl)) (by unfold Func.isWrapper; first | (rw [if_pos (by decide +kernel)]; kernel_rfl) | (rw [if_neg (by decide +kernel)]; exact ⟨rfl, rfl⟩))
    (fun os started H enc _ F => by rw [OpenClaim.pre_eq_preRow]; exact lifted os started H enc F)

end Go.Proofs.YtmggogbpepghkabGreatDoor
