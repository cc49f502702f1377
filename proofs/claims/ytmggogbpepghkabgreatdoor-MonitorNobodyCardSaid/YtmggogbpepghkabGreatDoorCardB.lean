/- MonitorNobody holds, card and all: whatever the frame and the side are, part 2. -/
import Derived.Test.YtmggogbpepghkabGreatDoorWalk
import Derived.Test.YtmggogbpepghkabGreatDoorCards
import Derived.Test.YtmggogbpepghkabGreatDoorTie
import Derived.WalkKit
import Derived.ProofKit
import Derived.OpenShut
import Derived.Deep.DeepHandedRow
import Derived.Lib.LaidTab
import Derived.Lib.SmallJoins
import Derived.Carry
import Derived.Test.YtmggogbpepghkabGreatDoorCardA

namespace Go.Proofs.YtmggogbpepghkabGreatDoor
open Go.Joins Go.ChangeShapes Go.WideShapes Go.ChangeAt Go.RowKit Go.Deep Go.Sx
/-- The tables' cells, as the row's list has them. -/
noncomputable def cellsFor (t : TypeId) (d : DataW Unit) : Array Value := ((dataCells Tryz.prog 10 t d).getD []).toArray
noncomputable def lay (h : Array Obj) (g : Nat) (cs : Array Value) : Array Obj := h.modify g fun
  | .cells _ t frozen => .cells cs t frozen
  | o => o
/-- A world for the witness: the settled one, with the tables as their initialisers lay them. -/
noncomputable def laidWorld (os : Os) : World :=
  { World.holding Tryz.prog os ⟨#[], #[], []⟩ with heap := lay (lay (lay (World.holding Tryz.prog os ⟨#[], #[], []⟩).heap 0 (cellsFor 235 Rows.laid_stickler_repr_forms)) 2 (cellsFor 382 Rows.laid_unicode_utf8_first)) 3 (cellsFor 385 Rows.laid_unicode_utf8_acceptRanges) }
def wargs : Array Value := #[.agg #[.int .i64 0, .int .i64 0, .int .i64 0, .int .i64 0, .bool false, .slice none 0 0], .int .i64 0]
theorem laid_met (os : Os) : laidMet Tryz.prog Rows.monitorNobodyRow.laid ((laidWorld os).forCall (fun _ _ => 0) ⟨#[], wargs, []⟩).memory :=
  laidMet_of_run' 8 (by kernel_rfl) (by kernel_rfl)
theorem reads (os : Os) {H : Type} (enc : TypeId × Value → H) : ∃ places, DataW.whole enc Tryz.prog ((laidWorld os).forCall (fun _ _ => 0) ⟨#[], wargs, []⟩).memory Tryz.f3.params.toList Rows.monitorNobodySpec.vars false wargs.toList 8 = some ([.agg [.lit (.int .i64 0), .lit (.int .i64 0), .lit (.int .i64 0), .lit (.int .i64 0), .lit (.bool false), .nil], .lit (.int .i64 0)], [], places) :=
  ⟨[], by kernel_rfl⟩

end Go.Proofs.YtmggogbpepghkabGreatDoor
