/- MonitorNobody: what the evaluator knows of the program. -/
import Derived.Test.YtmggogbpepghkabGreatDoorEngC
import Derived.WalkKit
import Derived.ProofKit
import Derived.Test.YtmggogbpepghkabGreatDoorRows

namespace Go.Proofs.YtmggogbpepghkabGreatDoor
open Go.RowKit Go.Sx
set_option maxRecDepth 1000000

/-! ### What the evaluator is told -/
def tab (l : List Int) : List Value := l.map (Value.int .i64)
def glob1 (g : Nat) : Option (List Value) :=
  bif Nat.beq g 0 then some (tab [0, 0, 128, 7, 64, 6, 0, 4, 16, 4, 32, 5]) else none
noncomputable def ext0 (f : Nat) : Option (List Value → Option Value) :=
  bif Nat.beq f 297 then some (fun vs => pureRun Tryz.prog (Extern.BytealgCount.count vs.toArray)) else
  bif Nat.beq f 306 then some (fun vs => pureRun Tryz.prog (Extern.BytealgIndexByte.indexByte vs.toArray)) else none
/-- How long the frame's body is: the number 100. -/
def olen1 (i : Nat) : Option IE := bif Nat.beq i 0 then some (.v 100) else none
noncomputable def E0 : Env := { P := Tryz.prog, glob := glob1, ext := ext0, olen := olen1, exth := fun _ => none }
/-- A string by its bytes. -/
def bs (l : List UInt8) : Value := .string ⟨⟨l⟩⟩
/-- The server lives. -/
def memo1 : List Memo := [⟨4, [], .bool true⟩]
noncomputable def E1 : Env := withMemo E0 memo1
/-- The frame, the side. -/
noncomputable def frame : EV := .agg [.num .i64 (.v 1), .num .i64 (.v 2), .num .i64 (.v 3), .num .i64 (.v 4), .opq 7, .opq 0]
noncomputable def side : EV := .one (.num .i64 (.v 5))
/-- The statement at a long body, at a short one. -/
noncomputable def good (b : Bool) : Bool := isTrue (callB E1 [] [(.cmp .gtr (.v 100) (.k 1000), b)] fuel 3 [frame, side])
end Go.Proofs.YtmggogbpepghkabGreatDoor
