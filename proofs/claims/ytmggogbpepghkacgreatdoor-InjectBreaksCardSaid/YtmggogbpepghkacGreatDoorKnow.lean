/- InjectBreaks: what the evaluator knows of the program. -/
import Derived.Test.YtmggogbpepghkacGreatDoorEngC
import Derived.WalkKit
import Derived.ProofKit
import Derived.Test.YtmggogbpepghkacGreatDoorRows

namespace Go.Proofs.YtmggogbpepghkacGreatDoor
open Go.RowKit Go.Sx

/-! ### What the evaluator is told -/
def tab (l : List Int) : List Value := l.map (Value.int .i64)
def glob1 (g : Nat) : Option (List Value) :=
  bif Nat.beq g 0 then some (tab [5, 5, 5, 5, 5, 5, 17, 18, 10, 10, 4, 5, 5, 22, 3, 25, 26, 28, 29, 30, 4, 6, 6, 6, 5, 7]) else
  bif Nat.beq g 1 then some (tab [0, 0, 128, 7, 64, 6, 0, 4, 16, 4, 32, 5]) else none
noncomputable def ext0 (f : Nat) : Option (List Value → Option Value) :=
  bif Nat.beq f 163 then some (fun vs => pureRun Tryz.prog (Extern.BytealgCount.count vs.toArray)) else
  bif Nat.beq f 254 then some (fun vs => pureRun Tryz.prog (Extern.BytealgIndexByte.indexByte vs.toArray)) else none
noncomputable def E0 : Env := { P := Tryz.prog, glob := glob1, ext := ext0, olen := fun _ => none, exth := fun _ => none }
/-- A string by its bytes. -/
def bs (l : List UInt8) : Value := .string ⟨⟨l⟩⟩
def memo1 : List Memo := [
  ⟨220, [.int .i64 1], .tuple #[.agg #[bs [58, 97, 117, 116, 104, 111, 114, 105, 116, 121], bs [], .bool false], .bool true]⟩,
  ⟨220, [.int .i64 2], .tuple #[.agg #[bs [58, 109, 101, 116, 104, 111, 100], bs [71, 69, 84], .bool false], .bool true]⟩,
  ⟨220, [.int .i64 3], .tuple #[.agg #[bs [58, 109, 101, 116, 104, 111, 100], bs [80, 79, 83, 84], .bool false], .bool true]⟩,
  ⟨220, [.int .i64 4], .tuple #[.agg #[bs [58, 112, 97, 116, 104], bs [47], .bool false], .bool true]⟩,
  ⟨220, [.int .i64 5], .tuple #[.agg #[bs [58, 112, 97, 116, 104], bs [47, 105, 110, 100, 101, 120, 46, 104, 116, 109, 108], .bool false], .bool true]⟩,
  ⟨220, [.int .i64 6], .tuple #[.agg #[bs [58, 115, 99, 104, 101, 109, 101], bs [104, 116, 116, 112], .bool false], .bool true]⟩,
  ⟨220, [.int .i64 7], .tuple #[.agg #[bs [58, 115, 99, 104, 101, 109, 101], bs [104, 116, 116, 112, 115], .bool false], .bool true]⟩,
  ⟨220, [.int .i64 8], .tuple #[.agg #[bs [58, 115, 116, 97, 116, 117, 115], bs [50, 48, 48], .bool false], .bool true]⟩,
  ⟨220, [.int .i64 9], .tuple #[.agg #[bs [58, 115, 116, 97, 116, 117, 115], bs [50, 48, 52], .bool false], .bool true]⟩,
  ⟨220, [.int .i64 10], .tuple #[.agg #[bs [58, 115, 116, 97, 116, 117, 115], bs [50, 48, 54], .bool false], .bool true]⟩,
  ⟨220, [.int .i64 11], .tuple #[.agg #[bs [58, 115, 116, 97, 116, 117, 115], bs [51, 48, 52], .bool false], .bool true]⟩,
  ⟨220, [.int .i64 12], .tuple #[.agg #[bs [58, 115, 116, 97, 116, 117, 115], bs [52, 48, 48], .bool false], .bool true]⟩,
  ⟨220, [.int .i64 13], .tuple #[.agg #[bs [58, 115, 116, 97, 116, 117, 115], bs [52, 48, 52], .bool false], .bool true]⟩,
  ⟨220, [.int .i64 14], .tuple #[.agg #[bs [58, 115, 116, 97, 116, 117, 115], bs [53, 48, 48], .bool false], .bool true]⟩,
  ⟨220, [.int .i64 15], .tuple #[.agg #[bs [97, 99, 99, 101, 112, 116, 45, 99, 104, 97, 114, 115, 101, 116], bs [], .bool false], .bool true]⟩,
  ⟨220, [.int .i64 16], .tuple #[.agg #[bs [97, 99, 99, 101, 112, 116, 45, 101, 110, 99, 111, 100, 105, 110, 103], bs [103, 122, 105, 112, 44, 32, 100, 101, 102, 108, 97, 116, 101], .bool false], .bool true]⟩,
  ⟨220, [.int .i64 17], .tuple #[.agg #[bs [97, 99, 99, 101, 112, 116, 45, 108, 97, 110, 103, 117, 97, 103, 101], bs [], .bool false], .bool true]⟩,
  ⟨220, [.int .i64 18], .tuple #[.agg #[bs [97, 99, 99, 101, 112, 116, 45, 114, 97, 110, 103, 101, 115], bs [], .bool false], .bool true]⟩,
  ⟨220, [.int .i64 19], .tuple #[.agg #[bs [97, 99, 99, 101, 112, 116], bs [], .bool false], .bool true]⟩,
  ⟨220, [.int .i64 20], .tuple #[.agg #[bs [97, 99, 99, 101, 115, 115, 45, 99, 111, 110, 116, 114, 111, 108, 45, 97, 108, 108, 111, 119, 45, 111, 114, 105, 103, 105, 110], bs [], .bool false], .bool true]⟩,
  ⟨220, [.int .i64 21], .tuple #[.agg #[bs [97, 103, 101], bs [], .bool false], .bool true]⟩,
  ⟨220, [.int .i64 22], .tuple #[.agg #[bs [97, 108, 108, 111, 119], bs [], .bool false], .bool true]⟩,
  ⟨220, [.int .i64 23], .tuple #[.agg #[bs [97, 117, 116, 104, 111, 114, 105, 122, 97, 116, 105, 111, 110], bs [], .bool false], .bool true]⟩,
  ⟨220, [.int .i64 24], .tuple #[.agg #[bs [99, 97, 99, 104, 101, 45, 99, 111, 110, 116, 114, 111, 108], bs [], .bool false], .bool true]⟩,
  ⟨220, [.int .i64 25], .tuple #[.agg #[bs [99, 111, 110, 116, 101, 110, 116, 45, 100, 105, 115, 112, 111, 115, 105, 116, 105, 111, 110], bs [], .bool false], .bool true]⟩,
  ⟨220, [.int .i64 26], .tuple #[.agg #[bs [99, 111, 110, 116, 101, 110, 116, 45, 101, 110, 99, 111, 100, 105, 110, 103], bs [], .bool false], .bool true]⟩,
  ⟨220, [.int .i64 27], .tuple #[.agg #[bs [99, 111, 110, 116, 101, 110, 116, 45, 108, 97, 110, 103, 117, 97, 103, 101], bs [], .bool false], .bool true]⟩,
  ⟨220, [.int .i64 28], .tuple #[.agg #[bs [99, 111, 110, 116, 101, 110, 116, 45, 108, 101, 110, 103, 116, 104], bs [], .bool false], .bool true]⟩,
  ⟨220, [.int .i64 29], .tuple #[.agg #[bs [99, 111, 110, 116, 101, 110, 116, 45, 108, 111, 99, 97, 116, 105, 111, 110], bs [], .bool false], .bool true]⟩,
  ⟨220, [.int .i64 30], .tuple #[.agg #[bs [99, 111, 110, 116, 101, 110, 116, 45, 114, 97, 110, 103, 101], bs [], .bool false], .bool true]⟩,
  ⟨220, [.int .i64 31], .tuple #[.agg #[bs [99, 111, 110, 116, 101, 110, 116, 45, 116, 121, 112, 101], bs [], .bool false], .bool true]⟩,
  ⟨220, [.int .i64 32], .tuple #[.agg #[bs [99, 111, 111, 107, 105, 101], bs [], .bool false], .bool true]⟩,
  ⟨220, [.int .i64 33], .tuple #[.agg #[bs [100, 97, 116, 101], bs [], .bool false], .bool true]⟩,
  ⟨220, [.int .i64 34], .tuple #[.agg #[bs [101, 116, 97, 103], bs [], .bool false], .bool true]⟩,
  ⟨220, [.int .i64 35], .tuple #[.agg #[bs [101, 120, 112, 101, 99, 116], bs [], .bool false], .bool true]⟩,
  ⟨220, [.int .i64 36], .tuple #[.agg #[bs [101, 120, 112, 105, 114, 101, 115], bs [], .bool false], .bool true]⟩,
  ⟨220, [.int .i64 37], .tuple #[.agg #[bs [102, 114, 111, 109], bs [], .bool false], .bool true]⟩,
  ⟨220, [.int .i64 38], .tuple #[.agg #[bs [104, 111, 115, 116], bs [], .bool false], .bool true]⟩,
  ⟨220, [.int .i64 39], .tuple #[.agg #[bs [105, 102, 45, 109, 97, 116, 99, 104], bs [], .bool false], .bool true]⟩,
  ⟨220, [.int .i64 40], .tuple #[.agg #[bs [105, 102, 45, 109, 111, 100, 105, 102, 105, 101, 100, 45, 115, 105, 110, 99, 101], bs [], .bool false], .bool true]⟩,
  ⟨220, [.int .i64 41], .tuple #[.agg #[bs [105, 102, 45, 110, 111, 110, 101, 45, 109, 97, 116, 99, 104], bs [], .bool false], .bool true]⟩,
  ⟨220, [.int .i64 42], .tuple #[.agg #[bs [105, 102, 45, 114, 97, 110, 103, 101], bs [], .bool false], .bool true]⟩,
  ⟨220, [.int .i64 43], .tuple #[.agg #[bs [105, 102, 45, 117, 110, 109, 111, 100, 105, 102, 105, 101, 100, 45, 115, 105, 110, 99, 101], bs [], .bool false], .bool true]⟩,
  ⟨220, [.int .i64 44], .tuple #[.agg #[bs [108, 97, 115, 116, 45, 109, 111, 100, 105, 102, 105, 101, 100], bs [], .bool false], .bool true]⟩,
  ⟨220, [.int .i64 45], .tuple #[.agg #[bs [108, 105, 110, 107], bs [], .bool false], .bool true]⟩,
  ⟨220, [.int .i64 46], .tuple #[.agg #[bs [108, 111, 99, 97, 116, 105, 111, 110], bs [], .bool false], .bool true]⟩,
  ⟨220, [.int .i64 47], .tuple #[.agg #[bs [109, 97, 120, 45, 102, 111, 114, 119, 97, 114, 100, 115], bs [], .bool false], .bool true]⟩,
  ⟨220, [.int .i64 48], .tuple #[.agg #[bs [112, 114, 111, 120, 121, 45, 97, 117, 116, 104, 101, 110, 116, 105, 99, 97, 116, 101], bs [], .bool false], .bool true]⟩,
  ⟨220, [.int .i64 49], .tuple #[.agg #[bs [112, 114, 111, 120, 121, 45, 97, 117, 116, 104, 111, 114, 105, 122, 97, 116, 105, 111, 110], bs [], .bool false], .bool true]⟩,
  ⟨220, [.int .i64 50], .tuple #[.agg #[bs [114, 97, 110, 103, 101], bs [], .bool false], .bool true]⟩,
  ⟨220, [.int .i64 51], .tuple #[.agg #[bs [114, 101, 102, 101, 114, 101, 114], bs [], .bool false], .bool true]⟩,
  ⟨220, [.int .i64 52], .tuple #[.agg #[bs [114, 101, 102, 114, 101, 115, 104], bs [], .bool false], .bool true]⟩,
  ⟨220, [.int .i64 53], .tuple #[.agg #[bs [114, 101, 116, 114, 121, 45, 97, 102, 116, 101, 114], bs [], .bool false], .bool true]⟩,
  ⟨220, [.int .i64 54], .tuple #[.agg #[bs [115, 101, 114, 118, 101, 114], bs [], .bool false], .bool true]⟩,
  ⟨220, [.int .i64 55], .tuple #[.agg #[bs [115, 101, 116, 45, 99, 111, 111, 107, 105, 101], bs [], .bool false], .bool true]⟩,
  ⟨220, [.int .i64 56], .tuple #[.agg #[bs [115, 116, 114, 105, 99, 116, 45, 116, 114, 97, 110, 115, 112, 111, 114, 116, 45, 115, 101, 99, 117, 114, 105, 116, 121], bs [], .bool false], .bool true]⟩,
  ⟨220, [.int .i64 57], .tuple #[.agg #[bs [116, 114, 97, 110, 115, 102, 101, 114, 45, 101, 110, 99, 111, 100, 105, 110, 103], bs [], .bool false], .bool true]⟩,
  ⟨220, [.int .i64 58], .tuple #[.agg #[bs [117, 115, 101, 114, 45, 97, 103, 101, 110, 116], bs [], .bool false], .bool true]⟩,
  ⟨220, [.int .i64 59], .tuple #[.agg #[bs [118, 97, 114, 121], bs [], .bool false], .bool true]⟩,
  ⟨220, [.int .i64 60], .tuple #[.agg #[bs [118, 105, 97], bs [], .bool false], .bool true]⟩,
  ⟨220, [.int .i64 61], .tuple #[.agg #[bs [119, 119, 119, 45, 97, 117, 116, 104, 101, 110, 116, 105, 99, 97, 116, 101], bs [], .bool false], .bool true]⟩]
def memo2a : List Memo := [
  ⟨295, [bs [58, 109, 101, 116, 104, 111, 100], bs [71, 69, 84]], .tuple #[.int .i64 2, .bool true]⟩,
  ⟨295, [bs [58, 115, 99, 104, 101, 109, 101], bs [104, 116, 116, 112]], .tuple #[.int .i64 6, .bool true]⟩,
  ⟨295, [bs [58, 112, 97, 116, 104], bs [47]], .tuple #[.int .i64 4, .bool true]⟩,
  ⟨295, [bs [65], bs [98]], .tuple #[.int .i64 0, .bool false]⟩,
  ⟨295, [bs [99, 111, 110, 110, 101, 99, 116, 105, 111, 110], bs [99, 108, 111, 115, 101]], .tuple #[.int .i64 0, .bool false]⟩,
  ⟨295, [bs [65], bs []], .tuple #[.int .i64 0, .bool false]⟩,
  ⟨295, [bs [99, 111, 110, 110, 101, 99, 116, 105, 111, 110], bs []], .tuple #[.int .i64 0, .bool false]⟩]
def memo2b : List Memo := [
  ⟨12, [.int .i64 1], bs [112, 97, 100]⟩,
  ⟨12, [.int .i64 2], bs [112, 105, 110, 103, 55]⟩,
  ⟨12, [.int .i64 3], bs [112, 105, 110, 103, 111, 110]⟩,
  ⟨12, [.int .i64 4], bs [115, 101, 116, 115, 111, 110]⟩,
  ⟨12, [.int .i64 5], bs [97, 99, 107, 98, 111, 100, 121]⟩,
  ⟨12, [.int .i64 6], bs [115, 101, 116, 115, 53]⟩,
  ⟨12, [.int .i64 7], bs [115, 116, 101, 112, 48]⟩]
def memo2c : List Memo := [
  ⟨12, [.int .i64 8], bs [111, 118, 101, 114]⟩,
  ⟨12, [.int .i64 9], bs [100, 97, 116, 97, 105, 100, 108, 101]⟩,
  ⟨12, [.int .i64 10], bs [114, 115, 116, 105, 100, 108, 101]⟩,
  ⟨12, [.int .i64 11], bs [97, 108, 111, 110, 101]⟩,
  ⟨12, [.int .i64 12], bs [112, 114, 105, 111, 52]⟩,
  ⟨12, [.int .i64 13], bs [97, 119, 97, 121, 55]⟩,
  ⟨12, [.int .i64 14], bs [112, 117, 115, 104]⟩]
def memo2d : List Memo := [
  ⟨12, [.int .i64 15], bs [108, 111, 110, 103]⟩,
  ⟨12, [.int .i64 16], bs [116, 97, 98, 108, 101]⟩,
  ⟨12, [.int .i64 17], bs [117, 112, 100, 97, 116, 101]⟩,
  ⟨12, [.int .i64 18], bs [117, 112, 112, 101, 114]⟩,
  ⟨12, [.int .i64 19], bs [98, 97, 114, 114, 101, 100]⟩,
  ⟨12, [.int .i64 20], bs [110, 111, 112, 97, 116, 104]⟩]
def memo2e : List Memo := [
  ⟨12, [.int .i64 21], bs [119, 105, 116, 104, 105, 110]⟩,
  ⟨12, [.int .i64 22], bs [112, 117, 115, 104, 50]⟩,
  ⟨12, [.int .i64 23], bs [102, 114, 97, 109, 101, 48]⟩,
  ⟨12, [.int .i64 24], bs [119, 105, 110, 100, 111, 119]⟩,
  ⟨12, [.int .i64 25], bs [114, 115, 116, 48]⟩,
  ⟨12, [.int .i64 26], bs [97, 99, 107]⟩]
def memo2 : List Memo := memo2a ++ (memo2b ++ (memo2c ++ (memo2d ++ memo2e)))
def memo3 : List Memo := [
  ⟨5, [], .bool true⟩]

def memo4a : List Memo := [
  ⟨178, [.int .i64 3], bs [115, 105, 122, 101]⟩,
  ⟨178, [.int .i64 4], bs [111, 114, 100, 101, 114]⟩,
  ⟨178, [.int .i64 5], bs [102, 111, 114, 109]⟩,
  ⟨178, [.int .i64 6], bs [118, 97, 108, 117, 101]⟩,
  ⟨178, [.int .i64 7], bs [97, 99, 107]⟩,
  ⟨178, [.int .i64 10], bs [105, 100, 108, 101]⟩,
  ⟨178, [.int .i64 17], bs [115, 116, 101, 112]⟩]
def memo4b : List Memo := [
  ⟨178, [.int .i64 18], bs [119, 105, 110, 100, 111, 119]⟩,
  ⟨178, [.int .i64 22], bs [112, 114, 111, 109, 105, 115, 101]⟩,
  ⟨178, [.int .i64 25], bs [116, 97, 98, 108, 101]⟩,
  ⟨178, [.int .i64 26], bs [117, 112, 100, 97, 116, 101]⟩,
  ⟨178, [.int .i64 28], bs [102, 105, 101, 108, 100]⟩,
  ⟨178, [.int .i64 29], bs [98, 97, 114, 114, 101, 100]⟩,
  ⟨178, [.int .i64 30], bs [112, 115, 101, 117, 100, 111]⟩]
def memo4 : List Memo := memo4a ++ memo4b

noncomputable def E1 : Env := withMemo E0 memo1
noncomputable def E2 : Env := withMemo E1 memo2
noncomputable def E3 : Env := withMemo E2 memo3
noncomputable def E4 : Env := withMemo E3 memo4
end Go.Proofs.YtmggogbpepghkacGreatDoor
