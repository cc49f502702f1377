/- InjectFrames: what the evaluator knows of the program. -/
import Derived.Test.YtmggogbpepghkaaGreatDoorEngC
import Derived.WalkKit
import Derived.ProofKit
import Derived.Test.YtmggogbpepghkaaGreatDoorRows

namespace Go.Proofs.YtmggogbpepghkaaGreatDoor
open Go.RowKit Go.Sx

theorem same_true (b o c b' o' c' n : Nat) (w : World) (hbig : n ≤ 9223372036854775806) (hc : ∀ i, i < n → ∃ k : Int, w.cell? ⟨b, o + i, none⟩ = some (.int .u8 k) ∧ w.cell? ⟨b', o' + i, none⟩ = some (.int .u8 k)) :
    Calls Tryz.prog 35 #[.slice (some ⟨b, o, none⟩) n c, .slice (some ⟨b', o', none⟩) n c'] w fun e w' => e = .returned (.bool true) ∧ Below w.heap.size w w' := by
  go_enter Tryz.func35, Tryz.ntmps35
  go_wp2
  go_loopw [5] (fun i wr => ∃ k : Nat, k ≤ n ∧ i = .int .i64 k ∧ Below w.heap.size w wr ∧ wr.heap = w.heap) (fun i _ => n - (intOf i).toNat)
  case atStart => exact ⟨0, Nat.zero_le _, rfl, Below.refl _ _, rfl⟩
  case round =>
    obtain ⟨k, hk, rfl, hb, hh⟩ := hrel
    have hcell : ∀ a, wr.cell? a = w.cell? a := fun a => by simp only [World.cell?, hh]
    by_cases hlt : k < n
    · obtain ⟨z, h1, h2⟩ := hc k hlt
      have h1' : wr.cell? ⟨b, o + k, none⟩ = some (.int .u8 z) := by rw [hcell]; exact h1
      have h2' : wr.cell? ⟨b', o' + k, none⟩ = some (.int .u8 z) := by rw [hcell]; exact h2
      clear hcell hc h1 h2
      go_wp2
      go_region
      all_goals go_wp2
      all_goals go_roundw
      case rel => exact ⟨k + 1, by omega, by go_num, hb.trans ⟨rfl, rfl, rfl, Nat.le_refl _, fun _ _ => rfl⟩, hh⟩
      case measure => simp [intOf]; omega
    · clear hcell hc
      go_wp2
      all_goals go_ret
      exact ⟨rfl, hb⟩

/-- The same bytes, so many of them. -/
def eqBytes : Nat → List SV → List SV → Bool
  | 0, _, _ => true
  | n + 1, .cst (.int .u8 a) :: r, .cst (.int .u8 b) :: s => bif decide (a = b) then eqBytes n r s else false
  | _, _, _ => false
def sameB (args : List EV) (g : Nat → Option Blk) : Option TV :=
  match args with
  | [.one (.slc l off 1 n _), .one (.slc l' off' 1 n' _)] => match g l, g l' with
    | some (.row _ cs), some (.row _ cs') => match Nat.beq n n' && Nat.ble n 1000000, eqBytes n (cs.drop off) (cs'.drop off') with
      | true, true => some (.ev (.one (.cst (.bool true))))
      | _, _ => none
    | _, _ => none
  | _ => none
theorem eqBytes_ok : ∀ (n : Nat) (l m : List SV), eqBytes n l m = true → ∀ i, i < n → ∃ k : Int, l[i]? = some (.cst (.int .u8 k)) ∧ m[i]? = some (.cst (.int .u8 k)) := by
  intro n
  induction n with
  | zero => intro l m _ i hi; omega
  | succ n ih =>
    intro l m h i hi
    unfold eqBytes at h
    split at h
    · omega
    · rename_i n' a r b s e
      cases e
      cases hd : decide (a = b) with
      | false => rw [hd] at h; cases h
      | true =>
        rw [hd, cond_true] at h
        have hab := of_decide_eq_true hd
        subst hab
        cases i with
        | zero => exact ⟨a, rfl, rfl⟩
        | succ i => simpa using ih r s h i (by omega)
    · cases h
theorem same_ok {ρ : Val} {B : Nat} {β : Bind} {g : Nat → Option Blk} {args : List EV} {v : TV} (h : sameB args g = some v) {w : World} (hS : SHf β ρ B g w) {vs : List Value} (hf : F2 (EV.D β ρ) args vs) :
    ∃ u, v.D β ρ u ∧ (callFunc 35 vs.toArray).run Tryz.prog w = .ok (.enter 35 vs.toArray) w ∧ Calls Tryz.prog 35 vs.toArray w fun e w' => e = .returned u ∧ Below w.heap.size w w' := by
  unfold sameB at h
  split at h
  · rename_i l off n c l' off' n' c'
    split at h
    · rename_i ty cs ty' cs' hl hl'
      split at h
      · rename_i hb he
        cases h
        simp only [Bool.and_eq_true] at hb
        have hn := Nat.eq_of_beq_eq_true hb.1
        have hle := Nat.le_of_ble_eq_true hb.2
        subst hn
        cases hf with
        | cons h1 hf =>
          cases hf with
          | cons h2 hf =>
            cases hf
            obtain ⟨a, ha, rfl⟩ := h1
            obtain ⟨a', ha', rfl⟩ := h2
            refine ⟨.bool true, rfl, run_callFunc Tryz.func35 rfl (by kernel_rfl), same_true _ _ _ _ _ _ n w (by omega) fun i hi => ?_⟩
            obtain ⟨k, hk, hk'⟩ := eqBytes_ok n _ _ he i hi
            rw [List.getElem?_drop] at hk hk'
            obtain ⟨x, hx, hX⟩ := hS.at_ _ _ hl
            obtain ⟨x', hx', hX'⟩ := hS.at_ _ _ hl'
            rw [ha] at hx; cases hx
            rw [ha'] at hx'; cases hx'
            obtain ⟨us, f1, f2⟩ := row_cells hX
            obtain ⟨us', f1', f2'⟩ := row_cells hX'
            obtain ⟨u, hu, hd⟩ := f1.get _ _ hk
            obtain ⟨u', hu', hd'⟩ := f1'.get _ _ hk'
            cases hd; cases hd'
            have q := f2 _ _ hu
            have q' := f2' _ _ hu'
            rw [← Nat.add_assoc] at q q'
            exact ⟨k, q, q'⟩
      · cases h
    · cases h
  · cases h

/-! ### What the evaluator is told -/
def tab (l : List Int) : List Value := l.map (Value.int .i64)
def glob1 (g : Nat) : Option (List Value) :=
  bif Nat.beq g 0 then some (tab [5, 5, 5, 5, 5, 5, 17, 18, 10, 10, 4, 5, 5, 22, 3, 25, 26, 28, 29, 30, 4, 6, 6, 6, 5, 7]) else
  bif Nat.beq g 1 then some (tab [0, 0, 128, 7, 64, 6, 0, 4, 16, 4, 32, 5]) else none
noncomputable def ext0 (f : Nat) : Option (List Value → Option Value) :=
  bif Nat.beq f 76 then some (fun vs => pureRun Tryz.prog (Extern.BytealgCount.count vs.toArray)) else
  bif Nat.beq f 121 then some (fun vs => pureRun Tryz.prog (Extern.BytealgIndexByte.indexByte vs.toArray)) else none
def exth1 (f : Nat) : Option (List EV → (Nat → Option Blk) → Option TV) := bif Nat.beq f 35 then some sameB else none
noncomputable def E0 : Env := { P := Tryz.prog, glob := glob1, ext := ext0, olen := fun _ => none, exth := exth1 }

/-- A string by its bytes. -/
def bs (l : List UInt8) : Value := .string ⟨⟨l⟩⟩
def memo1 : List Memo := [
  ⟨137, [.int .i64 1], .tuple #[.agg #[bs [58, 97, 117, 116, 104, 111, 114, 105, 116, 121], bs [], .bool false], .bool true]⟩,
  ⟨137, [.int .i64 2], .tuple #[.agg #[bs [58, 109, 101, 116, 104, 111, 100], bs [71, 69, 84], .bool false], .bool true]⟩,
  ⟨137, [.int .i64 3], .tuple #[.agg #[bs [58, 109, 101, 116, 104, 111, 100], bs [80, 79, 83, 84], .bool false], .bool true]⟩,
  ⟨137, [.int .i64 4], .tuple #[.agg #[bs [58, 112, 97, 116, 104], bs [47], .bool false], .bool true]⟩,
  ⟨137, [.int .i64 5], .tuple #[.agg #[bs [58, 112, 97, 116, 104], bs [47, 105, 110, 100, 101, 120, 46, 104, 116, 109, 108], .bool false], .bool true]⟩,
  ⟨137, [.int .i64 6], .tuple #[.agg #[bs [58, 115, 99, 104, 101, 109, 101], bs [104, 116, 116, 112], .bool false], .bool true]⟩,
  ⟨137, [.int .i64 7], .tuple #[.agg #[bs [58, 115, 99, 104, 101, 109, 101], bs [104, 116, 116, 112, 115], .bool false], .bool true]⟩,
  ⟨137, [.int .i64 8], .tuple #[.agg #[bs [58, 115, 116, 97, 116, 117, 115], bs [50, 48, 48], .bool false], .bool true]⟩,
  ⟨137, [.int .i64 9], .tuple #[.agg #[bs [58, 115, 116, 97, 116, 117, 115], bs [50, 48, 52], .bool false], .bool true]⟩,
  ⟨137, [.int .i64 10], .tuple #[.agg #[bs [58, 115, 116, 97, 116, 117, 115], bs [50, 48, 54], .bool false], .bool true]⟩,
  ⟨137, [.int .i64 11], .tuple #[.agg #[bs [58, 115, 116, 97, 116, 117, 115], bs [51, 48, 52], .bool false], .bool true]⟩,
  ⟨137, [.int .i64 12], .tuple #[.agg #[bs [58, 115, 116, 97, 116, 117, 115], bs [52, 48, 48], .bool false], .bool true]⟩,
  ⟨137, [.int .i64 13], .tuple #[.agg #[bs [58, 115, 116, 97, 116, 117, 115], bs [52, 48, 52], .bool false], .bool true]⟩,
  ⟨137, [.int .i64 14], .tuple #[.agg #[bs [58, 115, 116, 97, 116, 117, 115], bs [53, 48, 48], .bool false], .bool true]⟩,
  ⟨137, [.int .i64 15], .tuple #[.agg #[bs [97, 99, 99, 101, 112, 116, 45, 99, 104, 97, 114, 115, 101, 116], bs [], .bool false], .bool true]⟩,
  ⟨137, [.int .i64 16], .tuple #[.agg #[bs [97, 99, 99, 101, 112, 116, 45, 101, 110, 99, 111, 100, 105, 110, 103], bs [103, 122, 105, 112, 44, 32, 100, 101, 102, 108, 97, 116, 101], .bool false], .bool true]⟩,
  ⟨137, [.int .i64 17], .tuple #[.agg #[bs [97, 99, 99, 101, 112, 116, 45, 108, 97, 110, 103, 117, 97, 103, 101], bs [], .bool false], .bool true]⟩,
  ⟨137, [.int .i64 18], .tuple #[.agg #[bs [97, 99, 99, 101, 112, 116, 45, 114, 97, 110, 103, 101, 115], bs [], .bool false], .bool true]⟩,
  ⟨137, [.int .i64 19], .tuple #[.agg #[bs [97, 99, 99, 101, 112, 116], bs [], .bool false], .bool true]⟩,
  ⟨137, [.int .i64 20], .tuple #[.agg #[bs [97, 99, 99, 101, 115, 115, 45, 99, 111, 110, 116, 114, 111, 108, 45, 97, 108, 108, 111, 119, 45, 111, 114, 105, 103, 105, 110], bs [], .bool false], .bool true]⟩,
  ⟨137, [.int .i64 21], .tuple #[.agg #[bs [97, 103, 101], bs [], .bool false], .bool true]⟩,
  ⟨137, [.int .i64 22], .tuple #[.agg #[bs [97, 108, 108, 111, 119], bs [], .bool false], .bool true]⟩,
  ⟨137, [.int .i64 23], .tuple #[.agg #[bs [97, 117, 116, 104, 111, 114, 105, 122, 97, 116, 105, 111, 110], bs [], .bool false], .bool true]⟩,
  ⟨137, [.int .i64 24], .tuple #[.agg #[bs [99, 97, 99, 104, 101, 45, 99, 111, 110, 116, 114, 111, 108], bs [], .bool false], .bool true]⟩,
  ⟨137, [.int .i64 25], .tuple #[.agg #[bs [99, 111, 110, 116, 101, 110, 116, 45, 100, 105, 115, 112, 111, 115, 105, 116, 105, 111, 110], bs [], .bool false], .bool true]⟩,
  ⟨137, [.int .i64 26], .tuple #[.agg #[bs [99, 111, 110, 116, 101, 110, 116, 45, 101, 110, 99, 111, 100, 105, 110, 103], bs [], .bool false], .bool true]⟩,
  ⟨137, [.int .i64 27], .tuple #[.agg #[bs [99, 111, 110, 116, 101, 110, 116, 45, 108, 97, 110, 103, 117, 97, 103, 101], bs [], .bool false], .bool true]⟩,
  ⟨137, [.int .i64 28], .tuple #[.agg #[bs [99, 111, 110, 116, 101, 110, 116, 45, 108, 101, 110, 103, 116, 104], bs [], .bool false], .bool true]⟩,
  ⟨137, [.int .i64 29], .tuple #[.agg #[bs [99, 111, 110, 116, 101, 110, 116, 45, 108, 111, 99, 97, 116, 105, 111, 110], bs [], .bool false], .bool true]⟩,
  ⟨137, [.int .i64 30], .tuple #[.agg #[bs [99, 111, 110, 116, 101, 110, 116, 45, 114, 97, 110, 103, 101], bs [], .bool false], .bool true]⟩,
  ⟨137, [.int .i64 31], .tuple #[.agg #[bs [99, 111, 110, 116, 101, 110, 116, 45, 116, 121, 112, 101], bs [], .bool false], .bool true]⟩,
  ⟨137, [.int .i64 32], .tuple #[.agg #[bs [99, 111, 111, 107, 105, 101], bs [], .bool false], .bool true]⟩,
  ⟨137, [.int .i64 33], .tuple #[.agg #[bs [100, 97, 116, 101], bs [], .bool false], .bool true]⟩,
  ⟨137, [.int .i64 34], .tuple #[.agg #[bs [101, 116, 97, 103], bs [], .bool false], .bool true]⟩,
  ⟨137, [.int .i64 35], .tuple #[.agg #[bs [101, 120, 112, 101, 99, 116], bs [], .bool false], .bool true]⟩,
  ⟨137, [.int .i64 36], .tuple #[.agg #[bs [101, 120, 112, 105, 114, 101, 115], bs [], .bool false], .bool true]⟩,
  ⟨137, [.int .i64 37], .tuple #[.agg #[bs [102, 114, 111, 109], bs [], .bool false], .bool true]⟩,
  ⟨137, [.int .i64 38], .tuple #[.agg #[bs [104, 111, 115, 116], bs [], .bool false], .bool true]⟩,
  ⟨137, [.int .i64 39], .tuple #[.agg #[bs [105, 102, 45, 109, 97, 116, 99, 104], bs [], .bool false], .bool true]⟩,
  ⟨137, [.int .i64 40], .tuple #[.agg #[bs [105, 102, 45, 109, 111, 100, 105, 102, 105, 101, 100, 45, 115, 105, 110, 99, 101], bs [], .bool false], .bool true]⟩,
  ⟨137, [.int .i64 41], .tuple #[.agg #[bs [105, 102, 45, 110, 111, 110, 101, 45, 109, 97, 116, 99, 104], bs [], .bool false], .bool true]⟩,
  ⟨137, [.int .i64 42], .tuple #[.agg #[bs [105, 102, 45, 114, 97, 110, 103, 101], bs [], .bool false], .bool true]⟩,
  ⟨137, [.int .i64 43], .tuple #[.agg #[bs [105, 102, 45, 117, 110, 109, 111, 100, 105, 102, 105, 101, 100, 45, 115, 105, 110, 99, 101], bs [], .bool false], .bool true]⟩,
  ⟨137, [.int .i64 44], .tuple #[.agg #[bs [108, 97, 115, 116, 45, 109, 111, 100, 105, 102, 105, 101, 100], bs [], .bool false], .bool true]⟩,
  ⟨137, [.int .i64 45], .tuple #[.agg #[bs [108, 105, 110, 107], bs [], .bool false], .bool true]⟩,
  ⟨137, [.int .i64 46], .tuple #[.agg #[bs [108, 111, 99, 97, 116, 105, 111, 110], bs [], .bool false], .bool true]⟩,
  ⟨137, [.int .i64 47], .tuple #[.agg #[bs [109, 97, 120, 45, 102, 111, 114, 119, 97, 114, 100, 115], bs [], .bool false], .bool true]⟩,
  ⟨137, [.int .i64 48], .tuple #[.agg #[bs [112, 114, 111, 120, 121, 45, 97, 117, 116, 104, 101, 110, 116, 105, 99, 97, 116, 101], bs [], .bool false], .bool true]⟩,
  ⟨137, [.int .i64 49], .tuple #[.agg #[bs [112, 114, 111, 120, 121, 45, 97, 117, 116, 104, 111, 114, 105, 122, 97, 116, 105, 111, 110], bs [], .bool false], .bool true]⟩,
  ⟨137, [.int .i64 50], .tuple #[.agg #[bs [114, 97, 110, 103, 101], bs [], .bool false], .bool true]⟩,
  ⟨137, [.int .i64 51], .tuple #[.agg #[bs [114, 101, 102, 101, 114, 101, 114], bs [], .bool false], .bool true]⟩,
  ⟨137, [.int .i64 52], .tuple #[.agg #[bs [114, 101, 102, 114, 101, 115, 104], bs [], .bool false], .bool true]⟩,
  ⟨137, [.int .i64 53], .tuple #[.agg #[bs [114, 101, 116, 114, 121, 45, 97, 102, 116, 101, 114], bs [], .bool false], .bool true]⟩,
  ⟨137, [.int .i64 54], .tuple #[.agg #[bs [115, 101, 114, 118, 101, 114], bs [], .bool false], .bool true]⟩,
  ⟨137, [.int .i64 55], .tuple #[.agg #[bs [115, 101, 116, 45, 99, 111, 111, 107, 105, 101], bs [], .bool false], .bool true]⟩,
  ⟨137, [.int .i64 56], .tuple #[.agg #[bs [115, 116, 114, 105, 99, 116, 45, 116, 114, 97, 110, 115, 112, 111, 114, 116, 45, 115, 101, 99, 117, 114, 105, 116, 121], bs [], .bool false], .bool true]⟩,
  ⟨137, [.int .i64 57], .tuple #[.agg #[bs [116, 114, 97, 110, 115, 102, 101, 114, 45, 101, 110, 99, 111, 100, 105, 110, 103], bs [], .bool false], .bool true]⟩,
  ⟨137, [.int .i64 58], .tuple #[.agg #[bs [117, 115, 101, 114, 45, 97, 103, 101, 110, 116], bs [], .bool false], .bool true]⟩,
  ⟨137, [.int .i64 59], .tuple #[.agg #[bs [118, 97, 114, 121], bs [], .bool false], .bool true]⟩,
  ⟨137, [.int .i64 60], .tuple #[.agg #[bs [118, 105, 97], bs [], .bool false], .bool true]⟩,
  ⟨137, [.int .i64 61], .tuple #[.agg #[bs [119, 119, 119, 45, 97, 117, 116, 104, 101, 110, 116, 105, 99, 97, 116, 101], bs [], .bool false], .bool true]⟩,
  ⟨109, [.int .i64 1], .tuple #[.agg #[bs [58, 97, 117, 116, 104, 111, 114, 105, 116, 121], bs [], .bool false], .bool true]⟩,
  ⟨109, [.int .i64 2], .tuple #[.agg #[bs [58, 109, 101, 116, 104, 111, 100], bs [71, 69, 84], .bool false], .bool true]⟩,
  ⟨109, [.int .i64 3], .tuple #[.agg #[bs [58, 109, 101, 116, 104, 111, 100], bs [80, 79, 83, 84], .bool false], .bool true]⟩,
  ⟨109, [.int .i64 4], .tuple #[.agg #[bs [58, 112, 97, 116, 104], bs [47], .bool false], .bool true]⟩,
  ⟨109, [.int .i64 5], .tuple #[.agg #[bs [58, 112, 97, 116, 104], bs [47, 105, 110, 100, 101, 120, 46, 104, 116, 109, 108], .bool false], .bool true]⟩,
  ⟨109, [.int .i64 6], .tuple #[.agg #[bs [58, 115, 99, 104, 101, 109, 101], bs [104, 116, 116, 112], .bool false], .bool true]⟩,
  ⟨109, [.int .i64 7], .tuple #[.agg #[bs [58, 115, 99, 104, 101, 109, 101], bs [104, 116, 116, 112, 115], .bool false], .bool true]⟩,
  ⟨109, [.int .i64 8], .tuple #[.agg #[bs [58, 115, 116, 97, 116, 117, 115], bs [50, 48, 48], .bool false], .bool true]⟩,
  ⟨109, [.int .i64 9], .tuple #[.agg #[bs [58, 115, 116, 97, 116, 117, 115], bs [50, 48, 52], .bool false], .bool true]⟩,
  ⟨109, [.int .i64 10], .tuple #[.agg #[bs [58, 115, 116, 97, 116, 117, 115], bs [50, 48, 54], .bool false], .bool true]⟩,
  ⟨109, [.int .i64 11], .tuple #[.agg #[bs [58, 115, 116, 97, 116, 117, 115], bs [51, 48, 52], .bool false], .bool true]⟩,
  ⟨109, [.int .i64 12], .tuple #[.agg #[bs [58, 115, 116, 97, 116, 117, 115], bs [52, 48, 48], .bool false], .bool true]⟩,
  ⟨109, [.int .i64 13], .tuple #[.agg #[bs [58, 115, 116, 97, 116, 117, 115], bs [52, 48, 52], .bool false], .bool true]⟩,
  ⟨109, [.int .i64 14], .tuple #[.agg #[bs [58, 115, 116, 97, 116, 117, 115], bs [53, 48, 48], .bool false], .bool true]⟩,
  ⟨109, [.int .i64 15], .tuple #[.agg #[bs [97, 99, 99, 101, 112, 116, 45, 99, 104, 97, 114, 115, 101, 116], bs [], .bool false], .bool true]⟩,
  ⟨109, [.int .i64 16], .tuple #[.agg #[bs [97, 99, 99, 101, 112, 116, 45, 101, 110, 99, 111, 100, 105, 110, 103], bs [103, 122, 105, 112, 44, 32, 100, 101, 102, 108, 97, 116, 101], .bool false], .bool true]⟩,
  ⟨109, [.int .i64 17], .tuple #[.agg #[bs [97, 99, 99, 101, 112, 116, 45, 108, 97, 110, 103, 117, 97, 103, 101], bs [], .bool false], .bool true]⟩,
  ⟨109, [.int .i64 18], .tuple #[.agg #[bs [97, 99, 99, 101, 112, 116, 45, 114, 97, 110, 103, 101, 115], bs [], .bool false], .bool true]⟩,
  ⟨109, [.int .i64 19], .tuple #[.agg #[bs [97, 99, 99, 101, 112, 116], bs [], .bool false], .bool true]⟩,
  ⟨109, [.int .i64 20], .tuple #[.agg #[bs [97, 99, 99, 101, 115, 115, 45, 99, 111, 110, 116, 114, 111, 108, 45, 97, 108, 108, 111, 119, 45, 111, 114, 105, 103, 105, 110], bs [], .bool false], .bool true]⟩,
  ⟨109, [.int .i64 21], .tuple #[.agg #[bs [97, 103, 101], bs [], .bool false], .bool true]⟩,
  ⟨109, [.int .i64 22], .tuple #[.agg #[bs [97, 108, 108, 111, 119], bs [], .bool false], .bool true]⟩,
  ⟨109, [.int .i64 23], .tuple #[.agg #[bs [97, 117, 116, 104, 111, 114, 105, 122, 97, 116, 105, 111, 110], bs [], .bool false], .bool true]⟩,
  ⟨109, [.int .i64 24], .tuple #[.agg #[bs [99, 97, 99, 104, 101, 45, 99, 111, 110, 116, 114, 111, 108], bs [], .bool false], .bool true]⟩,
  ⟨109, [.int .i64 25], .tuple #[.agg #[bs [99, 111, 110, 116, 101, 110, 116, 45, 100, 105, 115, 112, 111, 115, 105, 116, 105, 111, 110], bs [], .bool false], .bool true]⟩,
  ⟨109, [.int .i64 26], .tuple #[.agg #[bs [99, 111, 110, 116, 101, 110, 116, 45, 101, 110, 99, 111, 100, 105, 110, 103], bs [], .bool false], .bool true]⟩,
  ⟨109, [.int .i64 27], .tuple #[.agg #[bs [99, 111, 110, 116, 101, 110, 116, 45, 108, 97, 110, 103, 117, 97, 103, 101], bs [], .bool false], .bool true]⟩,
  ⟨109, [.int .i64 28], .tuple #[.agg #[bs [99, 111, 110, 116, 101, 110, 116, 45, 108, 101, 110, 103, 116, 104], bs [], .bool false], .bool true]⟩,
  ⟨109, [.int .i64 29], .tuple #[.agg #[bs [99, 111, 110, 116, 101, 110, 116, 45, 108, 111, 99, 97, 116, 105, 111, 110], bs [], .bool false], .bool true]⟩,
  ⟨109, [.int .i64 30], .tuple #[.agg #[bs [99, 111, 110, 116, 101, 110, 116, 45, 114, 97, 110, 103, 101], bs [], .bool false], .bool true]⟩,
  ⟨109, [.int .i64 31], .tuple #[.agg #[bs [99, 111, 110, 116, 101, 110, 116, 45, 116, 121, 112, 101], bs [], .bool false], .bool true]⟩,
  ⟨109, [.int .i64 32], .tuple #[.agg #[bs [99, 111, 111, 107, 105, 101], bs [], .bool false], .bool true]⟩,
  ⟨109, [.int .i64 33], .tuple #[.agg #[bs [100, 97, 116, 101], bs [], .bool false], .bool true]⟩,
  ⟨109, [.int .i64 34], .tuple #[.agg #[bs [101, 116, 97, 103], bs [], .bool false], .bool true]⟩,
  ⟨109, [.int .i64 35], .tuple #[.agg #[bs [101, 120, 112, 101, 99, 116], bs [], .bool false], .bool true]⟩,
  ⟨109, [.int .i64 36], .tuple #[.agg #[bs [101, 120, 112, 105, 114, 101, 115], bs [], .bool false], .bool true]⟩,
  ⟨109, [.int .i64 37], .tuple #[.agg #[bs [102, 114, 111, 109], bs [], .bool false], .bool true]⟩,
  ⟨109, [.int .i64 38], .tuple #[.agg #[bs [104, 111, 115, 116], bs [], .bool false], .bool true]⟩,
  ⟨109, [.int .i64 39], .tuple #[.agg #[bs [105, 102, 45, 109, 97, 116, 99, 104], bs [], .bool false], .bool true]⟩,
  ⟨109, [.int .i64 40], .tuple #[.agg #[bs [105, 102, 45, 109, 111, 100, 105, 102, 105, 101, 100, 45, 115, 105, 110, 99, 101], bs [], .bool false], .bool true]⟩,
  ⟨109, [.int .i64 41], .tuple #[.agg #[bs [105, 102, 45, 110, 111, 110, 101, 45, 109, 97, 116, 99, 104], bs [], .bool false], .bool true]⟩,
  ⟨109, [.int .i64 42], .tuple #[.agg #[bs [105, 102, 45, 114, 97, 110, 103, 101], bs [], .bool false], .bool true]⟩,
  ⟨109, [.int .i64 43], .tuple #[.agg #[bs [105, 102, 45, 117, 110, 109, 111, 100, 105, 102, 105, 101, 100, 45, 115, 105, 110, 99, 101], bs [], .bool false], .bool true]⟩,
  ⟨109, [.int .i64 44], .tuple #[.agg #[bs [108, 97, 115, 116, 45, 109, 111, 100, 105, 102, 105, 101, 100], bs [], .bool false], .bool true]⟩,
  ⟨109, [.int .i64 45], .tuple #[.agg #[bs [108, 105, 110, 107], bs [], .bool false], .bool true]⟩,
  ⟨109, [.int .i64 46], .tuple #[.agg #[bs [108, 111, 99, 97, 116, 105, 111, 110], bs [], .bool false], .bool true]⟩,
  ⟨109, [.int .i64 47], .tuple #[.agg #[bs [109, 97, 120, 45, 102, 111, 114, 119, 97, 114, 100, 115], bs [], .bool false], .bool true]⟩,
  ⟨109, [.int .i64 48], .tuple #[.agg #[bs [112, 114, 111, 120, 121, 45, 97, 117, 116, 104, 101, 110, 116, 105, 99, 97, 116, 101], bs [], .bool false], .bool true]⟩,
  ⟨109, [.int .i64 49], .tuple #[.agg #[bs [112, 114, 111, 120, 121, 45, 97, 117, 116, 104, 111, 114, 105, 122, 97, 116, 105, 111, 110], bs [], .bool false], .bool true]⟩,
  ⟨109, [.int .i64 50], .tuple #[.agg #[bs [114, 97, 110, 103, 101], bs [], .bool false], .bool true]⟩,
  ⟨109, [.int .i64 51], .tuple #[.agg #[bs [114, 101, 102, 101, 114, 101, 114], bs [], .bool false], .bool true]⟩,
  ⟨109, [.int .i64 52], .tuple #[.agg #[bs [114, 101, 102, 114, 101, 115, 104], bs [], .bool false], .bool true]⟩,
  ⟨109, [.int .i64 53], .tuple #[.agg #[bs [114, 101, 116, 114, 121, 45, 97, 102, 116, 101, 114], bs [], .bool false], .bool true]⟩,
  ⟨109, [.int .i64 54], .tuple #[.agg #[bs [115, 101, 114, 118, 101, 114], bs [], .bool false], .bool true]⟩,
  ⟨109, [.int .i64 55], .tuple #[.agg #[bs [115, 101, 116, 45, 99, 111, 111, 107, 105, 101], bs [], .bool false], .bool true]⟩,
  ⟨109, [.int .i64 56], .tuple #[.agg #[bs [115, 116, 114, 105, 99, 116, 45, 116, 114, 97, 110, 115, 112, 111, 114, 116, 45, 115, 101, 99, 117, 114, 105, 116, 121], bs [], .bool false], .bool true]⟩,
  ⟨109, [.int .i64 57], .tuple #[.agg #[bs [116, 114, 97, 110, 115, 102, 101, 114, 45, 101, 110, 99, 111, 100, 105, 110, 103], bs [], .bool false], .bool true]⟩,
  ⟨109, [.int .i64 58], .tuple #[.agg #[bs [117, 115, 101, 114, 45, 97, 103, 101, 110, 116], bs [], .bool false], .bool true]⟩,
  ⟨109, [.int .i64 59], .tuple #[.agg #[bs [118, 97, 114, 121], bs [], .bool false], .bool true]⟩,
  ⟨109, [.int .i64 60], .tuple #[.agg #[bs [118, 105, 97], bs [], .bool false], .bool true]⟩,
  ⟨109, [.int .i64 61], .tuple #[.agg #[bs [119, 119, 119, 45, 97, 117, 116, 104, 101, 110, 116, 105, 99, 97, 116, 101], bs [], .bool false], .bool true]⟩]
def memo2a : List Memo := [
  ⟨131, [bs [58, 109, 101, 116, 104, 111, 100], bs [71, 69, 84]], .tuple #[.int .i64 2, .bool true]⟩,
  ⟨131, [bs [58, 115, 99, 104, 101, 109, 101], bs [104, 116, 116, 112]], .tuple #[.int .i64 6, .bool true]⟩,
  ⟨131, [bs [58, 112, 97, 116, 104], bs [47]], .tuple #[.int .i64 4, .bool true]⟩,
  ⟨131, [bs [65], bs [98]], .tuple #[.int .i64 0, .bool false]⟩,
  ⟨131, [bs [99, 111, 110, 110, 101, 99, 116, 105, 111, 110], bs [99, 108, 111, 115, 101]], .tuple #[.int .i64 0, .bool false]⟩,
  ⟨131, [bs [65], bs []], .tuple #[.int .i64 0, .bool false]⟩,
  ⟨131, [bs [99, 111, 110, 110, 101, 99, 116, 105, 111, 110], bs []], .tuple #[.int .i64 0, .bool false]⟩]
def memo2b : List Memo := [
  ⟨107, [bs [58, 109, 101, 116, 104, 111, 100], bs [71, 69, 84]], .tuple #[.int .i64 2, .bool true]⟩,
  ⟨107, [bs [58, 115, 99, 104, 101, 109, 101], bs [104, 116, 116, 112]], .tuple #[.int .i64 6, .bool true]⟩,
  ⟨107, [bs [58, 112, 97, 116, 104], bs [47]], .tuple #[.int .i64 4, .bool true]⟩,
  ⟨107, [bs [65], bs [98]], .tuple #[.int .i64 0, .bool false]⟩,
  ⟨107, [bs [99, 111, 110, 110, 101, 99, 116, 105, 111, 110], bs [99, 108, 111, 115, 101]], .tuple #[.int .i64 0, .bool false]⟩,
  ⟨107, [bs [65], bs []], .tuple #[.int .i64 0, .bool false]⟩,
  ⟨107, [bs [99, 111, 110, 110, 101, 99, 116, 105, 111, 110], bs []], .tuple #[.int .i64 0, .bool false]⟩]
def memo2c : List Memo := [
  ⟨12, [.int .i64 1], bs [112, 97, 100]⟩,
  ⟨12, [.int .i64 2], bs [112, 105, 110, 103, 55]⟩,
  ⟨12, [.int .i64 3], bs [112, 105, 110, 103, 111, 110]⟩,
  ⟨12, [.int .i64 4], bs [115, 101, 116, 115, 111, 110]⟩,
  ⟨12, [.int .i64 5], bs [97, 99, 107, 98, 111, 100, 121]⟩,
  ⟨12, [.int .i64 6], bs [115, 101, 116, 115, 53]⟩]
def memo2d : List Memo := [
  ⟨12, [.int .i64 7], bs [115, 116, 101, 112, 48]⟩,
  ⟨12, [.int .i64 8], bs [111, 118, 101, 114]⟩,
  ⟨12, [.int .i64 9], bs [100, 97, 116, 97, 105, 100, 108, 101]⟩,
  ⟨12, [.int .i64 10], bs [114, 115, 116, 105, 100, 108, 101]⟩,
  ⟨12, [.int .i64 11], bs [97, 108, 111, 110, 101]⟩,
  ⟨12, [.int .i64 12], bs [112, 114, 105, 111, 52]⟩,
  ⟨12, [.int .i64 13], bs [97, 119, 97, 121, 55]⟩]
def memo2e : List Memo := [
  ⟨12, [.int .i64 14], bs [112, 117, 115, 104]⟩,
  ⟨12, [.int .i64 15], bs [108, 111, 110, 103]⟩,
  ⟨12, [.int .i64 16], bs [116, 97, 98, 108, 101]⟩,
  ⟨12, [.int .i64 17], bs [117, 112, 100, 97, 116, 101]⟩,
  ⟨12, [.int .i64 18], bs [117, 112, 112, 101, 114]⟩,
  ⟨12, [.int .i64 19], bs [98, 97, 114, 114, 101, 100]⟩,
  ⟨12, [.int .i64 20], bs [110, 111, 112, 97, 116, 104]⟩]
def memo2f : List Memo := [
  ⟨12, [.int .i64 21], bs [119, 105, 116, 104, 105, 110]⟩,
  ⟨12, [.int .i64 22], bs [112, 117, 115, 104, 50]⟩,
  ⟨12, [.int .i64 23], bs [102, 114, 97, 109, 101, 48]⟩,
  ⟨12, [.int .i64 24], bs [119, 105, 110, 100, 111, 119]⟩,
  ⟨12, [.int .i64 25], bs [114, 115, 116, 48]⟩,
  ⟨12, [.int .i64 26], bs [97, 99, 107]⟩]
def memo2 : List Memo := memo2a ++ (memo2b ++ (memo2c ++ (memo2d ++ (memo2e ++ memo2f))))
def memo3 : List Memo := [
  ⟨9, [], .bool true⟩]

noncomputable def E1 : Env := withMemo E0 memo1
noncomputable def E2 : Env := withMemo E1 memo2
noncomputable def E3 : Env := withMemo E2 memo3
end Go.Proofs.YtmggogbpepghkaaGreatDoor
