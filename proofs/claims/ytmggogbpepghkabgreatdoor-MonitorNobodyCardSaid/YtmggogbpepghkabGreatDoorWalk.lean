/- MonitorNobody: the walk: whatever the frame and the side are, the statement's function returns true. -/
import Derived.Test.YtmggogbpepghkabGreatDoorMemo
import Derived.Test.YtmggogbpepghkabGreatDoorRuns

namespace Go.Proofs.YtmggogbpepghkabGreatDoor
open Go.Sx Go.RowKit
set_option maxRecDepth 1000000

/-- What is unknown. -/
def val (a b c d s m : Int) (r : Bool) (l : Value) : Val := { i := fun | 1 => a | 2 => b | 3 => c | 4 => d | 5 => s | _ => m, b := fun _ => true, x := fun | 0 => l | _ => .bool r }

theorem ext0_ok (vs : List Value) (u : Value) (f : Nat) (h : List Value → Option Value) (hf : ext0 f = some h) (hu : h vs = some u) (w : World) : (callFunc f vs.toArray).run Tryz.prog w = .ok (.value u) w := by
  unfold ext0 at hf
  cases h1 : Nat.beq f 297 with
  | true =>
    rw [h1, cond_true] at hf
    cases hf
    have := Nat.eq_of_beq_eq_true h1
    subst this
    exact run_extern (fn := Tryz.f297) (e := Extern.BytealgCount.count) Tryz.func297 (by kernel_rfl) (by kernel_rfl) (by kernel_rfl) (by kernel_rfl) (fun w => pureRun_ok _ _ hu w) w
  | false =>
    rw [h1, cond_false] at hf
    cases h2 : Nat.beq f 306 with
    | true =>
      rw [h2, cond_true] at hf
      cases hf
      have := Nat.eq_of_beq_eq_true h2
      subst this
      exact run_extern (fn := Tryz.f306) (e := Extern.BytealgIndexByte.indexByte) Tryz.func306 (by kernel_rfl) (by kernel_rfl) (by kernel_rfl) (by kernel_rfl) (fun w => pureRun_ok _ _ hu w) w
    | false => rw [h2] at hf; cases hf

theorem law1 {a b c d s : Int} {m k : Nat} {r : Bool} {p : Option Addr} {asm : List (BE × Bool)} (hasm : asmOK (val a b c d s m r (.slice p m k)) asm) : LawA E1 (val a b c d s m r (.slice p m k)) [] asm :=
  LawA.memo ⟨⟨fun i => by cases i <;> rfl, fun i e h => by
    have h' : (bif Nat.beq i 0 then some (IE.v 100) else none) = some e := h
    cases h0 : Nat.beq i 0 with
    | false => rw [h0] at h'; cases h'
    | true =>
      rw [h0, cond_true] at h'
      cases h'
      have := Nat.eq_of_beq_eq_true h0
      subst this
      exact ⟨p, m, k, rfl, rfl⟩, fun _ hp => by cases hp⟩, hasm, fun B => ⟨fun f h hf vs u hu w _ _ => .inl (ext0_ok vs u f h hf hu w), fun f h hf => by cases hf⟩, by kernel_rfl⟩ memo1_ok

theorem walk (a b c d s : Int) (r : Bool) (p : Option Addr) (m k : Nat) (W : World) (hG : GlobOK E1 W.heap.size W) :
    Calls Tryz.prog 3 #[.agg #[.int .i64 a, .int .i64 b, .int .i64 c, .int .i64 d, .bool r, .slice p m k], .int .i64 s] W fun e w' => e = .returned (.bool true) ∧ Below W.heap.size W w' := by
  have ha : F2 (EV.D (fun _ => none) (val a b c d s m r (.slice p m k))) [frame, side] [.agg #[.int .i64 a, .int .i64 b, .int .i64 c, .int .i64 d, .bool r, .slice p m k], .int .i64 s] := by
    refine .cons ⟨_, ?_, rfl⟩ (.cons rfl .nil)
    exact .cons rfl (.cons rfl (.cons rfl (.cons rfl (.cons rfl (.cons rfl .nil)))))
  by_cases h : (1000 : Int) < m
  · refine (law1 (asm := [(.cmp .gtr (.v 100) (.k 1000), true)]) ?_).true_ hG run_long ha
    simp only [asmOK, List.forall_mem_cons, List.not_mem_nil, false_implies, implies_true, and_true, BE.den, Go.Sx.compare, IE.den, val]
    simpa using h
  · refine (law1 (asm := [(.cmp .gtr (.v 100) (.k 1000), false)]) ?_).true_ hG run_short ha
    simp only [asmOK, List.forall_mem_cons, List.not_mem_nil, false_implies, implies_true, and_true, BE.den, Go.Sx.compare, IE.den, val]
    simpa using h
end Go.Proofs.YtmggogbpepghkabGreatDoor
