/- MonitorNobody holds, card and all: whatever the frame and the side are, part 1. -/
import Derived.Test.YtmggogbpepghkabGreatDoorWalk
import Derived.Test.YtmggogbpepghkabGreatDoorLaid
import Derived.Test.YtmggogbpepghkabGreatDoorCards
import Derived.Test.YtmggogbpepghkabGreatDoorTie
import Derived.WalkKit
import Derived.ProofKit
import Derived.OpenShut
import Derived.Deep.DeepHandedRow
import Derived.Lib.LaidTab
import Derived.Lib.SmallJoins
import Derived.Carry

namespace Go.Proofs.YtmggogbpepghkabGreatDoor
open Go.Joins Go.ChangeShapes Go.WideShapes Go.ChangeAt Go.RowKit Go.Deep Go.Sx

theorem own : ownKnob Tryz.prog.godebug = none := by kernel_rfl

theorem forms_cells : dataCells Tryz.prog 5 235 (Rows.laid_stickler_repr_forms : DataW Unit) = some (tab [0, 0, 128, 7, 64, 6, 0, 4, 16, 4, 32, 5]) := by kernel_rfl

/-- What the row's list gives. -/
theorem globs {W : World} (h : laidMetH Tryz.prog Rows.monitorNobodyRow.laid W) : GlobOK E1 W.heap.size W := by
  have h' : laidMet Tryz.prog Rows.monitorNobodyRow.laid W := h
  intro g vs hg
  have hg' : (bif Nat.beq g 0 then some (tab [0, 0, 128, 7, 64, 6, 0, 4, 16, 4, 32, 5]) else none) = some vs := hg
  cases h0 : Nat.beq g 0 with
  | true =>
    rw [h0, cond_true] at hg'
    cases hg'
    have := Nat.eq_of_beq_eq_true h0
    subst this
    exact table_at h' (name := "stickler/repr.forms") (.tail _ (.head _)) (by kernel_rfl) (by kernel_rfl) forms_cells
  | false => rw [h0] at hg'; cases hg'

/-! ### A struct of six fields (turned from the guide's block on structs) -/
section
variable {H : Type} {enc : TypeId × Value → H} {P : Program} {w : World} {base : Nat} {spare : Nat → Bool} {held : Bool}
theorem open_agg6 {r : Reach} {b0 : Nat} {t : TypeId} {f0 f1 f2 f3 f4 f5 : Field} {v : Value} {d : DataW H} {p : List MemPlace} (hs : P.underlying t = some (.struct #[f0, f1, f2, f3, f4, f5])) (hone : oneCellFields P #[f0, f1, f2, f3, f4, f5] = true) (hC : P.cellsOf t = 6)
    (hv : Value.okWide P w r b0 t v) (h : DataW.Trod enc P w base spare held t v d p) :
    ∃ (v0 v1 v2 v3 v4 v5 : Value) (y0 y1 y2 y3 y4 y5 : DataW H × List MemPlace) (n : Nat), v = .agg #[v0, v1, v2, v3, v4, v5] ∧ d = .agg [y0.1, y1.1, y2.1, y3.1, y4.1, y5.1] ∧ p = y0.2 ++ (y1.2 ++ (y2.2 ++ (y3.2 ++ (y4.2 ++ y5.2)))) ∧
      DataW.trod enc P w base spare held n f0.type [v0] = some y0 ∧ DataW.trod enc P w base spare held n f1.type [v1] = some y1 ∧ DataW.trod enc P w base spare held n f2.type [v2] = some y2 ∧ DataW.trod enc P w base spare held n f3.type [v3] = some y3 ∧ DataW.trod enc P w base spare held n f4.type [v4] = some y4 ∧ DataW.trod enc P w base spare held n f5.type [v5] = some y5 := by
  obtain ⟨cs, rfl, hsz⟩ := okWide_struct hs hv
  obtain ⟨l⟩ := cs
  match l, hsz.trans hC with
  | [c0, c1, c2, c3, c4, c5], _ =>
    obtain ⟨fuel, hf⟩ := h
    obtain ⟨xs, n, _, hx, _, hlen, hg⟩ := DataW.trod_struct hs hf
    obtain ⟨o0, k0⟩ := hone_of hone 0 f0 rfl
    obtain ⟨o1, k1⟩ := hone_of hone 1 f1 rfl
    obtain ⟨o2, k2⟩ := hone_of hone 2 f2 rfl
    obtain ⟨o3, k3⟩ := hone_of hone 3 f3 rfl
    obtain ⟨o4, k4⟩ := hone_of hone 4 f4 rfl
    obtain ⟨o5, k5⟩ := hone_of hone 5 f5 rfl
    match xs, hlen with
    | [y0, y1, y2, y3, y4, y5], _ =>
      simp only [Prod.mk.injEq] at hx
      exact ⟨c0, c1, c2, c3, c4, c5, y0, y1, y2, y3, y4, y5, n, rfl, by simpa using hx.1, by simpa using hx.2, by simpa [Value.cells, o0, k0] using hg 0 f0 rfl, by simpa [Value.cells, o1, k1] using hg 1 f1 rfl, by simpa [Value.cells, o2, k2] using hg 2 f2 rfl, by simpa [Value.cells, o3, k3] using hg 3 f3 rfl, by simpa [Value.cells, o4, k4] using hg 4 f4 rfl, by simpa [Value.cells, o5, k5] using hg 5 f5 rfl⟩
end
set_option maxRecDepth 100000 in
/-- For every argument and every world that holds the tables. -/
theorem contract (H : Type) (enc : TypeId × Value → H) (W : World) (base : Nat) (args : Array Value) (ds gs : List (DataW H)) (before : List MemPlace)
    (hval : ∀ (j : Nat) t v, Tryz.f3.params[j]? = some t → args[j]? = some v → Value.okWide Tryz.prog W .any base t v)
    (hW : DataW.Whole enc Tryz.prog Tryz.f3.params.toList Rows.monitorNobodySpec.vars false W args.toList ds gs before) (hL : laidMetH Tryz.prog Rows.monitorNobodyRow.laid W) :
    Calls Tryz.prog 3 args W fun e W' => ∃ v, e = .returned v ∧ Rows.monitorNobodySpec.post enc Tryz.prog Tryz.f3 false true false false W args v W' := by
  have hW' := hW
  obtain ⟨p, q, hA0, hV, rfl, hfz, hnd⟩ := hW
  have hA : DataW.TrodAll enc Tryz.prog W 0 (fun _ => true) true Tryz.f3.params.toList args.toList ds p := hA0
  rw [Tryz.params3] at hA hval
  obtain ⟨v0, vs0, d0, ds0, p0, q0, hargs0, rfl, rfl, h0, r0⟩ := trodAll_cons hA
  obtain ⟨v1, vs1, d1, ds1, p1, q1, rfl, rfl, rfl, h1, r1⟩ := trodAll_cons r0
  obtain ⟨rfl, rfl, rfl⟩ := trodAll_nil r1
  obtain rfl : args = #[v0, v1] := by cases args; simp_all
  obtain ⟨rfl, rfl⟩ := trodVars_none hV
  obtain ⟨s, rfl, rfl, rfl, ws⟩ := open_int Tryz.underlying3 (hval 1 3 v1 rfl rfl) h1
  have h0' := h0
  obtain ⟨u0, u1, u2, u3, u4, u5, y0, y1, y2, y3, y4, y5, n, rfl, rfl, rfl, t0, t1, t2, t3, t4, t5⟩ := open_agg6 Tryz.underlying24 (by kernel_rfl) (by kernel_rfl) (hval 0 24 v0 rfl rfl) h0
  obtain ⟨a, e0, -, -⟩ := DataW.trod_int Tryz.underlying3 t0
  obtain ⟨b, e1, -, -⟩ := DataW.trod_int Tryz.underlying3 t1
  obtain ⟨c, e2, -, -⟩ := DataW.trod_int Tryz.underlying3 t2
  obtain ⟨d, e3, -, -⟩ := DataW.trod_int Tryz.underlying3 t3
  obtain ⟨r, e4, -⟩ := DataW.trod_bool Tryz.underlying4 t4
  have e5 : ∃ (p : Option Addr) (m k : Nat), u5 = .slice p m k := by
    rcases DataW.trod_slice Tryz.underlying22 t5 with ⟨e, -⟩ | ⟨a, len, cap, _, _, _, -, e, -⟩
    · exact ⟨none, 0, 0, by simpa using e⟩
    · exact ⟨some a, len, cap, by simpa using e⟩
  obtain ⟨p, m, k, rfl⟩ := e5
  obtain rfl : u0 = .int .i64 a := by simpa using e0
  obtain rfl : u1 = .int .i64 b := by simpa using e1
  obtain rfl : u2 = .int .i64 c := by simpa using e2
  obtain rfl : u3 = .int .i64 d := by simpa using e3
  obtain rfl : u4 = .bool r := by simpa using e4
  clear hA0
  simp only [List.append_nil] at hW'
  refine (walk a b c d s r p m k W (globs hL)).mono fun e W' ⟨he, hg⟩ => ?_
  subst he
  refine ⟨_, rfl, _, _, _, [], (y0.2 ++ (y1.2 ++ (y2.2 ++ (y3.2 ++ (y4.2 ++ y5.2))))) ++ ([] ++ []), [], hW', ?_, ?_, rfl, hg.frame _, fun h => by cases h⟩
  · exact trodAll_cons_mk (shut_bool Tryz.underlying4 _) trodAll_mk0
  · exact trodAll_cons_mk (Below.trod laidOut (by kernel_rfl) (of_decide_eq_true (by kernel_rfl)) h0' hg (fun x hx => by simpa using hW'.lt x (by simpa using hx))) (trodAll_cons_mk (shut_int Tryz.underlying3 ws) trodAll_mk0)

end Go.Proofs.YtmggogbpepghkabGreatDoor
