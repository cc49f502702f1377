/- InjectBreaks holds, card and all: whatever the kind, the stream and the side are, part 1. -/
import Derived.Test.YtmggogbpepghkacGreatDoorWalk
import Derived.Test.YtmggogbpepghkacGreatDoorCards
import Derived.Test.YtmggogbpepghkacGreatDoorTie
import Derived.WalkKit
import Derived.ProofKit
import Derived.OpenShut
import Derived.Deep.DeepHandedRow
import Derived.Lib.LaidTab

namespace Go.Proofs.YtmggogbpepghkacGreatDoor
open Go.ChangeShapes Go.WideShapes Go.ChangeAt Go.RowKit Go.Sx

theorem own : ownKnob Tryz.prog.godebug = none := by kernel_rfl

theorem rules_cells : dataCells Tryz.prog 5 73 (Rows.laid_stickler_inject_rules : DataW Unit) = some (tab [5, 5, 5, 5, 5, 5, 17, 18, 10, 10, 4, 5, 5, 22, 3, 25, 26, 28, 29, 30, 4, 6, 6, 6, 5, 7]) := by kernel_rfl
theorem forms_cells : dataCells Tryz.prog 5 257 (Rows.laid_stickler_repr_forms : DataW Unit) = some (tab [0, 0, 128, 7, 64, 6, 0, 4, 16, 4, 32, 5]) := by kernel_rfl

/-- What the row's list gives. -/
theorem globs {W : World} (h : laidMetH Tryz.prog Rows.injectBreaksRow.laid W) : GlobOK E4 W.heap.size W := by
  have h' : laidMet Tryz.prog Rows.injectBreaksRow.laid W := h
  intro g vs hg
  have hg' : (bif Nat.beq g 0 then some (tab [5, 5, 5, 5, 5, 5, 17, 18, 10, 10, 4, 5, 5, 22, 3, 25, 26, 28, 29, 30, 4, 6, 6, 6, 5, 7]) else
    bif Nat.beq g 1 then some (tab [0, 0, 128, 7, 64, 6, 0, 4, 16, 4, 32, 5]) else none) = some vs := hg
  cases h0 : Nat.beq g 0 with
  | true =>
    rw [h0, cond_true] at hg'
    cases hg'
    have := Nat.eq_of_beq_eq_true h0
    subst this
    exact table_at h' (name := "stickler/inject.rules") (.tail _ (.tail _ (.head _))) (by kernel_rfl) (by kernel_rfl) rules_cells
  | false =>
    rw [h0, cond_false] at hg'
    cases h1 : Nat.beq g 1 with
    | true =>
      rw [h1, cond_true] at hg'
      cases hg'
      have := Nat.eq_of_beq_eq_true h1
      subst this
      exact table_at h' (name := "stickler/repr.forms") (.tail _ (.head _)) (by kernel_rfl) (by kernel_rfl) forms_cells
    | false => rw [h1] at hg'; cases hg'

set_option maxRecDepth 100000 in
/-- For every argument and every world that holds the tables. -/
theorem contract (H : Type) (enc : TypeId × Value → H) (W : World) (base : Nat) (args : Array Value) (ds gs : List (DataW H)) (before : List MemPlace)
    (hval : ∀ (j : Nat) t v, Tryz.f3.params[j]? = some t → args[j]? = some v → Value.okWide Tryz.prog W .any base t v)
    (hW : DataW.Whole enc Tryz.prog Tryz.f3.params.toList Rows.injectBreaksSpec.vars false W args.toList ds gs before) (hL : laidMetH Tryz.prog Rows.injectBreaksRow.laid W) :
    Calls Tryz.prog 3 args W fun e W' => ∃ v, e = .returned v ∧ Rows.injectBreaksSpec.post enc Tryz.prog Tryz.f3 false true false false W args v W' := by
  have hW' := hW
  obtain ⟨p, q, hA0, hV, rfl, hfz, hnd⟩ := hW
  have hA : DataW.TrodAll enc Tryz.prog W 0 (fun _ => true) true Tryz.f3.params.toList args.toList ds p := hA0
  rw [Tryz.params3] at hA hval
  obtain ⟨v0, vs0, d0, ds0, p0, q0, hargs0, rfl, rfl, h0, r0⟩ := trodAll_cons hA
  obtain ⟨v1, vs1, d1, ds1, p1, q1, rfl, rfl, rfl, h1, r1⟩ := trodAll_cons r0
  obtain ⟨v2, vs2, d2, ds2, p2, q2, rfl, rfl, rfl, h2, r2⟩ := trodAll_cons r1
  obtain ⟨rfl, rfl, rfl⟩ := trodAll_nil r2
  obtain rfl : args = #[v0, v1, v2] := by cases args; simp_all
  obtain ⟨rfl, rfl⟩ := trodVars_none hV
  obtain ⟨k, rfl, rfl, rfl, w0⟩ := open_int Tryz.underlying3 (hval 0 3 v0 rfl rfl) h0
  obtain ⟨s, rfl, rfl, rfl, w1⟩ := open_int Tryz.underlying3 (hval 1 3 v1 rfl rfl) h1
  obtain ⟨d, rfl, rfl, rfl, w2⟩ := open_int Tryz.underlying3 (hval 2 3 v2 rfl rfl) h2
  clear hA0
  simp only [List.append_nil] at hW'
  refine (walk k s d W (globs hL)).mono fun e W' ⟨he, hg⟩ => ?_
  subst he
  refine ⟨_, rfl, _, _, _, [], [], [], hW', ?_, ?_, rfl, hg.frame _, fun h => by cases h⟩
  · exact trodAll_cons_mk (shut_bool Tryz.underlying4 _) trodAll_mk0
  · exact trodAll_cons_mk (shut_int Tryz.underlying3 w0) (trodAll_cons_mk (shut_int Tryz.underlying3 w1) (trodAll_cons_mk (shut_int Tryz.underlying3 w2) trodAll_mk0))

end Go.Proofs.YtmggogbpepghkacGreatDoor
