/- InjectFrames holds, card and all: whatever the kind, the stream and the side are. -/
import Derived.Test.YtmggogbpepghkaaGreatDoorWalk
import Derived.Test.YtmggogbpepghkaaGreatDoorCards
import Derived.Test.YtmggogbpepghkaaGreatDoorTie
import Derived.WalkKit
import Derived.ProofKit
import Derived.OpenShut
import Derived.Deep.DeepHandedRow
import Derived.Lib.LaidTab

namespace Go.Proofs.YtmggogbpepghkaaGreatDoor
open Go.ChangeShapes Go.WideShapes Go.ChangeAt Go.RowKit Go.Sx

theorem own : ownKnob Tryz.prog.godebug = none := by kernel_rfl

theorem rules_cells : dataCells Tryz.prog 5 48 (Rows.laid_stickler_inject_rules : DataW Unit) = some (tab [5, 5, 5, 5, 5, 5, 17, 18, 10, 10, 4, 5, 5, 22, 3, 25, 26, 28, 29, 30, 4, 6, 6, 6, 5, 7]) := by kernel_rfl
theorem forms_cells : dataCells Tryz.prog 5 118 (Rows.laid_stickler_repr_forms : DataW Unit) = some (tab [0, 0, 128, 7, 64, 6, 0, 4, 16, 4, 32, 5]) := by kernel_rfl

/-- What the row's list gives. -/
theorem globs {W : World} (h : laidMetH Tryz.prog Rows.injectFramesRow.laid W) : GlobOK E3 W.heap.size W := by
  have h' : laidMet Tryz.prog Rows.injectFramesRow.laid W := h
  intro g vs hg
  have hg' : (bif Nat.beq g 0 then some (tab [5, 5, 5, 5, 5, 5, 17, 18, 10, 10, 4, 5, 5, 22, 3, 25, 26, 28, 29, 30, 4, 6, 6, 6, 5, 7]) else
    bif Nat.beq g 1 then some (tab [0, 0, 128, 7, 64, 6, 0, 4, 16, 4, 32, 5]) else none) = some vs := hg
  cases h0 : Nat.beq g 0 with
  | true =>
    rw [h0, cond_true] at hg'
    cases hg'
    have := Nat.eq_of_beq_eq_true h0
    subst this
    exact table_at h' (name := "stickler/inject.rules") (.tail _ (.tail _ (.head _))) (by kernel_rfl) (by kernel_rfl) rules_cells
  | false =>
    rw [h0, cond_false] at hg'
    cases h1 : Nat.beq g 1 with
    | true =>
      rw [h1, cond_true] at hg'
      cases hg'
      have := Nat.eq_of_beq_eq_true h1
      subst this
      exact table_at h' (name := "stickler/repr.forms") (.tail _ (.head _)) (by kernel_rfl) (by kernel_rfl) forms_cells
    | false => rw [h1] at hg'; cases hg'

set_option maxRecDepth 100000 in
/-- For every argument and every world that holds the tables. -/
theorem contract (H : Type) (enc : TypeId × Value → H) (W : World) (base : Nat) (args : Array Value) (ds gs : List (DataW H)) (before : List MemPlace)
    (hval : ∀ (j : Nat) t v, Tryz.f3.params[j]? = some t → args[j]? = some v → Value.okWide Tryz.prog W .any base t v)
    (hW : DataW.Whole enc Tryz.prog Tryz.f3.params.toList Rows.injectFramesSpec.vars false W args.toList ds gs before) (hL : laidMetH Tryz.prog Rows.injectFramesRow.laid W) :
    Calls Tryz.prog 3 args W fun e W' => ∃ v, e = .returned v ∧ Rows.injectFramesSpec.post enc Tryz.prog Tryz.f3 false true false false W args v W' := by
  have hW' := hW
  obtain ⟨p, q, hA0, hV, rfl, hfz, hnd⟩ := hW
  have hA : DataW.TrodAll enc Tryz.prog W 0 (fun _ => true) true Tryz.f3.params.toList args.toList ds p := hA0
  rw [Tryz.params3] at hA hval
  obtain ⟨v0, vs0, d0, ds0, p0, q0, hargs0, rfl, rfl, h0, r0⟩ := trodAll_cons hA
  obtain ⟨v1, vs1, d1, ds1, p1, q1, rfl, rfl, rfl, h1, r1⟩ := trodAll_cons r0
  obtain ⟨v2, vs2, d2, ds2, p2, q2, rfl, rfl, rfl, h2, r2⟩ := trodAll_cons r1
  obtain ⟨rfl, rfl, rfl⟩ := trodAll_nil r2
  obtain rfl : args = #[v0, v1, v2] := by cases args; simp_all
  obtain ⟨rfl, rfl⟩ := trodVars_none hV
  obtain ⟨k, rfl, rfl, rfl, w0⟩ := open_int Tryz.underlying3 (hval 0 3 v0 rfl rfl) h0
  obtain ⟨s, rfl, rfl, rfl, w1⟩ := open_int Tryz.underlying3 (hval 1 3 v1 rfl rfl) h1
  obtain ⟨d, rfl, rfl, rfl, w2⟩ := open_int Tryz.underlying3 (hval 2 3 v2 rfl rfl) h2
  clear hA0
  simp only [List.append_nil] at hW'
  refine (walk k s d W (globs hL)).mono fun e W' ⟨he, hg⟩ => ?_
  subst he
  refine ⟨_, rfl, _, _, _, [], [], [], hW', ?_, ?_, rfl, hg.frame _, fun h => by cases h⟩
  · exact trodAll_cons_mk (shut_bool Tryz.underlying4 _) trodAll_mk0
  · exact trodAll_cons_mk (shut_int Tryz.underlying3 w0) (trodAll_cons_mk (shut_int Tryz.underlying3 w1) (trodAll_cons_mk (shut_int Tryz.underlying3 w2) trodAll_mk0))

/-- The tables' cells, as the row's list has them. -/
noncomputable def cellsFor (t : TypeId) (d : DataW Unit) : Array Value := ((dataCells Tryz.prog 10 t d).getD []).toArray
noncomputable def lay (h : Array Obj) (g : Nat) (cs : Array Value) : Array Obj := h.modify g fun
  | .cells _ t frozen => .cells cs t frozen
  | o => o
/-- A world for the witness: the settled one, with the tables as their initialisers lay them. -/
noncomputable def laidWorld (os : Os) : World :=
  { World.holding Tryz.prog os ⟨#[], #[], []⟩ with heap := lay (lay (lay (lay (World.holding Tryz.prog os ⟨#[], #[], []⟩).heap 0 (cellsFor 48 Rows.laid_stickler_inject_rules)) 1 (cellsFor 118 Rows.laid_stickler_repr_forms)) 3 (cellsFor 169 Rows.laid_unicode_utf8_first)) 4 (cellsFor 172 Rows.laid_unicode_utf8_acceptRanges) }
def wargs : Array Value := #[.int .i64 0, .int .i64 0, .int .i64 0]
theorem laid_met (os : Os) : laidMet Tryz.prog Rows.injectFramesRow.laid ((laidWorld os).forCall (fun _ _ => 0) ⟨#[], wargs, []⟩).memory :=
  laidMet_of_run' 8 (by kernel_rfl) (by kernel_rfl)
theorem reads (os : Os) {H : Type} (enc : TypeId × Value → H) : ∃ places, DataW.whole enc Tryz.prog ((laidWorld os).forCall (fun _ _ => 0) ⟨#[], wargs, []⟩).memory Tryz.f3.params.toList Rows.injectFramesSpec.vars false wargs.toList 8 = some ([.lit (.int .i64 0), .lit (.int .i64 0), .lit (.int .i64 0)], [], places) :=
  ⟨[], by kernel_rfl⟩

set_option maxRecDepth 100000 in
theorem lifted (os : Os) (started : os.Started) (H : Type) (enc : TypeId × Value → H) (F : Stop.Interp) :
    ReturnsInHanded {} Tryz.checked os 3 .any ((OpenSpec.ofChange Rows.injectFramesSpec).preRow enc Tryz.prog Tryz.f3 Rows.injectFramesRow.domain false Rows.injectFramesRow.laid) (((OpenSpec.ofChange Rows.injectFramesSpec).at F).post enc Tryz.prog Tryz.f3 false true false false) := by
  obtain ⟨places, hx⟩ := reads os enc
  refine returnsInHanded_of_row (C := Tryz.checked) (s := OpenSpec.ofChange Rows.injectFramesSpec) own started (by kernel_rfl) Tryz.func3
    (witness_row_at (enc := enc) (C := Tryz.checked) false (laidWorld os) wargs rfl (by kernel_rfl) (by kernel_rfl) (by kernel_rfl)
      (OpenSpec.preRow_of_cond 8 hx (by kernel_rfl) (fun k hk => by cases hk) (by kernel_rfl) (laid_met os))) ?_
  intro W base args ds gs before hval hW _ _ _ hL _ _
  exact contract H enc W base args ds gs before hval hW hL

theorem said : Rows.InjectFramesSaid :=
  OpenClaim.holds_of_cond 3 Tryz.f3 rfl rfl rfl rfl rfl rfl rfl ⟨rfl, rfl, rfl, rfl, rfl⟩ rfl rfl rfl rfl rfl (by kernel_rfl) Tryz.func3 (by kernel_rfl)
    (of_decide_eq_true (by kernel_rfl)) (by unfold Func.isWrapper; first | (rw [if_pos (by decide +kernel)]; kernel_rfl) | (rw [if_neg (by decide +kernel)]; exact ⟨rfl, rfl⟩))
    (fun os started H enc _ F => by rw [OpenClaim.pre_eq_preRow]; exact lifted os started H enc F)

theorem plain (f : FuncId) (fn : Func) (hf : Tryz.pinned.checked.prog.funcNamed "stickler/sticklerlaw46.InjectFrames" = some f) (hfn : Tryz.pinned.checked.prog.funcs[f]? = some fn) :
    false = Tryz.pinned.checked.prog.looks [] ∧ ∀ (j : Nat) t, fn.params[j]? = some t → Tryz.pinned.checked.prog.wantsStandIn t = false := by
  obtain rfl : f = 3 := Option.some.inj ((show Tryz.prog.funcNamed "stickler/sticklerlaw46.InjectFrames" = some 3 by kernel_rfl).symm.trans hf) |>.symm
  obtain rfl : fn = Tryz.f3 := (Option.some.inj (Tryz.func3.symm.trans hfn)).symm
  refine ⟨by kernel_rfl, fun j t ht => ?_⟩
  rw [Tryz.params3] at ht
  obtain rfl : t = 3 := by simpa using Array.mem_of_getElem? ht
  exact (show Tryz.prog.wantsStandIn 3 = false by kernel_rfl)

/-- The card. -/
theorem card : Rows.InjectFramesCardSaid :=
  Claim7.holds_tied_plain_at .later [] _ _ _ _ said (fun _ h => by cases h) (by kernel_rfl) (fun _ h => by cases h) injectFrames_row_tie rfl ⟨rfl, rfl⟩ (by kernel_rfl) rfl plain (by kernel_rfl)
end Go.Proofs.YtmggogbpepghkaaGreatDoor
