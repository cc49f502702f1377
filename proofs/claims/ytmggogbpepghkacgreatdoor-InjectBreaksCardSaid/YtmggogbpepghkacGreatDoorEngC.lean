/- The symbolic evaluator: the state of a frame, the effect of one operation, calls. -/
import Derived.Test.YtmggogbpepghkacGreatDoorEngB
import Derived.Scope
import Derived.LaidSub
import Derived.Lib.LaidTab

namespace Go.Sx
open RowKit (Below)
variable {E : Env} {P : Program} {ρ : Val} {B : Nat} {β γ : Bind} {H : Tr Blk} {n : Nat} {w w' : World} {T : Tmps} {N : Nat} {a : Act}

/-- The temporaries are as they are said to be. -/
structure ST (β : Bind) (ρ : Val) (N : Nat) (T : Tmps) (a : Act) : Prop where
  size : a.tmps.size = N
  at_ : ∀ d t, T.get d = some t → ∃ u, a.tmps[d]? = some u ∧ t.D β ρ u
  defers : a.defers = []

theorem ST.mono (h : ST β ρ N T a) (hl : β.le γ) : ST γ ρ N T a :=
  ⟨h.size, fun d t hd => let ⟨u, h1, h2⟩ := h.at_ d t hd; ⟨u, h1, TV.D_mono hl _ _ h2⟩, h.defers⟩
theorem ST.ev (h : ST β ρ N T a) : EvOK β ρ T a.eval := by
  intro x t hx
  cases x with
  | tmp d =>
    obtain ⟨u, h1, h2⟩ := h.at_ d t hx
    simp only [Act.eval, Array.getD_eq_getD_getElem?, h1, Option.getD_some]; exact h2
  | const v => cases hx; exact ofV_TV v
  | global g => cases hx; exact rfl
  | func g => cases hx; exact ⟨[], [], .nil, .nil, rfl⟩
theorem ST.put (h : ST β ρ N T a) {dst : Option Nat} {v : TV} {u : Value} (hd : dstOk N dst = true) (hv : v.D β ρ u) : ST β ρ N (putT T dst v) (a.put dst u) := by
  cases dst with
  | none => exact h
  | some d =>
    have hlt : d < N := by
      simp only [dstOk] at hd
      exact Nat.lt_of_lt_of_le (Nat.lt_succ_self d) (Nat.le_of_ble_eq_true hd)
    refine ⟨by simp [Act.put, h.size], fun e t he => ?_, by simp [Act.put, h.defers]⟩
    simp only [putT, Tr.get_set] at he
    by_cases hde : e = d
    · subst hde
      rw [if_pos rfl] at he; cases he
      exact ⟨u, by simp [Act.put, h.size, hlt], hv⟩
    · rw [if_neg hde] at he
      obtain ⟨x, h1, h2⟩ := h.at_ e t he
      exact ⟨x, by simp only [Act.put]; rw [Array.getElem?_setIfInBounds_ne (Ne.symm hde)]; exact h1, h2⟩
theorem wanted_ok {ops : Array Oper} (h : ∀ d t, T.get d = some t → ∃ u, a.tmps[d]? = some u ∧ t.D β ρ u) {o : Oper} {b : Bool} (hb : wantedB ops T o = some b) : Region.wanted o (yielded ops a.tmps) = b := by
  unfold wantedB at hb
  unfold Region.wanted
  split at hb
  · rename_i hg; rw [hg]; cases hb; rfl
  · rename_i j want hg
    rw [hg]
    split at hb
    · rename_i d hd
      split at hb
      · rename_i c hc
        obtain ⟨u, h1, h2⟩ := h d _ hc
        cases h2
        cases hb
        simp only [yielded, hd, Option.bind_some, h1]
        cases c <;> cases want <;> rfl
      · rename_i hc
        obtain ⟨u, h1, ⟨vs, h2, h3⟩⟩ := h d _ hc
        cases hb
        subst h3
        simp only [yielded, hd, Option.bind_some, h1]
        rfl
      · cases hb
    · cases hb

/-- What an operation does: its value, and the world after it. -/
def Goes (P : Program) (o : Oper) (a : Act) (w : World) (R : Value → World → Prop) : Prop :=
  ∀ (K : Act → World → Prop) (Q : Exit → Act → World → Prop), (∀ u w', R u w' → K (a.put o.dst u) w') → o.wp P a w K Q

/-- The calls whose answer is known beforehand. -/
structure ExtOK (E : Env) (ρ : Val) (B : Nat) : Prop where
  ext : ∀ f h, E.ext f = some h → ∀ vs u, h vs = some u → ∀ w, B ≤ w.heap.size → GlobOK E B w →
    (callFunc f vs.toArray).run E.P w = .ok (.value u) w ∨
    ((callFunc f vs.toArray).run E.P w = .ok (.enter f vs.toArray) w ∧ Calls E.P f vs.toArray w fun e w' => e = .returned u ∧ Below w.heap.size w w')
  exth : ∀ f h, E.exth f = some h → ∀ (β : Bind) (g : Nat → Option Blk) (args : List EV) (v : TV), h args g = some v → ∀ w, SHf β ρ B g w → GlobOK E B w → ∀ vs, F2 (EV.D β ρ) args vs →
    ∃ u, v.D β ρ u ∧ (callFunc f vs.toArray).run E.P w = .ok (.enter f vs.toArray) w ∧ Calls E.P f vs.toArray w fun e w' => e = .returned u ∧ Below w.heap.size w w'

/-- What the run of a body is to say. -/
structure RunOK (E : Env) (ρ : Val) (B : Nat) (r : List Item → St → Option St) : Prop where
  le : ∀ todo σ o, r todo σ = some o → σ.n ≤ o.n ∧ o.N = σ.N ∧ ∀ x, x ∈ σ.W → x ∈ o.W
  ok : ∀ todo σ o, r todo σ = some o → ∀ (β : Bind) (w : World) (b : Frame) (a : Act) (cs : List Frame), GlobOK E B w → SH β ρ B σ.H w → ST β ρ σ.N σ.T a → (∀ l, σ.n ≤ l → l < o.n → β l = none) →
    ∃ β' a' w' todo', Steps E.P (lone (b.at a todo) cs w) (lone { b.at a' todo' with mode := .returning } cs w') ∧ ST β' ρ o.N o.T a' ∧ Post ρ B β σ.H σ.n w β' o.H o.n o.W w'

theorem GlobOK.post {β' : Bind} {H' : Tr Blk} {n' : Nat} {W : List Nat} (hG : GlobOK E B w) (hS : SH β ρ B H w) (h : Post ρ B β H n w β' H' n' W w') : GlobOK E B w' := by
  intro g vs hg
  obtain ⟨h1, arr, ty, fr, h2, h3⟩ := hG g vs hg
  refine ⟨h1, arr, ty, fr, ?_, h3⟩
  rw [h.frame g (Nat.lt_of_lt_of_le h1 hS.size) fun l b c hl hc e => ?_]
  · exact h2
  · have := hS.base l b c hl hc; omega

theorem evVals_ok : ∀ {es : List EV} {vs : List Value} {us : List Value}, evVals? es = some vs → F2 (EV.D β ρ) es us → us = vs := by
  intro es
  induction es with
  | nil => intro vs us h hf; cases hf; cases h; rfl
  | cons e r ih =>
    intro vs us h hf
    simp only [evVals?] at h
    cases hf with
    | cons h1 h2 =>
      split at h
      · rename_i v hv
        split at h
        · rename_i l hl
          cases h
          rw [eval_ok hv h1, ih hl h2]
        · cases h
      · cases h

theorem extB_ok (hX : ExtOK E ρ B) {f : Nat} {args : List EV} {v : TV} (h : extB E f args H = some v) {vs : List Value} (hf : F2 (EV.D β ρ) args vs) (hS : SH β ρ B H w) (hG : GlobOK E B w) :
    ∃ u, v.D β ρ u ∧ ((callFunc f vs.toArray).run E.P w = .ok (.value u) w ∨
    ((callFunc f vs.toArray).run E.P w = .ok (.enter f vs.toArray) w ∧ Calls E.P f vs.toArray w fun e w' => e = .returned u ∧ Below w.heap.size w w')) := by
  unfold extB at h
  split at h
  · rename_i k hk
    split at h
    · rename_i us hus
      split at h
      · rename_i u hu
        cases h
        have := evVals_ok hus hf
        subst this
        exact ⟨u, ofV_TV u, hX.ext f k hk _ _ hu w hS.size hG⟩
      · cases h
    · cases h
  · split at h
    · rename_i k hk
      obtain ⟨u, h1, h2, h3⟩ := hX.exth f k hk β H.get args v h w hS hG vs hf
      exact ⟨u, h1, .inr ⟨h2, h3⟩⟩
    · cases h

theorem initT_get : ∀ (es : List EV) (i : Nat) (T : Tmps) (d : Nat), (initT i es T).get d = if i ≤ d ∧ d < i + es.length then (es[d - i]?).map .ev else T.get d
  | [], i, T, d => by simp only [initT, List.length_nil]; rw [if_neg (by omega)]
  | e :: r, i, T, d => by
    rw [initT, initT_get r (i + 1) _ d, Tr.get_set]
    by_cases h : d = i
    · subst h
      rw [if_neg (by omega), if_pos rfl, if_pos (by simp)]
      simp
    · by_cases h1 : i + 1 ≤ d ∧ d < i + 1 + r.length
      · rw [if_pos h1, if_pos ⟨by omega, by simp only [List.length_cons]; omega⟩]
        obtain ⟨j, hj⟩ : ∃ j, d - i = j + 1 := ⟨d - i - 1, by omega⟩
        rw [hj, List.getElem?_cons_succ, show d - (i + 1) = j by omega]
      · rw [if_neg h1, if_neg h, if_neg (by simp only [List.length_cons]; omega)]

/-- What a result's place gives. -/
def rv (tm : Array Value) : ResultVar → Sem Value
  | .tmp t => pure (tm.getD t undef)
  | .cell x t => do loadVar t (← asAddr (tm.getD x undef))
theorem results_rv (fn : Func) (tm : Array Value) : results fn tm = (do
    let vs ← fn.results.mapM (rv tm)
    pure (if h : vs.size = 1 then vs[0] else .tuple vs)) := by
  unfold results
  congr 2

theorem resultVar_ok (hS : SH β ρ B H w) (hT : ∀ d t, T.get d = some t → ∃ u, a.tmps[d]? = some u ∧ t.D β ρ u) {r : ResultVar} {e : EV} (h : resultVar E T H r = some e) :
    ∃ u, (rv a.tmps r).run E.P w = .ok u w ∧ e.D β ρ u := by
  unfold resultVar at h
  split at h
  · rename_i t
    split at h
    · rename_i e' he
      cases h
      obtain ⟨u, h1, h2⟩ := hT _ _ he
      exact ⟨u, by simp [rv, h1], h2⟩
    · cases h
  · rename_i x t
    split at h
    · rename_i l off hx
      split at h
      · rename_i ty cells hl
        obtain ⟨u, h1, c, h2, rfl⟩ := hT _ _ hx
        obtain ⟨c', h3, h4⟩ := hS.at_ _ _ hl
        rw [h2] at h3; cases h3
        obtain ⟨vs, h5, h6⟩ := row_cells h4
        obtain ⟨u, h7, h8⟩ := takeAt_load h h5 h6
        refine ⟨u, ?_, h8⟩
        simp [rv, h1, asAddr, h7]
      · cases h
    · cases h

theorem resultVars_ok (hS : SH β ρ B H w) (hT : ∀ d t, T.get d = some t → ∃ u, a.tmps[d]? = some u ∧ t.D β ρ u) : ∀ {rs : List ResultVar} {es : List EV}, resultVars E T H rs = some es →
    ∃ us, (rs.mapM (rv a.tmps) : Sem (List Value)).run E.P w = .ok us w ∧ F2 (EV.D β ρ) es us := by
  intro rs
  induction rs with
  | nil => intro es h; cases h; exact ⟨[], rfl, .nil⟩
  | cons r rs ih =>
    intro es h
    simp only [resultVars] at h
    split at h
    · rename_i e he
      split at h
      · rename_i l hl
        cases h
        obtain ⟨u, h1, h2⟩ := resultVar_ok hS hT he
        obtain ⟨us, h3, h4⟩ := ih hl
        refine ⟨u :: us, ?_, .cons h2 h4⟩
        simp [List.mapM_cons, h1, h3]
      · cases h
    · cases h

theorem resultsB_ok (hS : SH β ρ B H w) (hT : ∀ d t, T.get d = some t → ∃ u, a.tmps[d]? = some u ∧ t.D β ρ u) {fn : Func} {v : TV} (h : resultsB E fn T H = some v) :
    ∃ u, (results fn a.tmps).run E.P w = .ok u w ∧ v.D β ρ u := by
  rw [results_rv]
  unfold resultsB at h
  split at h
  · rename_i e he
    obtain ⟨us, h1, h2⟩ := resultVars_ok hS hT he
    cases h
    cases h2 with
    | cons h3 h4 =>
      cases h4
      refine ⟨_, ?_, h3⟩
      simp [Array.mapM_eq_mapM_toList, h1]
  · rename_i l hl he
    obtain ⟨us, h1, h2⟩ := resultVars_ok hS hT he
    cases h
    refine ⟨.tuple us.toArray, ?_, us, h2, rfl⟩
    have hne : us.length ≠ 1 := fun e => by
      rw [← h2.length] at e
      match l, e with
      | [x], _ => exact hl x rfl
    simp [Array.mapM_eq_mapM_toList, h1, hne]
  · cases h

theorem run_callFunc {P : Program} {f : FuncId} {fn : Func} {c : Code} {args : Array Value} {w : World} (hf : P.funcs[f]? = some fn) (hc : fn.body = some c) (hr : (fn.name == "runtime.NumGoroutine") = false) :
    (callFunc f args).run P w = .ok (.enter f args) w := by
  have h1 : fn.name ≠ "runtime.NumGoroutine" := by simpa using hr
  simp [callFunc, hf, h1, hc]

theorem calleeB_le {ih : List Item → St → Option St} (hR : RunOK E ρ B ih) {f : Nat} {args : List EV} {v : TV} {σ : St} (h : calleeB E ih f args H n = some (v, σ)) : n ≤ σ.n := by
  unfold calleeB at h
  split at h
  · cases h; exact Nat.le_refl _
  · split at h
    · split at h
      · split at h
        · split at h
          · rename_i o ho
            split at h
            · cases h; exact (hR.le _ _ _ ho).1
            · cases h
          · cases h
        · cases h
      · cases h
    · cases h

theorem calleeB_ok (hX : ExtOK E ρ B) {ih : List Item → St → Option St} (hR : RunOK E ρ B ih) {f : Nat} {args : List EV} {v : TV} {σ : St} (h : calleeB E ih f args H n = some (v, σ))
    (hG : GlobOK E B w) (hS : SH β ρ B H w) {vs : List Value} (hf : F2 (EV.D β ρ) args vs) (hn : ∀ l, n ≤ l → l < σ.n → β l = none) :
    (∃ u, v.D β ρ u ∧ (callFunc f vs.toArray).run E.P w = .ok (.value u) w ∧ Post ρ B β H n w β σ.H σ.n σ.W w) ∨
    ((callFunc f vs.toArray).run E.P w = .ok (.enter f vs.toArray) w ∧ Calls E.P f vs.toArray w fun e w' => ∃ u β', e = .returned u ∧ v.D β' ρ u ∧ Post ρ B β H n w β' σ.H σ.n σ.W w') := by
  unfold calleeB at h
  split at h
  · rename_i v' hv
    cases h
    obtain ⟨u, h1, h2 | ⟨h2, h3⟩⟩ := extB_ok hX hv hf hS hG
    · exact .inl ⟨u, h1, h2, Post.refl hS⟩
    · refine .inr ⟨h2, h3.mono fun e w' he => ?_⟩
      obtain ⟨rfl, hb⟩ := he
      exact ⟨u, β, rfl, h1, Post.later hS hb.size hb.block hb.os hb.tape hb.output⟩
  · split at h
    · rename_i fn hfn
      split at h
      · rename_i c hc
        split at h
        · rename_i hrt hlen
          split at h
          · rename_i o ho
            split at h
            · rename_i v' hv
              cases h
              have hcall : (callFunc f vs.toArray).run E.P w = .ok (.enter f vs.toArray) w := by
                have hrt' : (fn.name == "runtime.NumGoroutine") = false := hrt
                rw [run_callFunc (fn := fn) (c := c) hfn hc hrt']
              refine .inr ⟨hcall, fun cs => ?_⟩
              have hlen' : vs.length ≤ fn.ntmps := by rw [← hf.length]; exact Nat.le_of_ble_eq_true hlen
              let b : Frame := { (default : Frame) with fn := f, kind := .normal }
              let a0 : Act := { tmps := vs.toArray ++ Array.replicate (fn.ntmps - vs.toArray.size) undef, defers := [] }
              have henter : Frame.enter E.P f vs.toArray .normal = b.at a0 [.code c] := by simp [Frame.enter, Frame.at, hfn, hc, b, a0]
              have hst : ST β ρ fn.ntmps (initT 0 args .nil) a0 := by
                refine ⟨by simp [a0]; omega, fun d t hd => ?_, rfl⟩
                rw [initT_get] at hd
                split at hd
                · rename_i hlt
                  cases he : args[d]? with
                  | none => simp [he] at hd
                  | some e =>
                    simp [he] at hd; subst hd
                    obtain ⟨u, hu, hd⟩ := hf.get _ _ he
                    refine ⟨u, ?_, hd⟩
                    have : d < vs.length := (List.getElem?_eq_some_iff.1 hu).1
                    simp [a0, Array.getElem?_append, this]
                    have := (List.getElem?_eq_some_iff.1 hu).2
                    exact this
                · rw [Tr.get_nil] at hd; cases hd
              obtain ⟨β', a', w', todo', hsteps, hst', hpost⟩ := hR.ok _ _ _ ho β w b a0 cs hG hS hst hn
              obtain ⟨u, hres, hd⟩ := resultsB_ok hpost.sh hst'.at_ hv
              exact ⟨.returned u, w', _, ⟨u, β', rfl, hd, hpost⟩, by rw [henter]; exact hsteps, rfl, rfl, hst'.defers, rfl, fn, hfn, hres⟩
            · cases h
          · cases h
        · cases h
      · cases h
    · cases h

/-- One operation that comes to a value. -/
theorem opGoes_val {f : Operand → Value} {o : Oper} {v : TV} {H' : Tr Blk} {n' : Nat} {W : List Nat} (hf : f = a.eval) (h : OpOK E ρ B β H n w f o (.val v H' n' W)) (hn : ∀ l, n ≤ l → l < n' → β l = none) :
    Goes E.P o a w fun u w' => ∃ β', v.D β' ρ u ∧ Post ρ B β H n w β' H' n' W w' := by
  subst hf
  intro K Q hK
  obtain ⟨u, w', β', h1, h2, h3⟩ := h hn
  unfold Oper.wp
  rcases h1 with h1 | ⟨h1, rfl⟩
  · rw [h1, Oper.upon_value]; exact hK u w' ⟨β', h2, h3⟩
  · rw [h1, Oper.upon_skip]; exact hK _ w' ⟨β', h2, h3⟩
theorem opGoes_call (hX : ExtOK E ρ B) {ih : List Item → St → Option St} (hR : RunOK E ρ B ih) {o : Oper} {g : Nat} {args : List EV} {v : TV} {σ : St} (h : OpOK E ρ B β H n w a.eval o (.call g args)) (hc : calleeB E ih g args H n = some (v, σ))
    (hG : GlobOK E B w) (hS : SH β ρ B H w) (hn : ∀ l, n ≤ l → l < σ.n → β l = none) :
    Goes E.P o a w fun u w' => ∃ β', v.D β' ρ u ∧ Post ρ B β H n w β' σ.H σ.n σ.W w' := by
  intro K Q hK
  obtain ⟨vs, hf, he⟩ := h
  unfold Oper.wp
  rw [he]
  rcases calleeB_ok hX hR hc hG hS hf hn with ⟨u, h1, h2, h3⟩ | ⟨h1, h2⟩
  · rw [h2, Oper.upon_value]; exact hK u w ⟨β, h1, h3⟩
  · rw [h1, Oper.upon_enter]
    refine h2.mono fun e w' hh => ?_
    obtain ⟨u, β', rfl, h3, h4⟩ := hh
    exact hK u w' ⟨β', h3, h4⟩
end Go.Sx

/- The symbolic evaluator: regions in the text's order. -/
namespace Go.Sx
variable {E : Env} {ρ : Val} {B : Nat} {β γ : Bind} {H : Tr Blk} {n : Nat} {w w' : World} {T : Tmps} {N : Nat} {a : Act}
variable {fs : List (IE × Int)} {asm : List (BE × Bool)} {ih : List Item → St → Option St} {ops : Array Oper}

theorem forceNat_eq {α : Type} (n : Nat) (k : Nat → α) : forceNat n k = k n := by cases n <;> rfl
theorem forceInt_eq {α : Type} (n : Int) (k : Int → α) : forceInt n k = k n := by cases n <;> simp only [forceInt, forceNat_eq]
theorem forceList_eq {α γ : Type} : ∀ (l : List γ) (k : List γ → α), forceList l k = k l
  | [], _ => rfl
  | x :: r, k => by rw [forceList, forceList_eq r]
theorem forceStr_eq {α : Type} (s : ByteArray) (k : ByteArray → α) : forceStr s k = k s := by
  unfold forceStr; rw [forceList_eq]
theorem forceVal_eq {α : Type} (v : Value) (k : Value → α) : forceVal v k = k v := by
  unfold forceVal
  split
  · rw [forceInt_eq]
  · rw [forceStr_eq]
  · rfl
  · rfl
  · rfl
theorem forceSV_eq {α : Type} (v : SV) (k : SV → α) : forceSV v k = k v := by
  unfold forceSV
  split
  · rw [forceVal_eq]
  · rw [forceNat_eq, forceNat_eq]
  · rfl
theorem forceSVs_eq {α : Type} : ∀ (l : List SV) (k : List SV → α), forceSVs l k = k l
  | [], _ => rfl
  | x :: r, k => by rw [forceSVs, forceSV_eq, forceSVs_eq r]
theorem forceEV_eq {α : Type} (v : EV) (k : EV → α) : forceEV v k = k v := by
  cases v
  · simp only [forceEV, forceSV_eq]
  · simp only [forceEV, forceSVs_eq]
theorem forceTV_eq {α : Type} (v : TV) (k : TV → α) : forceTV v k = k v := by
  cases v
  · simp only [forceTV, forceEV_eq]
  · simp only [forceTV, forceList_eq]


theorem seqK_eq (next : St → Option St) (o : Oper) (σ : St) : seqK E fs asm ih ops o next σ = match dstOk σ.N o.dst, wantedB ops σ.T o with
    | true, some false => next { σ with T := putT σ.T o.dst (.tup []) }
    | true, some true => match opStep E fs asm σ.T σ.H σ.n o with
      | .val v H n W => match Nat.ble σ.n n with
        | true => next ⟨σ.N, putT σ.T o.dst v, H, n, W ++ σ.W⟩
        | false => none
      | .call f args => match calleeB E ih f args σ.H σ.n with
        | some (v, r) => next ⟨σ.N, putT σ.T o.dst v, r.H, r.n, r.W ++ σ.W⟩
        | none => none
      | _ => none
    | _, _ => none := by
  unfold seqK
  cases dstOk σ.N o.dst with
  | false => rfl
  | true =>
    rw [cond_true]
    cases wantedB ops σ.T o with
    | none => rfl
    | some b =>
      cases b with
      | false => rfl
      | true =>
        simp only [seqW]
        cases opStep E fs asm σ.T σ.H σ.n o with
        | val v H n W =>
          simp only [seqV]
          cases Nat.ble σ.n n with
          | false => rfl
          | true => simp only [forceTV_eq, forceNat_eq, unSt_eq]
        | call f args =>
          simp only [seqV]
          cases calleeB E ih f args σ.H σ.n with
          | none => rfl
          | some p => simp only [forceTV_eq, unSt_eq]
        | fork _ => rfl
        | fail => rfl

theorem seqOps_le (hR : RunOK E ρ B ih) : ∀ (l : List Oper) (σ σ' : St), seqOps E fs asm ih ops l σ = some σ' → σ.n ≤ σ'.n ∧ σ'.N = σ.N ∧ ∀ x, x ∈ σ.W → x ∈ σ'.W
  | [], σ, σ', h => by cases h; exact ⟨Nat.le_refl _, rfl, fun _ h => h⟩
  | o :: l, σ, σ', h => by
    rw [seqOps_cons, seqK_eq] at h
    split at h
    · have := seqOps_le hR l _ _ h; exact this
    · split at h
      · split at h
        · rename_i hle
          obtain ⟨h1, h2, h3⟩ := seqOps_le hR l _ _ h
          exact ⟨Nat.le_trans (Nat.le_of_ble_eq_true hle) h1, h2, fun x hx => h3 x (List.mem_append.2 (.inr hx))⟩
        · cases h
      · split at h
        · rename_i hc
          obtain ⟨h1, h2, h3⟩ := seqOps_le hR l _ _ h
          exact ⟨Nat.le_trans (calleeB_le hR hc) h1, h2, fun x hx => h3 x (List.mem_append.2 (.inr hx))⟩
        · cases h
      · cases h
    · cases h

theorem Post.cons {β1 β2 : Bind} {H1 H2 : Tr Blk} {n1 n2 : Nat} {w1 w2 : World} {W W1 W2 : List Nat}
    (h : Post ρ B β H n w β1 H1 n1 W1 w1) (k : Post ρ B β1 H1 n1 w1 β2 H2 n2 W2 w2) (hW : ∀ x, x ∈ W1 ++ W → x ∈ W2) : Post ρ B β H n w β2 H2 n2 W2 w2 :=
  (h.trans k).W_mono fun x hx => (List.mem_append.1 hx).elim id fun hx => hW x (List.mem_append.2 (.inl hx))

theorem seqOps_ok (hC : Cx E ρ fs) (hasm : asmOK ρ asm) (hX : ExtOK E ρ B) (hR : RunOK E ρ B ih) : ∀ (l : List Oper) (σ σ' : St), seqOps E fs asm ih ops l σ = some σ' → ∀ (β : Bind) (w : World) (a : Act),
    GlobOK E B w → SH β ρ B σ.H w → ST β ρ σ.N σ.T a → (∀ l, σ.n ≤ l → l < σ'.n → β l = none) → ∀ Q : Exit → Act → World → Prop,
    (∀ β' a' w', ST β' ρ σ'.N σ'.T a' → Post ρ B β σ.H σ.n w β' σ'.H σ'.n σ'.W w' → Q .normal a' w') → wpList E.P ops Q l a w
  | [], σ, σ', h, β, w, a, hG, hS, hT, hn, Q, hQ => by
    cases h
    exact hQ β a w hT ((Post.refl hS).W_mono fun x hx => by cases hx)
  | o :: l, σ, σ', h, β, w, a, hG, hS, hT, hn, Q, hQ => by
    rw [seqOps_cons, seqK_eq] at h
    unfold wpList
    split at h
    · rename_i hd hw
      rw [if_neg (by rw [wanted_ok hT.at_ hw]; exact Bool.false_ne_true)]
      exact seqOps_ok hC hasm hX hR l _ _ h β w _ hG hS (hT.put hd undef_D) hn Q hQ
    · rename_i hd hw
      rw [if_pos (wanted_ok hT.at_ hw)]
      refine .inl ?_
      have hO := opStep_ok (n := σ.n) hC hasm hG hS hT.ev (fun _ => rfl) o
      split at h
      · rename_i v H1 n1 W1 hop
        rw [hop] at hO
        split at h
        · rename_i hle
          obtain ⟨h1, h2, h3⟩ := seqOps_le hR l _ _ h
          refine opGoes_val rfl hO (fun m hm hm' => hn m hm (Nat.lt_of_lt_of_le hm' h1)) _ _ ?_
          rintro u w' ⟨β', hv, hp⟩
          refine seqOps_ok hC hasm hX hR l _ _ h β' w' _ (hG.post hS hp) hp.sh ((hT.mono hp.mono).put hd hv) (fun m hm hm' => ?_) Q fun β'' a'' w'' hT'' hp'' => hQ β'' a'' w'' hT'' (hp.cons hp'' h3)
          have := hp.le
          simp only at hm
          rw [hp.ext m (by omega)]
          exact hn m (by omega) hm'
        · cases h
      · rename_i g args hop
        rw [hop] at hO
        split at h
        · rename_i v r hc
          obtain ⟨h1, h2, h3⟩ := seqOps_le hR l _ _ h
          refine opGoes_call hX hR hO hc hG hS (fun m hm hm' => hn m hm (Nat.lt_of_lt_of_le hm' h1)) _ _ ?_
          rintro u w' ⟨β', hv, hp⟩
          refine seqOps_ok hC hasm hX hR l _ _ h β' w' _ (hG.post hS hp) hp.sh ((hT.mono hp.mono).put hd hv) (fun m hm hm' => ?_) Q fun β'' a'' w'' hT'' hp'' => hQ β'' a'' w'' hT'' (hp.cons hp'' h3)
          have := hp.le
          simp only at hm
          rw [hp.ext m (by omega)]
          exact hn m (by omega) hm'
        · cases h
      · cases h
    · cases h
end Go.Sx

/- The symbolic evaluator: regions whose order is drawn. Part 1: plain facts. -/
namespace Go.Sx
variable {E : Env} {ρ : Val} {B : Nat} {β γ : Bind} {H : Tr Blk} {n : Nat} {w w' : World} {T : Tmps} {N : Nat} {a : Act}
variable {fs : List (IE × Int)} {asm : List (BE × Bool)} {ih : List Item → St → Option St} {ops : Array Oper}

/-! ### The last writer -/
def fin {α : Type} (wr : Nat → Nat → Bool) (val : Nat → Nat → Option α) (D : Nat → Bool) (init : Nat → Option α) : Nat → Nat → Option α
  | 0, x => init x
  | k + 1, x => bif D k && wr k x then val k x else fin wr val D init k x
section
variable {α : Type} {wr : Nat → Nat → Bool} {val : Nat → Nat → Option α} {D D' : Nat → Bool} {init : Nat → Option α}
theorem fin_congr {x : Nat} : ∀ k, (∀ j, j < k → wr j x = true → D j = D' j) → fin wr val D init k x = fin wr val D' init k x
  | 0, _ => rfl
  | k + 1, h => by
    rw [fin, fin, fin_congr k fun j hj => h j (by omega)]
    cases hw : wr k x
    · simp
    · rw [h k (by omega) hw]
theorem fin_prefix {x i : Nat} : ∀ k, i ≤ k → (∀ j, i ≤ j → j < k → D j = true → wr j x = false) → fin wr val D init k x = fin wr val D init i x
  | 0, h, _ => by have : i = 0 := by omega
                  subst this; rfl
  | k + 1, h, hj => by
    by_cases e : i = k + 1
    · rw [e]
    · rw [fin]
      have : (D k && wr k x) = false := by
        cases hD : D k
        · rfl
        · rw [hj k (by omega) (by omega) hD]; rfl
      rw [this, cond_false]
      exact fin_prefix k (by omega) fun j h1 h2 => hj j h1 (by omega)
theorem fin_last {x i k : Nat} (hi : i < k) (hD : D i = true) (hw : wr i x = true) (h : ∀ j, i < j → j < k → D j = true → wr j x = false) : fin wr val D init k x = val i x := by
  rw [fin_prefix (i := i + 1) k (by omega) fun j h1 h2 => h j (by omega) h2, fin, hD, hw]
  rfl
theorem fin_shift {x : Nat} : ∀ k, fin wr val D init (k + 1) x = fin (fun j => wr (j + 1)) (fun j => val (j + 1)) (fun j => D (j + 1)) (fun y => bif D 0 && wr 0 y then val 0 y else init y) k x
  | 0 => rfl
  | k + 1 => by rw [fin, fin_shift k]; rfl
theorem fin_none {x : Nat} : ∀ k, (∀ j, j < k → D j = true → wr j x = false) → fin wr val D init k x = init x
  | k, h => fin_prefix (i := 0) k (by omega) fun j _ h2 => h j h2
end

/-! ### Lists as sets -/
theorem memB_iff {x : Nat} : ∀ {l : List Nat}, memB x l = true ↔ x ∈ l
  | [] => by simp [memB]
  | y :: r => by
    rw [memB]
    cases h : Nat.beq x y
    · have : x ≠ y := fun e => by subst e; simp [Nat.beq_refl] at h
      simp [memB_iff (l := r), this]
    · have : x = y := Nat.eq_of_beq_eq_true h
      simp [this]
theorem meets_false {a b : List Nat} (h : meets a b = false) : ∀ x, x ∈ a → x ∉ b := by
  induction a with
  | nil => intro x hx; cases hx
  | cons y r ih =>
    rw [meets] at h
    cases hm : memB y b
    · rw [hm, cond_false] at h
      intro x hx hb
      cases hx with
      | head => rw [memB_iff.2 hb] at hm; cases hm
      | tail _ hx => exact ih h x hx hb
    · rw [hm] at h; cases h
theorem restrict_get {α : Type} {H : Tr α} {x : Nat} : ∀ (l : List Nat) (A : Tr α), (restrict H l A).get x = if x ∈ l then H.get x else A.get x
  | [], A => by simp [restrict]
  | y :: r, A => by
    rw [restrict, restrict_get r, Tr.get_set]
    by_cases h : x ∈ r
    · simp [h]
    · by_cases e : x = y
      · subst e; simp
      · simp [h, e]
theorem restrict_nil {α : Type} {H : Tr α} {x : Nat} {b : α} {l : List Nat} (h : (restrict H l .nil).get x = some b) : x ∈ l ∧ H.get x = some b := by
  rw [restrict_get] at h
  split at h
  · exact ⟨‹_›, h⟩
  · rw [Tr.get_nil] at h; cases h
theorem merge_get {A : Tr Blk} {x : Nat} : ∀ (l : List Nat) (H : Tr Blk), (merge A l H).get x = if x ∈ l then A.get x else H.get x
  | [], A => by simp [merge]
  | y :: r, A' => by
    rw [merge, merge_get r, Tr.get_set]
    by_cases h : x ∈ r
    · simp [h]
    · by_cases e : x = y
      · subst e; simp
      · simp [h, e]

/-! ### Edges -/
def Closed (ops : Array Oper) (D : Nat → Bool) : Prop := ∀ i o, ops[i]? = some o → D i = true → ∀ e ∈ o.after, Region.binds .any e = true → D e.on = true
/-- What surely comes ahead. -/
def AheadOK (ops : Array Oper) (i s : Nat) : Prop := ∀ D, Closed ops D → (∀ o, ops[i]? = some o → ∀ e ∈ o.after, Region.binds .any e = true → D e.on = true) → ∀ j, s.testBit j = true → D j = true

theorem edgesB_ok {acc : List Nat} (hacc : ∀ k t, acc[k]? = some t → AheadOK ops k t) : ∀ (es : List Edge) (s r : Nat), edgesB acc.length acc es s = some r →
    (∀ e ∈ es, Region.binds .any e = true → e.on < acc.length) ∧
    ∀ D, Closed ops D → (∀ e ∈ es, Region.binds .any e = true → D e.on = true) → (∀ j, s.testBit j = true → D j = true) → ∀ j, r.testBit j = true → D j = true
  | [], s, r, h => by
    cases h
    exact ⟨fun e he => (by cases he), fun D _ _ hs => hs⟩
  | e :: es, s, r, h => by
    rw [edgesB] at h
    cases hb : Region.binds .any e
    · rw [hb, cond_false] at h
      obtain ⟨h1, h2⟩ := edgesB_ok hacc es s r h
      refine ⟨fun e' he' hb' => ?_, fun D hD hE hs => h2 D hD (fun e' he' => hE e' (List.mem_cons_of_mem _ he')) hs⟩
      cases he' with
      | head => rw [hb] at hb'; cases hb'
      | tail _ he' => exact h1 e' he' hb'
    · rw [hb, cond_true] at h
      split at h
      · rename_i t ht
        obtain ⟨h1, h2⟩ := edgesB_ok hacc es _ r h
        refine ⟨fun e' he' hb' => ?_, fun D hD hE hs => h2 D hD (fun e' he' => hE e' (List.mem_cons_of_mem _ he')) fun j hj => ?_⟩
        · cases he' with
          | head => exact (List.getElem?_eq_some_iff.1 ht).1
          | tail _ he' => exact h1 e' he' hb'
        · have hon := hE e (by simp) hb
          rw [Nat.testBit_or, Nat.testBit_or, Bool.or_eq_true, Bool.or_eq_true] at hj
          rcases hj with hj | hj | hj
          · exact hs j hj
          · rw [Nat.one_shiftLeft, Nat.testBit_two_pow] at hj
            have : e.on = j := by simpa using hj
            rw [← this]; exact hon
          · exact hacc _ _ ht D hD (fun o ho e' he' hb' => hD _ o ho hon e' he' hb') j hj
      · cases h

theorem aheads_ok : ∀ (l : List Oper) (acc ss : List Nat), (∀ j, l[j]? = ops[acc.length + j]?) → (∀ k t, acc[k]? = some t → AheadOK ops k t) → (∀ k o, k < acc.length → ops[k]? = some o → ∀ e ∈ o.after, Region.binds .any e = true → e.on < k) →
    aheads acc l = some ss → ss.length = acc.length + l.length ∧ (∀ k t, ss[k]? = some t → AheadOK ops k t) ∧ (∀ k o, k < ss.length → ops[k]? = some o → ∀ e ∈ o.after, Region.binds .any e = true → e.on < k)
  | [], acc, ss, _, h1, h2, h => by cases h; exact ⟨by simp, h1, h2⟩
  | o :: l, acc, ss, hl, h1, h2, h => by
    rw [aheads] at h
    split at h
    · rename_i s hs
      obtain ⟨e1, e2⟩ := edgesB_ok h1 _ _ _ hs
      have ho : ops[acc.length]? = some o := by simpa using (hl 0).symm
      have hA : ∀ j, l[j]? = ops[(acc ++ [s]).length + j]? := fun j => by
        have := hl (j + 1)
        simp only [List.getElem?_cons_succ] at this
        rw [this, List.length_append, List.length_singleton, Nat.add_assoc, Nat.add_comm 1 j]
      have hB : ∀ k t, (acc ++ [s])[k]? = some t → AheadOK ops k t := fun k t hk => by
        rw [List.getElem?_append] at hk
        split at hk
        · exact h1 k t hk
        · rename_i hlt
          have : k = acc.length := by
            have := (List.getElem?_eq_some_iff.1 hk).1
            simp at this; omega
          subst this
          simp at hk; subst hk
          intro D hD hE j hj
          exact e2 D hD (fun e he hb => hE o ho e (by simpa using he) hb) (fun j hj => by simp at hj) j hj
      have hC : ∀ k o, k < (acc ++ [s]).length → ops[k]? = some o → ∀ e ∈ o.after, Region.binds .any e = true → e.on < k := fun k o' hk ho' e he hb => by
        by_cases hk' : k < acc.length
        · exact h2 k o' hk' ho' e he hb
        · have : k = acc.length := by simp at hk; omega
          subst this
          rw [ho] at ho'; cases ho'
          exact e1 e (by simpa using he) hb
      obtain ⟨g1, g2, g3⟩ := aheads_ok l (acc ++ [s]) ss hA hB hC h
      refine ⟨?_, g2, g3⟩
      rw [g1, List.length_append, List.length_singleton, List.length_cons]
      omega
    · cases h

theorem bitB_ok {s i : Nat} (h : bitB s i = true) : s.testBit i = true := by
  have h' := Nat.eq_of_beq_eq_true h
  have h2 : 1 &&& (s >>> i) = 1 := by rw [Nat.and_comm]; exact h'
  rw [Nat.testBit, h2]
  rfl
theorem orderedB_ok {a : Oper} {x : Rec} {i : Nat} : ∀ (os : List Oper) (rs : List Rec) (ss : List Nat), orderedB ops a x i os rs ss = true → ∀ (j : Nat) (b : Oper) (y : Rec) (s : Nat), os[j]? = some b → rs[j]? = some y → ss[j]? = some s → conflictB ops a b x y = true → s.testBit i = true
  | [], _, _, _, j, b, y, s, h1, _, _, _ => by simp at h1
  | _ :: _, [], _, _, j, b, y, s, _, h1, _, _ => by simp at h1
  | _ :: _, _ :: _, [], _, j, b, y, s, _, _, h1, _ => by simp at h1
  | o :: os, r :: rs, t :: ss, h, j, b, y, s, h1, h2, h3, h4 => by
    rw [orderedB] at h
    cases j with
    | zero =>
      simp at h1 h2 h3; subst h1 h2 h3
      cases ht : bitB t i
      · rw [ht, cond_false, h4] at h; cases h
      · exact bitB_ok ht
    | succ j =>
      have h' : orderedB ops a x i os rs ss = true := by
        cases ht : bitB t i
        · rw [ht, cond_false] at h
          cases hc : conflictB ops a o x r
          · rw [hc, cond_false] at h; exact h
          · rw [hc, cond_true] at h; cases h
        · rw [ht, cond_true] at h; exact h
      exact orderedB_ok os rs ss h' j b y s (by simpa using h1) (by simpa using h2) (by simpa using h3) h4
theorem allOrderedB_ok : ∀ (os : List Oper) (rs : List Rec) (ss : List Nat) (k : Nat), allOrderedB ops k os rs ss = true → ∀ (i j : Nat) (a b : Oper) (x y : Rec) (s : Nat), i < j → os[i]? = some a → os[j]? = some b → rs[i]? = some x → rs[j]? = some y → ss[j]? = some s →
    conflictB ops a b x y = true → s.testBit (k + i) = true
  | [], _, _, _, _, i, j, a, b, x, y, s, _, h, _, _, _, _, _ => by simp at h
  | _ :: _, [], _, _, _, i, j, a, b, x, y, s, _, _, _, h, _, _, _ => by simp at h
  | _ :: _, _ :: _, [], _, _, i, j, a, b, x, y, s, _, _, _, _, _, h, _ => by simp at h
  | o :: os, r :: rs, t :: ss, k, h, i, j, a, b, x, y, s, hij, h1, h2, h3, h4, h5, h6 => by
    rw [allOrderedB] at h
    cases hO : orderedB ops o r k os rs ss with
    | false => rw [hO] at h; cases h
    | true =>
      rw [hO, cond_true] at h
      obtain ⟨j', rfl⟩ : ∃ j', j = j' + 1 := ⟨j - 1, by omega⟩
      cases i with
      | zero =>
        simp at h1 h3; subst h1 h3
        exact orderedB_ok os rs ss hO j' b y s (by simpa using h2) (by simpa using h4) (by simpa using h5) h6
      | succ i =>
        have := allOrderedB_ok os rs ss (k + 1) h i j' a b x y s (by omega) (by simpa using h1) (by simpa using h2) (by simpa using h3) (by simpa using h4) (by simpa using h5) h6
        rw [show k + (i + 1) = k + 1 + i by omega]; exact this

/-- What two operations that do not disturb each other leave alone. -/
structure Apart (ops : Array Oper) (a b : Oper) (x y : Rec) : Prop where
  wf : ∀ l, l ∈ x.W → l ∉ y.F
  ww : ∀ l, l ∈ x.W → l ∉ y.W
  fw : ∀ l, l ∈ y.W → l ∉ x.F
  ab : ∀ d, a.dst = some d → d ∉ usesOf ops b
  ba : ∀ d, b.dst = some d → d ∉ usesOf ops a
  dd : ∀ d, a.dst = some d → b.dst ≠ some d
theorem dstIn_false {d : Option Nat} {l : List Nat} (h : dstIn d l = false) : ∀ e, d = some e → e ∉ l := by
  intro e he hm
  subst he
  rw [dstIn, memB_iff.2 hm] at h
  cases h
theorem conflict_apart {a b : Oper} {x y : Rec} (h : conflictB ops a b x y = false) : Apart ops a b x y := by
  simp only [conflictB, Bool.or_eq_false_iff] at h
  obtain ⟨⟨⟨⟨⟨h1, h2⟩, h3⟩, h4⟩, h5⟩, h6⟩ := h
  exact ⟨meets_false h1, meets_false h2, meets_false h3, dstIn_false h4, dstIn_false h5, fun d hd hb => dstIn_false h6 d hd (by rw [hb]; simp)⟩

/-! ### How many are left -/
def left (D : Nat → Bool) : Nat → Nat
  | 0 => 0
  | k + 1 => left D k + (bif D k then 0 else 1)
theorem left_congr {D D' : Nat → Bool} : ∀ k, (∀ j, j < k → D j = D' j) → left D k = left D' k
  | 0, _ => rfl
  | k + 1, h => by rw [left, left, left_congr k fun j hj => h j (by omega), h k (by omega)]
theorem left_set {D D' : Nat → Bool} {i : Nat} (hi : D i = false) (hi' : D' i = true) (h : ∀ j, j ≠ i → D' j = D j) : ∀ k, i < k → left D' k + 1 = left D k
  | 0, hk => by omega
  | k + 1, hk => by
    rw [left, left]
    by_cases e : k = i
    · subst e
      rw [left_congr k fun j hj => h j (by omega), hi, hi']
      rfl
    · rw [h k e, ← left_set hi hi' h k (by omega)]; omega
theorem left_zero {D : Nat → Bool} : ∀ k, left D k = 0 → ∀ j, j < k → D j = true
  | 0, _, j, hj => by omega
  | k + 1, h, j, hj => by
    rw [left] at h
    by_cases e : j = k
    · subst e
      cases hD : D j
      · rw [hD] at h; simp at h
      · rfl
    · exact left_zero k (by omega) j (by omega)
theorem left_all : ∀ k, left (fun _ => false) k = k
  | 0 => rfl
  | k + 1 => by rw [left, left_all k]; rfl
end Go.Sx

/- The symbolic evaluator: regions whose order is drawn. Part 2: any order comes to the same. -/
noncomputable section
namespace Go.Sx
variable {E : Env} {ρ : Val} {B : Nat} {β γ : Bind} {n : Nat} {w w' : World} {N : Nat} {a : Act}
variable {fs : List (IE × Int)} {asm : List (BE × Bool)} {ih : List Item → St → Option St} {ops : Array Oper}

/-- One operation of a drawn region, as the evaluator met it. -/
structure Stp where
  o : Oper
  T : Tmps
  H : Tr Blk
  n : Nat
  n1 : Nat
  v : TV
  A : Tr Blk
  F : List Nat
  W : List Nat
/-- What the evaluator found. -/
def Stp.OK (E : Env) (fs : List (IE × Int)) (asm : List (BE × Bool)) (ih : List Item → St → Option St) (N : Nat) (ops : Array Oper) (s : Stp) : Prop :=
  dstOk N s.o.dst = true ∧ s.n ≤ s.n1 ∧
  ((wantedB ops (restrict s.T (usesOf ops s.o) .nil) s.o = some false ∧ s.v = .tup [] ∧ s.W = []) ∨
   (wantedB ops (restrict s.T (usesOf ops s.o) .nil) s.o = some true ∧
    (opStep E fs asm (restrict s.T (usesOf ops s.o) .nil) (restrict s.H s.F .nil) s.n s.o = .val s.v s.A s.n1 s.W ∨
     ∃ f args σ, opStep E fs asm (restrict s.T (usesOf ops s.o) .nil) (restrict s.H s.F .nil) s.n s.o = .call f args ∧ calleeB E ih f args (restrict s.H s.F .nil) s.n = some (s.v, σ) ∧ s.A = σ.H ∧ s.n1 = σ.n ∧ s.W = σ.W)))
def wrT (tr : List Stp) (j d : Nat) : Bool := match tr[j]? with
  | some s => decide (s.o.dst = some d)
  | none => false
def vaT (tr : List Stp) (j _d : Nat) : Option TV := (tr[j]?).map (·.v)
def wrH (tr : List Stp) (j l : Nat) : Bool := match tr[j]? with
  | some s => memB l s.W
  | none => false
def vaH (tr : List Stp) (j l : Nat) : Option Blk := (tr[j]?).bind (·.A.get l)
abbrev yes : Nat → Bool := fun _ => true

theorem putT_get {T : Tmps} {dst : Option Nat} {v : TV} {d : Nat} : (putT T dst v).get d = if dst = some d then some v else T.get d := by
  cases dst with
  | none => simp [putT]
  | some e =>
    simp only [putT, Tr.get_set, Option.some.injEq]
    by_cases h : d = e
    · simp [h]
    · rw [if_neg h, if_neg (Ne.symm h)]

/-- The steps, one after the other. -/
structure Tells (E : Env) (fs : List (IE × Int)) (asm : List (BE × Bool)) (ih : List Item → St → Option St) (N : Nat) (ops : Array Oper) (tr : List Stp) (T : Tmps) (H : Tr Blk) (n : Nat) (T' : Tmps) (H' : Tr Blk) (n' : Nat) : Prop where
  ok : ∀ s ∈ tr, s.OK E fs asm ih N ops
  T_ : ∀ (i : Nat) s, tr[i]? = some s → ∀ d, s.T.get d = fin (wrT tr) (vaT tr) yes T.get i d
  H_ : ∀ (i : Nat) s, tr[i]? = some s → ∀ l, s.H.get l = fin (wrH tr) (vaH tr) yes H.get i l
  T' : ∀ d, T'.get d = fin (wrT tr) (vaT tr) yes T.get tr.length d
  H' : ∀ l, H'.get l = fin (wrH tr) (vaH tr) yes H.get tr.length l
  n_ : ∀ s ∈ tr, n ≤ s.n ∧ s.n1 ≤ n'
  n' : n ≤ n'
  nn : ∀ (i j : Nat) s t, i < j → tr[i]? = some s → tr[j]? = some t → s.n1 ≤ t.n

theorem Tells.cons {s : Stp} {tr : List Stp} {T' : Tmps} {H' : Tr Blk} {n' : Nat} (hs : s.OK E fs asm ih N ops) (h : Tells E fs asm ih N ops tr (putT s.T s.o.dst s.v) (merge s.A s.W s.H) s.n1 T' H' n') :
    Tells E fs asm ih N ops (s :: tr) s.T s.H s.n T' H' n' := by
  have hT : ∀ k d, fin (wrT (s :: tr)) (vaT (s :: tr)) yes s.T.get (k + 1) d = fin (wrT tr) (vaT tr) yes (putT s.T s.o.dst s.v).get k d := by
    intro k d
    rw [fin_shift]
    congr 1
    funext y
    rw [putT_get]
    by_cases e : s.o.dst = some y <;> simp [wrT, vaT, e]
  have hH : ∀ k l, fin (wrH (s :: tr)) (vaH (s :: tr)) yes s.H.get (k + 1) l = fin (wrH tr) (vaH tr) yes (merge s.A s.W s.H).get k l := by
    intro k d
    rw [fin_shift]
    congr 1
    funext y
    rw [merge_get]
    by_cases e : y ∈ s.W
    · simp [wrH, vaH, e, memB_iff.2 e]
    · have : memB y s.W = false := by
        cases hm : memB y s.W
        · rfl
        · exact absurd (memB_iff.1 hm) e
      simp [wrH, vaH, e, this]
  have hle := hs.2.1
  refine ⟨fun t ht => ?_, fun i t ht d => ?_, fun i t ht l => ?_, fun d => ?_, fun l => ?_, fun t ht => ?_, Nat.le_trans hle h.n', fun i j t u hij ht hu => ?_⟩
  · cases ht with
    | head => exact hs
    | tail _ ht => exact h.ok t ht
  · cases i with
    | zero => simp at ht; subst ht; rfl
    | succ i => rw [hT]; exact h.T_ i t (by simpa using ht) d
  · cases i with
    | zero => simp at ht; subst ht; rfl
    | succ i => rw [hH]; exact h.H_ i t (by simpa using ht) l
  · rw [List.length_cons, hT]; exact h.T' d
  · rw [List.length_cons, hH]; exact h.H' l
  · cases ht with
    | head => exact ⟨Nat.le_refl _, h.n'⟩
    | tail _ ht => obtain ⟨h1, h2⟩ := h.n_ t ht; exact ⟨by omega, h2⟩
  · obtain ⟨j', rfl⟩ : ∃ j', j = j' + 1 := ⟨j - 1, by omega⟩
    have hu' : tr[j']? = some u := by simpa using hu
    cases i with
    | zero => simp at ht; subst ht; exact (h.n_ u (List.mem_of_getElem? hu')).1
    | succ i => exact h.nn i j' t u (by omega) (by simpa using ht) hu'

theorem drawOps_tells (hR : RunOK E ρ B ih) : ∀ (l : List Oper) (T : Tmps) (H : Tr Blk) (n : Nat) (T' : Tmps) (H' : Tr Blk) (n' : Nat) (W : List Nat) (rs : List Rec), drawOps E fs asm ih N ops l T H n = some (T', H', n', W, rs) →
    ∃ tr : List Stp, tr.map (·.o) = l ∧ rs.length = tr.length ∧ (∀ (i : Nat) s, tr[i]? = some s → ∃ r, rs[i]? = some r ∧ r.W = s.W ∧ r.F = s.F) ∧ Tells E fs asm ih N ops tr T H n T' H' n' ∧ ∀ s ∈ tr, ∀ x ∈ s.W, x ∈ W
  | [], T, H, n, T', H', n', W, rs, h => by
    cases h
    exact ⟨[], rfl, rfl, fun i s hs => by simp at hs, ⟨fun s hs => (by cases hs), fun i s hs => by simp at hs, fun i s hs => by simp at hs, fun _ => rfl, fun _ => rfl, fun s hs => (by cases hs), Nat.le_refl _, fun i j s t _ hs => by simp at hs⟩, fun s hs => by cases hs⟩
  | o :: l, T, H, n, T', H', n', W, rs, h => by
    have build : ∀ (s : Stp), s.o = o → s.T = T → s.H = H → s.n = n → s.OK E fs asm ih N ops → ∀ W0 rs0, drawOps E fs asm ih N ops l (putT T o.dst s.v) (merge s.A s.W H) s.n1 = some (T', H', n', W0, rs0) → W = W0 ++ s.W → (∃ r, r.W = s.W ∧ r.F = s.F ∧ rs = r :: rs0) →
        ∃ tr : List Stp, tr.map (·.o) = o :: l ∧ rs.length = tr.length ∧ (∀ (i : Nat) s, tr[i]? = some s → ∃ r, rs[i]? = some r ∧ r.W = s.W ∧ r.F = s.F) ∧ Tells E fs asm ih N ops tr T H n T' H' n' ∧ ∀ s ∈ tr, ∀ x ∈ s.W, x ∈ W := by
      rintro s rfl rfl rfl rfl hs W0 rs0 h0 rfl ⟨r, hr1, hr2, rfl⟩
      obtain ⟨tr, h1, h2, h3, h4, h5⟩ := drawOps_tells hR l _ _ _ _ _ _ _ _ h0
      refine ⟨s :: tr, by rw [List.map_cons, h1], by simp [h2], fun i t ht => ?_, h4.cons hs, fun t ht x hx => ?_⟩
      · cases i with
        | zero => simp at ht; subst ht; exact ⟨r, by simp, hr1, hr2⟩
        | succ i => simpa using h3 i t (by simpa using ht)
      · cases ht with
        | head => exact List.mem_append.2 (.inr hx)
        | tail _ ht => exact List.mem_append.2 (.inl (h5 t ht x hx))
    rw [drawOps] at h
    dsimp only at h
    split at h
    · rename_i hd hw
      split at h
      · rename_i T1 H1 n1 W1 rs1 h1
        cases h
        exact build ⟨o, T, H, n, n, .tup [], .nil, [], []⟩ rfl rfl rfl rfl ⟨hd, Nat.le_refl _, .inl ⟨hw, rfl, rfl⟩⟩ _ _ h1 (by simp) ⟨⟨[], []⟩, rfl, rfl, rfl⟩
      · cases h
    · rename_i hd hw
      split at h
      · rename_i v A' n1 W1 hop
        split at h
        · rename_i hle
          split at h
          · rename_i T2 H2 n2 W2 rs2 h2
            cases h
            exact build ⟨o, T, H, n, n1, v, A', _, W1⟩ rfl rfl rfl rfl ⟨hd, Nat.le_of_ble_eq_true hle, .inr ⟨hw, .inl hop⟩⟩ _ _ h2 rfl ⟨_, rfl, rfl, rfl⟩
          · cases h
        · cases h
      · rename_i f args hop
        split at h
        · rename_i v σ hc
          split at h
          · rename_i T2 H2 n2 W2 rs2 h2
            cases h
            exact build ⟨o, T, H, n, σ.n, v, σ.H, _, σ.W⟩ rfl rfl rfl rfl ⟨hd, calleeB_le hR hc, .inr ⟨hw, .inr ⟨f, args, σ, hop, hc, rfl, rfl, rfl⟩⟩⟩ _ _ h2 rfl ⟨_, rfl, rfl, rfl⟩
          · cases h
        · cases h
      · cases h
    · cases h
end Go.Sx
end

/- The symbolic evaluator: regions whose order is drawn. Part 3: they are right. -/
namespace Go.Sx
variable {E : Env} {ρ : Val} {B : Nat} {β γ : Bind} {n : Nat} {w w' : World} {N : Nat} {a : Act}
variable {fs : List (IE × Int)} {asm : List (BE × Bool)} {ih : List Item → St → Option St} {ops : Array Oper}

theorem SHf.sub {g g' : Nat → Option Blk} (h : SHf β ρ B g w) (hs : ∀ l b, g' l = some b → g l = some b) : SHf β ρ B g' w where
  at_ l b hl := h.at_ l b (hs _ _ hl)
  apart l m b c a d hl hm := h.apart l m b c a d (hs _ _ hl) (hs _ _ hm)
  base l b a hl := h.base l b a (hs _ _ hl)
  size := h.size

/-- A step on a part of the heap, seen on the whole. -/
theorem Post.framed {g g' : Nat → Option Blk} {G A : Tr Blk} {β' : Bind} {n n1 : Nat} {W : List Nat} (hS : SHf β ρ B g w) (hsub : ∀ l b, G.get l = some b → g l = some b) (hp : Post ρ B β G n w β' A n1 W w')
    (hin : ∀ l, l ∈ W → g' l = A.get l) (hout : ∀ l, l ∉ W → g' l = g l) :
    SHf β' ρ B g' w' ∧ ∀ l b a, g' l = some b → β' l = some a → (∃ m c d, g m = some c ∧ β m = some d ∧ d.blk = a.blk) ∨ w.heap.size ≤ a.blk := by
  have cases_ : ∀ l b, g' l = some b → A.get l = some b ∨ (G.get l = none ∧ g l = some b ∧ ∃ a, β l = some a ∧ β' l = some a ∧ Blk.H β ρ w a b) := by
    intro l b hl
    by_cases hW : l ∈ W
    · rw [hin l hW] at hl; exact .inl hl
    · rw [hout l hW] at hl
      cases hG : G.get l with
      | some c =>
        have := hsub _ _ hG
        rw [hl] at this; cases this
        exact .inl (by rw [hp.same l hW, hG])
      | none =>
        obtain ⟨a, h1, h2⟩ := hS.at_ l b hl
        exact .inr ⟨rfl, hl, a, h1, hp.mono _ _ h1, h2⟩
  have clash : ∀ {l m b c a d}, A.get l = some b → β' l = some a → G.get m = none → g m = some c → β m = some d → d.blk < w.heap.size → a.blk = d.blk → False := by
    intro l m b c a d hl ha hG hm hd hlt heq
    rcases hp.live l b a hl ha with ⟨m', c', d', h3, h4, h5⟩ | h3
    · have := hS.apart m' m c' c d' d (hsub _ _ h3) hm h4 hd (h5.trans heq)
      subst this
      rw [hG] at h3; cases h3
    · omega
  refine ⟨⟨fun l b hl => ?_, fun l m b c a d hl hm ha hd heq => ?_, fun l b a hl ha => ?_, hp.sh.size⟩, fun l b a hl ha => ?_⟩
  · rcases cases_ l b hl with h | ⟨hG, hg, a, h1, h2, h3⟩
    · exact hp.sh.at_ l b h
    · refine ⟨a, h2, Blk.H_mono hp.mono (Blk.H_block (hp.frame _ (Blk.H_lt h3) fun m c d h4 h5 h6 => ?_) h3)⟩
      have := hS.apart m l c b d a (hsub _ _ h4) hg h5 h1 h6
      subst this
      rw [hG] at h4; cases h4
  · rcases cases_ l b hl with h | ⟨hG, hg, a', h1, h2, h3⟩
    · rcases cases_ m c hm with k | ⟨kG, kg, d', k1, k2, k3⟩
      · exact hp.sh.apart l m b c a d h k ha hd heq
      · rw [hd] at k2; cases k2
        exact (clash h ha kG kg k1 (Blk.H_lt k3) heq).elim
    · rw [ha] at h2; cases h2
      rcases cases_ m c hm with k | ⟨kG, kg, d', k1, k2, k3⟩
      · exact (clash k hd hG hg h1 (Blk.H_lt h3) heq.symm).elim
      · rw [hd] at k2; cases k2
        exact hS.apart l m b c a d hg kg h1 k1 heq
  · rcases cases_ l b hl with h | ⟨hG, hg, a', h1, h2, h3⟩
    · exact hp.sh.base l b a h ha
    · rw [ha] at h2; cases h2
      exact hS.base l b a hg h1
  · rcases cases_ l b hl with h | ⟨hG, hg, a', h1, h2, h3⟩
    · rcases hp.live l b a h ha with ⟨m, c, d, h3, h4, h5⟩ | h3
      · exact .inl ⟨m, c, d, hsub _ _ h3, h4, h5⟩
      · exact .inr h3
    · rw [ha] at h2; cases h2
      exact .inl ⟨l, b, a, hg, h1, rfl⟩

/-- What holds after some of a region's operations. -/
structure Inv (E : Env) (ρ : Val) (B : Nat) (N : Nat) (ops : Array Oper) (tr : List Stp) (T0 : Tmps) (H0 : Tr Blk) (n0 nk : Nat) (β0 : Bind) (w0 : World) (D : Nat → Bool) (β : Bind) (a : Act) (w : World) : Prop where
  closed : Closed ops D
  tsize : a.tmps.size = N
  defers : a.defers = []
  tmps : ∀ d t, fin (wrT tr) (vaT tr) D T0.get tr.length d = some t → ∃ u, a.tmps[d]? = some u ∧ t.D β ρ u
  heap : SHf β ρ B (fin (wrH tr) (vaH tr) D H0.get tr.length) w
  fresh : ∀ (i : Nat) s, tr[i]? = some s → D i = false → ∀ l, s.n ≤ l → l < s.n1 → β l = none
  ext : ∀ l, ¬ (n0 ≤ l ∧ l < nk) → β l = β0 l
  mono : β0.le β
  glob : GlobOK E B w
  size : w0.heap.size ≤ w.heap.size
  frame : ∀ k, k < w0.heap.size → (∀ l b a, H0.get l = some b → β0 l = some a → a.blk ≠ k) → w.heap[k]? = w0.heap[k]?
  live : ∀ l b a, fin (wrH tr) (vaH tr) D H0.get tr.length l = some b → β l = some a → (∃ m c d, H0.get m = some c ∧ β0 m = some d ∧ d.blk = a.blk) ∨ w0.heap.size ≤ a.blk
  os : w.os = w0.os
  tape : w.tape = w0.tape
  output : w.output = w0.output

/-- The order that the evaluator looked for. -/
def Ordered (ops : Array Oper) (tr : List Stp) : Prop :=
  ∀ (i j : Nat) s t, i < j → tr[i]? = some s → tr[j]? = some t → ∀ D, Closed ops D → (∀ e ∈ t.o.after, Region.binds .any e = true → D e.on = true) → D i = false → Apart ops s.o t.o ⟨s.F, s.W⟩ ⟨t.F, t.W⟩

theorem ordered_of {rs : List Rec} {tr : List Stp} (h : orderB ops rs = true) (ho : tr.map (·.o) = ops.toList) (_hl : rs.length = tr.length) (hr : ∀ (i : Nat) s, tr[i]? = some s → ∃ r, rs[i]? = some r ∧ r.W = s.W ∧ r.F = s.F) :
    Ordered ops tr ∧ ∀ (i : Nat) s, tr[i]? = some s → ∀ e ∈ s.o.after, Region.binds .any e = true → e.on < i := by
  have hat : ∀ (i : Nat) s, tr[i]? = some s → ops[i]? = some s.o := fun i s hs => by
    rw [← Array.getElem?_toList, ← ho, List.getElem?_map, hs]; rfl
  unfold orderB at h
  split at h
  · rename_i ss hss
    obtain ⟨h1, h2, h3⟩ := aheads_ok (ops := ops) ops.toList [] ss (fun j => by simp) (fun k t hk => by simp at hk) (fun k o hk => by simp at hk) hss
    have hlen : ss.length = tr.length := by rw [h1, ← ho]; simp
    refine ⟨fun i j s t hij hs ht D hD hE hDi => ?_, fun i s hs => ?_⟩
    · have hj : j < ss.length := by rw [hlen]; exact (List.getElem?_eq_some_iff.1 ht).1
      obtain ⟨x, hx, hx1, hx2⟩ := hr i s hs
      obtain ⟨y, hy, hy1, hy2⟩ := hr j t ht
      cases hc : conflictB ops s.o t.o x y with
      | true =>
        have hs' : ops.toList[i]? = some s.o := by rw [Array.getElem?_toList]; exact hat i s hs
        have ht' : ops.toList[j]? = some t.o := by rw [Array.getElem?_toList]; exact hat j t ht
        have hb := allOrderedB_ok ops.toList rs ss 0 h i j s.o t.o x y ss[j] hij hs' ht' hx hy (by simp) hc
        rw [Nat.zero_add] at hb
        have := h2 j ss[j] (by simp) D hD (fun o ho' => by
          rw [hat j t ht] at ho'; cases ho'; exact hE) i hb
        rw [hDi] at this; cases this
      | false =>
        have := conflict_apart hc
        cases x; cases y
        simp only at hx1 hx2 hy1 hy2
        subst hx1 hx2 hy1 hy2
        exact this
    · exact h3 i s.o (by rw [hlen]; exact (List.getElem?_eq_some_iff.1 hs).1) (hat i s hs)
  · cases h

section
variable {tr : List Stp} {T0 : Tmps} {H0 : Tr Blk} {n0 nk : Nat} {β0 : Bind} {w0 : World} {D : Nat → Bool} {T1 : Tmps} {H1 : Tr Blk}

theorem wrT_iff {j d : Nat} : wrT tr j d = true ↔ ∃ s, tr[j]? = some s ∧ s.o.dst = some d := by
  unfold wrT
  cases h : tr[j]? <;> simp
theorem wrH_iff {j l : Nat} : wrH tr j l = true ↔ ∃ s, tr[j]? = some s ∧ l ∈ s.W := by
  unfold wrH
  cases h : tr[j]? <;> simp [memB_iff]
theorem not_true {b : Bool} (h : b = true → False) : b = false := by cases b; rfl; exact (h rfl).elim

/-- One more operation. -/
theorem inv_step (hord : Ordered ops tr) (hat : ∀ (i : Nat) s, tr[i]? = some s → ops[i]? = some s.o) (htl : Tells E fs asm ih N ops tr T0 H0 n0 T1 H1 nk)
    (hC : Cx E ρ fs) (hasm : asmOK ρ asm) (hX : ExtOK E ρ B) (hR : RunOK E ρ B ih)
    (hi : Inv E ρ B N ops tr T0 H0 n0 nk β0 w0 D β a w) {i : Nat} {s : Stp} (hs : tr[i]? = some s) (hDi : D i = false) (hE : ∀ e ∈ s.o.after, Region.binds .any e = true → D e.on = true)
    {D' : Nat → Bool} (hD'i : D' i = true) (hD' : ∀ j, j ≠ i → D' j = D j) {K : Act → World → Prop} {Q : Exit → Act → World → Prop}
    (hK : ∀ β' a' w', Inv E ρ B N ops tr T0 H0 n0 nk β0 w0 D' β' a' w' → K a' w') : wpOp E.P ops Q i K a w := by
  have hik : i < tr.length := (List.getElem?_eq_some_iff.1 hs).1
  -- operations before that are not done yet; operations behind that are done
  have hbefore : ∀ j t, j < i → tr[j]? = some t → D j = false → Apart ops t.o s.o ⟨t.F, t.W⟩ ⟨s.F, s.W⟩ := fun j t hj ht hDj => hord j i t s hj ht hs D hi.closed hE hDj
  have hbehind : ∀ j t, i < j → tr[j]? = some t → D j = true → Apart ops s.o t.o ⟨s.F, s.W⟩ ⟨t.F, t.W⟩ := fun j t hj ht hDj => hord i j s t hj hs ht D hi.closed (fun e he hb => hi.closed j t.o (hat j t ht) hDj e he hb) hDi
  have hTu : ∀ d, d ∈ usesOf ops s.o → s.T.get d = fin (wrT tr) (vaT tr) D T0.get tr.length d := by
    intro d hd
    have q1 : fin (wrT tr) (vaT tr) yes T0.get i d = fin (wrT tr) (vaT tr) D T0.get i d := by
      refine fin_congr i fun j hj hw => ?_
      obtain ⟨t, ht, htd⟩ := wrT_iff.1 hw
      cases hDj : D j with
      | true => rfl
      | false => exact absurd hd ((hbefore j t hj ht hDj).ab d htd)
    have q2 : fin (wrT tr) (vaT tr) D T0.get tr.length d = fin (wrT tr) (vaT tr) D T0.get i d := by
      refine fin_prefix tr.length (by omega) fun j h1 h2 hDj => not_true fun hw => ?_
      obtain ⟨t, ht, htd⟩ := wrT_iff.1 hw
      have : j ≠ i := fun e => by rw [e, hDi] at hDj; cases hDj
      exact (hbehind j t (by omega) ht hDj).ba d htd hd
    rw [htl.T_ i s hs, q1, q2]
  have hHu : ∀ l, l ∈ s.F → s.H.get l = fin (wrH tr) (vaH tr) D H0.get tr.length l := by
    intro d hd
    have q1 : fin (wrH tr) (vaH tr) yes H0.get i d = fin (wrH tr) (vaH tr) D H0.get i d := by
      refine fin_congr i fun j hj hw => ?_
      obtain ⟨t, ht, htd⟩ := wrH_iff.1 hw
      cases hDj : D j with
      | true => rfl
      | false => exact absurd hd ((hbefore j t hj ht hDj).wf d htd)
    have q2 : fin (wrH tr) (vaH tr) D H0.get tr.length d = fin (wrH tr) (vaH tr) D H0.get i d := by
      refine fin_prefix tr.length (by omega) fun j h1 h2 hDj => not_true fun hw => ?_
      obtain ⟨t, ht, htd⟩ := wrH_iff.1 hw
      have : j ≠ i := fun e => by rw [e, hDi] at hDj; cases hDj
      exact (hbehind j t (by omega) ht hDj).fw d htd hd
    rw [htl.H_ i s hs, q1, q2]
  have hT' : ∀ d, fin (wrT tr) (vaT tr) D' T0.get tr.length d = if s.o.dst = some d then some s.v else fin (wrT tr) (vaT tr) D T0.get tr.length d := by
    intro d
    by_cases hd : s.o.dst = some d
    · rw [if_pos hd, fin_last hik hD'i (wrT_iff.2 ⟨s, hs, hd⟩) fun j h1 h2 hDj => ?_]
      · simp [vaT, hs]
      · refine not_true fun hw => ?_
        obtain ⟨t, ht, htd⟩ := wrT_iff.1 hw
        rw [hD' j (by omega)] at hDj
        exact (hbehind j t h1 ht hDj).dd d hd htd
    · rw [if_neg hd]
      refine fin_congr _ fun j hj hw => hD' j fun e => ?_
      subst e
      obtain ⟨t, ht, htd⟩ := wrT_iff.1 hw
      rw [hs] at ht; cases ht
      exact hd htd
  have hHin : ∀ l, l ∈ s.W → fin (wrH tr) (vaH tr) D' H0.get tr.length l = s.A.get l := by
    intro l hl
    rw [fin_last hik hD'i (wrH_iff.2 ⟨s, hs, hl⟩) fun j h1 h2 hDj => ?_]
    · simp [vaH, hs]
    · refine not_true fun hw => ?_
      obtain ⟨t, ht, htd⟩ := wrH_iff.1 hw
      rw [hD' j (by omega)] at hDj
      exact (hbehind j t h1 ht hDj).ww l hl htd
  have hHout : ∀ l, l ∉ s.W → fin (wrH tr) (vaH tr) D' H0.get tr.length l = fin (wrH tr) (vaH tr) D H0.get tr.length l := by
    intro l hl
    refine fin_congr _ fun j hj hw => hD' j fun e => ?_
    subst e
    obtain ⟨t, ht, htd⟩ := wrH_iff.1 hw
    rw [hs] at ht; cases ht
    exact hl htd
  have hclosed : Closed ops D' := by
    intro j o ho hDj e he hb
    have hon : D e.on = true := by
      by_cases hj : j = i
      · subst hj
        rw [hat j s hs] at ho; cases ho
        exact hE e he hb
      · rw [hD' j hj] at hDj
        exact hi.closed j o ho hDj e he hb
    by_cases h : e.on = i
    · rw [h]; exact hD'i
    · rw [hD' _ h]; exact hon
  -- the parts that the operation looks at
  have htr : ∀ d t, (restrict s.T (usesOf ops s.o) .nil).get d = some t → ∃ u, a.tmps[d]? = some u ∧ t.D β ρ u := fun d t hd => by
    obtain ⟨h1, h2⟩ := restrict_nil hd
    rw [hTu d h1] at h2
    exact hi.tmps d t h2
  have hst : ST β ρ N (restrict s.T (usesOf ops s.o) .nil) a := ⟨hi.tsize, htr, hi.defers⟩
  have hsub : ∀ l b, (restrict s.H s.F .nil).get l = some b → fin (wrH tr) (vaH tr) D H0.get tr.length l = some b := fun l b hl => by
    obtain ⟨h1, h2⟩ := restrict_nil hl
    rw [← hHu l h1]; exact h2
  have hsh : SH β ρ B (restrict s.H s.F .nil) w := hi.heap.sub hsub
  have hmem : s ∈ tr := List.mem_of_getElem? hs
  obtain ⟨hdst, hle, hcase⟩ := htl.ok s hmem
  -- what comes after a step
  have hafter : ∀ u w' β', s.v.D β' ρ u → Post ρ B β (restrict s.H s.F .nil) s.n w β' s.A s.n1 s.W w' → Inv E ρ B N ops tr T0 H0 n0 nk β0 w0 D' β' (a.put s.o.dst u) w' := by
    intro u w' β' hv hp
    obtain ⟨f1, f2⟩ := Post.framed hi.heap hsub hp hHin hHout
    have hn := htl.n_ s hmem
    refine ⟨hclosed, ?_, ?_, fun d t hd => ?_, f1, fun j t ht hDj l h1 h2 => ?_, fun l hl => ?_, Bind.le_trans hi.mono hp.mono, ?_, Nat.le_trans hi.size hp.size, fun k hk hne => ?_, fun l b c hl hc => ?_, hp.os.trans hi.os, hp.tape.trans hi.tape, hp.output.trans hi.output⟩
    · cases s.o.dst <;> simp [Act.put, hi.tsize]
    · cases s.o.dst <;> simp [Act.put, hi.defers]
    · rw [hT'] at hd
      by_cases h : s.o.dst = some d
      · rw [if_pos h] at hd; cases hd
        rw [h] at hdst ⊢
        have hlt : d < N := Nat.le_of_ble_eq_true hdst
        refine ⟨u, ?_, hv⟩
        simp [Act.put, hi.tsize, hlt]
      · rw [if_neg h] at hd
        obtain ⟨x, h1, h2⟩ := hi.tmps d t hd
        refine ⟨x, ?_, TV.D_mono hp.mono _ _ h2⟩
        cases hdd : s.o.dst with
        | none => exact h1
        | some e =>
          have hne : e ≠ d := fun h' => h (by rw [hdd, h'])
          simp only [Act.put]
          rw [Array.getElem?_setIfInBounds_ne hne]; exact h1
    · have hji : j ≠ i := fun e => by rw [e, hD'i] at hDj; cases hDj
      rw [hD' j hji] at hDj
      have hout : ¬ (s.n ≤ l ∧ l < s.n1) := by
        rcases Nat.lt_or_gt_of_ne hji with h | h
        · have := htl.nn j i t s h ht hs; omega
        · have := htl.nn i j s t h hs ht; omega
      rw [hp.ext l hout]
      exact hi.fresh j t ht hDj l h1 h2
    · rw [hp.ext l (by omega)]; exact hi.ext l hl
    · exact hi.glob.post hsh hp
    · rw [hp.frame k (Nat.lt_of_lt_of_le hk hi.size) fun l b c hl hc e => ?_, hi.frame k hk hne]
      rcases hi.live l b c (hsub _ _ hl) hc with ⟨m, c', d, h3, h4, h5⟩ | h3
      · exact hne m c' d h3 h4 (h5.trans e)
      · omega
    · rcases f2 l b c hl hc with ⟨m, c', d, h3, h4, h5⟩ | h3
      · rcases hi.live m c' d h3 h4 with ⟨m', c'', d', h6, h7, h8⟩ | h6
        · exact .inl ⟨m', c'', d', h6, h7, h8.trans h5⟩
        · exact .inr (by omega)
      · exact .inr (Nat.le_trans hi.size h3)
  unfold wpOp
  simp only [hat i s hs]
  rcases hcase with ⟨hw, hv, hW⟩ | ⟨hw, hcase⟩
  · rw [if_neg (by rw [wanted_ok htr hw]; exact Bool.false_ne_true)]
    refine hK β _ w ?_
    have hHeq : fin (wrH tr) (vaH tr) D' H0.get tr.length = fin (wrH tr) (vaH tr) D H0.get tr.length := funext fun l => hHout l (by rw [hW]; simp)
    refine ⟨hclosed, ?_, ?_, fun d t hd => ?_, by rw [hHeq]; exact hi.heap, fun j t ht hDj => ?_, hi.ext, hi.mono, hi.glob, hi.size, hi.frame, by rw [hHeq]; exact hi.live, hi.os, hi.tape, hi.output⟩
    · cases s.o.dst <;> simp [Act.put, hi.tsize]
    · cases s.o.dst <;> simp [Act.put, hi.defers]
    · rw [hT'] at hd
      by_cases h : s.o.dst = some d
      · rw [if_pos h] at hd; cases hd
        rw [h] at hdst ⊢
        have hlt : d < N := Nat.le_of_ble_eq_true hdst
        refine ⟨undef, ?_, by rw [hv]; exact undef_D⟩
        simp [Act.put, hi.tsize, hlt]
      · rw [if_neg h] at hd
        obtain ⟨x, h1, h2⟩ := hi.tmps d t hd
        refine ⟨x, ?_, h2⟩
        cases hdd : s.o.dst with
        | none => exact h1
        | some e =>
          have hne : e ≠ d := fun h' => h (by rw [hdd, h'])
          simp only [Act.put]
          rw [Array.getElem?_setIfInBounds_ne hne]; exact h1
    · have hji : j ≠ i := fun e => by rw [e, hD'i] at hDj; cases hDj
      rw [hD' j hji] at hDj
      exact hi.fresh j t ht hDj
  · rw [if_pos (wanted_ok htr hw)]
    refine .inl ?_
    have hO := opStep_ok (n := s.n) hC hasm hi.glob hsh hst.ev (fun _ => rfl) s.o
    rcases hcase with hop | ⟨f, args, σ, hop, hc, e1, e2, e3⟩
    · rw [hop] at hO
      refine opGoes_val rfl hO (hi.fresh i s hs hDi) _ _ ?_
      rintro u w' ⟨β', hv, hp⟩
      exact hK β' _ w' (hafter u w' β' hv hp)
    · rw [hop] at hO
      refine opGoes_call hX hR hO hc hi.glob hsh (by rw [← e2]; exact hi.fresh i s hs hDi) _ _ ?_
      rintro u w' ⟨β', hv, hp⟩
      rw [← e1, ← e2, ← e3] at hp
      exact hK β' _ w' (hafter u w' β' hv hp)

theorem any_ok (hord : Ordered ops tr) (hlt : ∀ (i : Nat) s, tr[i]? = some s → ∀ e ∈ s.o.after, Region.binds .any e = true → e.on < i) (hat : ∀ (i : Nat) s, tr[i]? = some s → ops[i]? = some s.o) (hlen : tr.length = ops.size) (htl : Tells E fs asm ih N ops tr T0 H0 n0 T1 H1 nk)
    (hC : Cx E ρ fs) (hasm : asmOK ρ asm) (hX : ExtOK E ρ B) (hR : RunOK E ρ B ih) {Q : Exit → Act → World → Prop}
    (hQ : ∀ β a w, Inv E ρ B N ops tr T0 H0 n0 nk β0 w0 yes β a w → Q .normal a w) :
    ∀ (fuel : Nat) (listed : Array Bool) (β : Bind) (a : Act) (w : World), listed.size = ops.size → left (fun i => listed.getD i false) ops.size ≤ fuel → Inv E ρ B N ops tr T0 H0 n0 nk β0 w0 (fun i => listed.getD i false) β a w → wpAny E.P .any ops Q fuel listed a w := by
  have hat' : ∀ i, i < ops.size → ∃ s, tr[i]? = some s := fun i hi => ⟨tr[i]'(by omega), by simp⟩
  -- all of it
  have hall : ∀ (listed : Array Bool) β a w, (∀ i, i < ops.size → listed.getD i false = true) → Inv E ρ B N ops tr T0 H0 n0 nk β0 w0 (fun i => listed.getD i false) β a w → Q .normal a w := by
    intro listed β a w hl hi
    have hT : ∀ {α : Type} (wr : Nat → Nat → Bool) (va : Nat → Nat → Option α) (g : Nat → Option α) (x : Nat), fin wr va (fun i => listed.getD i false) g tr.length x = fin wr va yes g tr.length x := fun wr va g x => fin_congr _ fun j hj _ => hl j (by omega)
    have hH := funext fun x => hT (wrH tr) (vaH tr) H0.get x
    refine hQ β a w ⟨fun i o _ _ e _ _ => rfl, hi.tsize, hi.defers, fun d t hd => hi.tmps d t (by rw [hT]; exact hd), by rw [← hH]; exact hi.heap, fun i s _ hD => (by cases hD), hi.ext, hi.mono, hi.glob, hi.size, hi.frame, by rw [← hH]; exact hi.live, hi.os, hi.tape, hi.output⟩
  have hready : ∀ (listed : Array Bool), listed.size = ops.size → Region.ready .any ops listed = [] → ∀ i, i < ops.size → listed.getD i false = true := by
    intro listed hsz hr i
    induction i using Nat.strongRecOn with
    | _ i ihi =>
      intro hi
      cases hb : listed.getD i false with
      | true => rfl
      | false =>
        obtain ⟨s, hs⟩ := hat' i hi
        have : i ∈ Region.ready .any ops listed := mem_ready.2 ⟨by
            have hi' : i < listed.size := by omega
            simp only [Array.getD, hi', dite_true] at hb ⊢
            exact hb, s.o, hat i s hs, fun e he hbd => ihi e.on (hlt i s hs e he hbd) (by have := hlt i s hs e he hbd; omega)⟩
        rw [hr] at this; cases this
  intro fuel
  induction fuel with
  | zero =>
    intro listed β a w hsz hleft hi
    have hl := left_zero _ (Nat.le_zero.1 hleft)
    refine ⟨List.eq_nil_iff_forall_not_mem.2 fun i hm => ?_, hall listed β a w hl hi⟩
    obtain ⟨h0, o, ho, _⟩ := mem_ready.1 hm
    have hio : i < ops.size := (Array.getElem?_eq_some_iff.1 ho).1
    have hi' : i < listed.size := by omega
    have := hl i hio
    simp only [Array.getD, hi', dite_true] at this h0
    rw [h0] at this; cases this
  | succ fuel ihf =>
    intro listed β a w hsz hleft hi
    refine ⟨fun hr => hall listed β a w (hready listed hsz hr) hi, fun i hm => ?_⟩
    obtain ⟨h0, o, ho, hE⟩ := mem_ready.1 hm
    have hio : i < ops.size := (Array.getElem?_eq_some_iff.1 ho).1
    have hi' : i < listed.size := by omega
    obtain ⟨s, hs⟩ := hat' i hio
    have hso := hat i s hs
    rw [ho] at hso; cases hso
    have hDi : listed.getD i false = false := by
      simp only [Array.getD, hi', dite_true] at h0 ⊢; exact h0
    have hset : (listed.setIfInBounds i true).getD i false = true := by simp [hi']
    have hne : ∀ j, j ≠ i → (listed.setIfInBounds i true).getD j false = listed.getD j false := fun j hj => getD_set_ne false (Ne.symm hj)
    refine inv_step hord hat htl hC hasm hX hR hi hs hDi hE (D' := fun j => (listed.setIfInBounds i true).getD j false) hset hne fun β' a' w' h' => ?_
    refine ihf _ β' a' w' (by simp [hsz]) ?_ h'
    have := left_set (D := fun i => listed.getD i false) (D' := fun j => (listed.setIfInBounds i true).getD j false) hDi hset hne ops.size hio
    omega

/-- A region whose order is drawn. -/
theorem drawOps_ok (hm : E.P.follows .mixedOrders = true) (hC : Cx E ρ fs) (hasm : asmOK ρ asm) (hX : ExtOK E ρ B) (hR : RunOK E ρ B ih) {T : Tmps} {H : Tr Blk} {T' : Tmps} {H' : Tr Blk} {n' : Nat} {W : List Nat} {rs : List Rec}
    (h : drawOps E fs asm ih N ops ops.toList T H n = some (T', H', n', W, rs)) (ho : orderB ops rs = true) (hG : GlobOK E B w) (hS : SH β ρ B H w) (hT : ST β ρ N T a) (hn : ∀ l, n ≤ l → l < n' → β l = none) {Q : Exit → Act → World → Prop}
    (hQ : ∀ β' a' w', ST β' ρ N T' a' → Post ρ B β H n w β' H' n' W w' → Q .normal a' w') (id : Nat) : (Code.region id ops true).wp E.P Q a w := by
  obtain ⟨tr, h1, h2, h3, h4, h5⟩ := drawOps_tells hR _ _ _ _ _ _ _ _ _ h
  obtain ⟨hord, hlt⟩ := ordered_of ho h1 h2 h3
  have hat : ∀ (i : Nat) s, tr[i]? = some s → ops[i]? = some s.o := fun i s hs => by
    rw [← Array.getElem?_toList, ← h1, List.getElem?_map, hs]; rfl
  have hlen : tr.length = ops.size := by rw [← Array.length_toList, ← h1, List.length_map]
  have hnone : ∀ i, (Array.replicate ops.size false).getD i false = false := fun i => by
    simp only [Array.getD]; split <;> simp
  have hzero : (fun i => (Array.replicate ops.size false).getD i false) = fun _ => false := funext hnone
  have hfin : ∀ {α : Type} (wr : Nat → Nat → Bool) (va : Nat → Nat → Option α) (g : Nat → Option α) (x : Nat), fin wr va (fun _ => false) g tr.length x = g x := fun wr va g x => fin_none _ fun j _ hD => by cases hD
  refine wp_region_any hm (any_ok (β0 := β) (w0 := w) hord hlt hat hlen h4 hC hasm hX hR (fun β' a' w' hi => ?_) ops.size _ β a _ (by simp) ?_ ?_)
  · have hH : fin (wrH tr) (vaH tr) yes H.get tr.length = H'.get := funext fun l => (h4.H' l).symm
    refine hQ β' a' w' ⟨hi.tsize, fun d t hd => hi.tmps d t (by rw [← h4.T']; exact hd), hi.defers⟩ ⟨h4.n', hi.ext, hi.mono, (by show SHf _ _ _ H'.get _; rw [← hH]; exact hi.heap), fun l hl => ?_, hi.size, hi.frame, by rw [← hH]; exact hi.live, hi.os, hi.tape, hi.output⟩
    rw [← hH]
    exact fin_none _ fun j _ _ => not_true fun hw => by
      obtain ⟨t, ht, htd⟩ := wrH_iff.1 hw
      exact hl (h5 t (List.mem_of_getElem? ht) l htd)
  · rw [hzero, left_all]; exact Nat.le_refl _
  · rw [hzero]
    have hH : fin (wrH tr) (vaH tr) (fun _ => false) H.get tr.length = H.get := funext fun l => hfin _ _ _ _
    refine ⟨fun i o _ hD => (by cases hD), hT.size, hT.defers, fun d t hd => hT.at_ d t (by rw [hfin] at hd; exact hd), by rw [hH]; exact hS.later (Nat.le_refl _) (fun _ _ => rfl), fun i s hs _ l h6 h7 => hn l ?_ ?_, fun _ _ => rfl, Bind.le_refl β, hG, Nat.le_refl _, fun _ _ _ => rfl, fun l b a hl ha => ?_, rfl, rfl, rfl⟩
    · have := (h4.n_ s (List.mem_of_getElem? hs)).1; omega
    · have := (h4.n_ s (List.mem_of_getElem? hs)).2; omega
    · rw [hH] at hl; exact .inl ⟨l, b, a, hl, ha, rfl⟩
end
end Go.Sx

/- The symbolic evaluator: the run of a body is right. -/
noncomputable section
namespace Go.Sx
open RowKit (Below)
variable {E : Env} {ρ : Val} {B : Nat} {β γ : Bind} {n : Nat} {w w' : World} {a : Act}
variable {fs : List (IE × Int)} {asm : List (BE × Bool)}

/-- What the proof asks for, once for all. -/
structure Law (E : Env) (ρ : Val) (B : Nat) (fs : List (IE × Int)) (asm : List (BE × Bool)) : Prop where
  cx : Cx E ρ fs
  asm : asmOK ρ asm
  ext : ExtOK E ρ B
  mixed : E.P.follows .mixedOrders = true

theorem drawOps_le {N : Nat} {ops : Array Oper} {ih : List Item → St → Option St} (hR : RunOK E ρ B ih) {T : Tmps} {H : Tr Blk} {T' : Tmps} {H' : Tr Blk} {n' : Nat} {W : List Nat} {rs : List Rec}
    (h : drawOps E fs asm ih N ops ops.toList T H n = some (T', H', n', W, rs)) : n ≤ n' := by
  obtain ⟨tr, h1, h2, h3, h4, h5⟩ := drawOps_tells hR _ _ _ _ _ _ _ _ _ h
  exact h4.n'

theorem condK_eq (ih : List Item → St → Option St) (v : Option TV) (a b : Code) (k : List Item) (σ : St) : (match condK v a b with
      | some c => ih (.code c :: k) σ
      | none => none) = match v with
      | some (.ev (.one (.cst (.bool true)))) => ih (.code a :: k) σ
      | some (.ev (.one (.cst (.bool false)))) => ih (.code b :: k) σ
      | _ => none := by
  cases v with
  | none => rfl
  | some t =>
    cases t with
    | tup _ => rfl
    | ev e =>
      cases e with
      | agg _ => rfl
      | one s =>
        cases s with
        | cst v =>
          cases v with
          | bool b => cases b <;> rfl
          | _ => rfl
        | _ => rfl

theorem todoK_eq (ih : List Item → St → Option St) (todo : List Item) (σ : St) : todoK todo E fs asm ih σ = match todo with
    | [] => some σ
    | .code c :: k => match c with
      | .skip => ih k σ
      | .label _ => ih k σ
      | .ret => some σ
      | .seq a b => ih (.code a :: .code b :: k) σ
      | .cond x a b => match evalT σ.T x with
        | some (.ev (.one (.cst (.bool true)))) => ih (.code a :: k) σ
        | some (.ev (.one (.cst (.bool false)))) => ih (.code b :: k) σ
        | _ => none
      | .block id b => ih (.code b :: .inBlock id :: k) σ
      | .loop b => ih (.code b :: .inLoop b :: k) σ
      | .scope b => ih (.code b :: .inScope b :: k) σ
      | .exit id => match exitTo id k with
        | some k' => ih k' σ
        | none => none
      | .goto l => match gotoIn l k with
        | some k' => ih k' σ
        | none => none
      | .region _ ops false => match seqOps E fs asm ih ops ops.toList σ with
        | some σ' => ih k σ'
        | none => none
      | .region _ ops true => match drawOps E fs asm ih σ.N ops ops.toList σ.T σ.H σ.n with
        | some (T', H', n', W, rs) => match orderB ops rs with
          | true => ih k ⟨σ.N, T', H', n', W ++ σ.W⟩
          | false => none
        | none => none
      | _ => none
    | .inLoop b :: k => ih (.code b :: .inLoop b :: k) σ
    | .inBlock _ :: k => ih k σ
    | .inScope _ :: k => ih k σ
    | _ => none := by
  cases todo with
  | nil => rfl
  | cons x k =>
    cases x with
    | code c =>
      cases c with
      | region id ops b =>
        cases b with
        | false =>
          simp only [todoK, itemK, codeK]
          cases seqOps E fs asm ih ops ops.toList σ <;> rfl
        | true => rfl
      | cond x a b => exact condK_eq _ _ _ _ _ _
      | exit id =>
        simp only [todoK, itemK, codeK]
        cases exitTo id k <;> rfl
      | goto l =>
        simp only [todoK, itemK, codeK]
        cases gotoIn l k <;> rfl
      | _ => rfl
    | _ => rfl

theorem run_le_ (hL : Law E ρ B fs asm) : ∀ fu, RunOK E ρ B (run E fs asm fu) := by
  intro fu
  induction fu with
  | zero => exact ⟨fun todo σ o h => (by cases h), fun todo σ o h => (by cases h)⟩
  | succ fu ih =>
    constructor
    · intro todo σ o h
      rw [run_succ, todoK_eq] at h
      split at h
      · cases h; exact ⟨Nat.le_refl _, rfl, fun _ h => h⟩
      · rename_i c k
        split at h
        all_goals first
          | exact ih.le _ _ _ h
          | (cases h; done)
          | (cases h; exact ⟨Nat.le_refl _, rfl, fun _ h => h⟩)
          | skip
        · split at h
          · exact ih.le _ _ _ h
          · exact ih.le _ _ _ h
          · cases h
        · split at h
          · exact ih.le _ _ _ h
          · cases h
        · split at h
          · exact ih.le _ _ _ h
          · cases h
        · split at h
          · rename_i σ' hσ
            obtain ⟨h1, h2, h3⟩ := seqOps_le ih _ _ _ hσ
            obtain ⟨k1, k2, k3⟩ := ih.le _ _ _ h
            exact ⟨Nat.le_trans h1 k1, k2.trans h2, fun x hx => k3 x (h3 x hx)⟩
          · cases h
        · split at h
          · rename_i T' H' n' W rs hd
            split at h
            · obtain ⟨k1, k2, k3⟩ := ih.le _ _ _ h
              exact ⟨Nat.le_trans (drawOps_le ih hd) k1, k2, fun x hx => k3 x (List.mem_append.2 (.inr hx))⟩
            · cases h
          · cases h
      · exact ih.le _ _ _ h
      · exact ih.le _ _ _ h
      · exact ih.le _ _ _ h
      · cases h
    · intro todo σ o h β w b a cs hG hS hT hn
      have more : ∀ {todo' : List Item} {σ' : St}, run E fs asm fu todo' σ' = some o → step E.P (lone (b.at a todo) cs w) = .next (lone (b.at a todo') cs w) → σ' = σ →
          ∃ β' a' w' todo', Steps E.P (lone (b.at a todo) cs w) (lone { b.at a' todo' with mode := .returning } cs w') ∧ ST β' ρ o.N o.T a' ∧ Post ρ B β σ.H σ.n w β' o.H o.n o.W w' := by
        rintro todo' σ' hrun hs rfl
        obtain ⟨β', a', w', todo', h1, h2, h3⟩ := ih.ok _ _ _ hrun β w b a cs hG hS hT hn
        exact ⟨β', a', w', todo', .head hs h1, h2, h3⟩
      -- behind a region
      have region : ∀ {id : Nat} {ops : Array Oper} {dr : Bool} {k : List Item} {σ' : St}, run E fs asm fu k σ' = some o → (∀ x, x ∈ σ.W → x ∈ σ'.W) → todo = .code (.region id ops dr) :: k →
          (∀ Q : Exit → Act → World → Prop, (∀ β' a' w', ST β' ρ σ'.N σ'.T a' → Post ρ B β σ.H σ.n w β' σ'.H σ'.n σ'.W w' → Q .normal a' w') → (Code.region id ops dr).wp E.P Q a w) →
          ∃ β' a' w' todo', Steps E.P (lone (b.at a todo) cs w) (lone { b.at a' todo' with mode := .returning } cs w') ∧ ST β' ρ o.N o.T a' ∧ Post ρ B β σ.H σ.n w β' o.H o.n o.W w' := by
        rintro rid ops dr k σ' hrun hW rfl hwp
        obtain ⟨e, a1, w1, ⟨rfl, β1, hT1, hp1⟩, harr⟩ := hwp (fun e a' w' => e = .normal ∧ ∃ β', ST β' ρ σ'.N σ'.T a' ∧ Post ρ B β σ.H σ.n w β' σ'.H σ'.n σ'.W w') (fun β' a' w' h1 h2 => ⟨rfl, β', h1, h2⟩) b k cs
        obtain ⟨k1, k2, k3⟩ := ih.le _ _ _ hrun
        have hle := hp1.le
        obtain ⟨β', a', w', todo', h1, h2, h3⟩ := ih.ok _ _ _ hrun β1 w1 b a1 cs (hG.post hS hp1) hp1.sh hT1 (fun l h1 h2 => by
          rw [hp1.ext l (by omega)]; exact hn l (by omega) h2)
        exact ⟨β', a', w', todo', Steps.trans harr h1, h2, (hp1.trans h3).W_mono fun x hx => (List.mem_append.1 hx).elim id (k3 x)⟩
      rw [run_succ, todoK_eq] at h
      split at h
      · cases h
        exact ⟨β, a, w, [], .one step_end, hT, (Post.refl hS).W_mono fun x hx => by cases hx⟩
      · rename_i c k
        split at h
        · exact more h step_skip rfl
        · exact more h step_label rfl
        · cases h
          exact ⟨β, a, w, _, .one step_ret, hT, (Post.refl hS).W_mono fun x hx => by cases hx⟩
        · exact more h step_seq rfl
        · split at h
          · rename_i hc
            exact more h (step_cond (t := true) (hT.ev _ _ hc)) rfl
          · rename_i hc
            exact more h (step_cond (t := false) (hT.ev _ _ hc)) rfl
          · cases h
        · exact more h step_block rfl
        · exact more h step_loop rfl
        · exact more h step_scope rfl
        · split at h
          · rename_i hk
            exact more h (step_exit hk) rfl
          · cases h
        · split at h
          · rename_i hk
            exact more h (step_goto hk) rfl
          · cases h
        · split at h
          · rename_i σ' hσ
            obtain ⟨h1, h2, h3⟩ := seqOps_le ih _ _ _ hσ
            have h4 := (ih.le _ _ _ h).1
            refine region h h3 rfl fun Q hQ => wp_region_list (seqOps_ok hL.cx hL.asm hL.ext ih _ _ _ hσ β w a hG hS hT (fun l h5 h6 => hn l h5 (by omega)) Q hQ)
          · cases h
        · split at h
          · rename_i T' H' n' W rs hd
            split at h
            · rename_i hord
              have h4 := (ih.le _ _ _ h).1
              refine region h (fun x hx => List.mem_append.2 (.inr hx)) rfl fun Q hQ => drawOps_ok hL.mixed hL.cx hL.asm hL.ext ih hd hord hG hS hT (fun l h5 h6 => hn l h5 (Nat.lt_of_lt_of_le h6 h4)) (fun β' a' w' h7 h8 => hQ β' a' w' h7 (h8.W_mono fun x hx => List.mem_append.2 (.inl hx))) _
            · cases h
          · cases h
        · cases h
      · exact more h step_inLoop rfl
      · exact more h step_inBlock rfl
      · exact more h step_inScope rfl
      · cases h

/-! ### A whole call -/
/-- The run of a function's body from nothing: its arguments in their places. -/
def callB (E : Env) (fs : List (IE × Int)) (asm : List (BE × Bool)) (fu : Nat) (f : Nat) (args : List EV) : Option TV :=
  match E.P.funcs[f]? with
  | some fn => match fn.body with
    | some c => match Nat.ble args.length fn.ntmps with
      | true => match run E fs asm fu [.code c] ⟨fn.ntmps, initT 0 args .nil, .nil, 0, []⟩ with
        | some o => resultsB E fn o.T o.H
        | none => none
      | false => none
    | none => none
  | none => none

theorem callB_ok (hL : Law E ρ w.heap.size fs asm) (hG : GlobOK E w.heap.size w) {fu f : Nat} {args : List EV} {v : TV} (h : callB E fs asm fu f args = some v) {vs : List Value} (hf : F2 (EV.D (fun _ => none) ρ) args vs) :
    Calls E.P f vs.toArray w fun e w' => ∃ u β, e = .returned u ∧ v.D β ρ u ∧ Below w.heap.size w w' := by
  unfold callB at h
  split at h
  · rename_i fn hfn
    split at h
    · rename_i c hc
      split at h
      · rename_i hlen
        split at h
        · rename_i o ho
          have hlen' : vs.length ≤ fn.ntmps := by rw [← hf.length]; exact Nat.le_of_ble_eq_true hlen
          intro cs
          let b : Frame := { (default : Frame) with fn := f, kind := .normal }
          let a0 : Act := { tmps := vs.toArray ++ Array.replicate (fn.ntmps - vs.toArray.size) undef, defers := [] }
          have henter : Frame.enter E.P f vs.toArray .normal = b.at a0 [.code c] := by simp [Frame.enter, Frame.at, hfn, hc, b, a0]
          have hst : ST (fun _ => none) ρ fn.ntmps (initT 0 args .nil) a0 := by
            refine ⟨by simp [a0]; omega, fun d t hd => ?_, rfl⟩
            rw [initT_get] at hd
            split at hd
            · rename_i hlt
              cases he : args[d]? with
              | none => simp [he] at hd
              | some e =>
                simp [he] at hd; subst hd
                obtain ⟨u, hu, hd⟩ := hf.get _ _ he
                refine ⟨u, ?_, hd⟩
                have : d < vs.length := (List.getElem?_eq_some_iff.1 hu).1
                simp [a0, Array.getElem?_append, this]
                have := (List.getElem?_eq_some_iff.1 hu).2
                exact this
            · rw [Tr.get_nil] at hd; cases hd
          have hS : SH (fun _ => none) ρ w.heap.size .nil w := ⟨fun l b hl => (by rw [Tr.get_nil] at hl; cases hl), fun l m b c x d hl => (by rw [Tr.get_nil] at hl; cases hl), fun l b x hl => (by rw [Tr.get_nil] at hl; cases hl), Nat.le_refl _⟩
          obtain ⟨β', a', w', todo', hsteps, hst', hp⟩ := (run_le_ hL fu).ok _ _ _ ho (fun _ => none) w b a0 cs hG hS hst (fun _ _ _ => rfl)
          obtain ⟨u, hres, hd⟩ := resultsB_ok hp.sh hst'.at_ h
          refine ⟨.returned u, w', _, ⟨u, β', rfl, hd, hp.os, hp.tape, hp.output, hp.size, fun k hk => hp.frame k hk fun l b a hl => (by rw [Tr.get_nil] at hl; cases hl)⟩, by rw [henter]; exact hsteps, rfl, rfl, hst'.defers, rfl, fn, hfn, hres⟩
        · cases h
      · cases h
    · cases h
  · cases h
end Go.Sx
end

/- What the listed package-level tables hold; calls into the library's own code; the evaluator's verdict. -/
noncomputable section
namespace Go.Sx
open RowKit (Below)
variable {H : Type} {enc : TypeId × Value → H} {P : Program} {w : World} {base : Nat} {sp : Nat → Bool} {held : Bool}

/-! ### Tables -/
/-- The parts of a datum, one behind the other, by a reader of one part. -/
def joinCells (rd : TypeId → DataW H → Option (List Value)) (P : Program) : List (TypeId × Nat) → List (DataW H) → Nat → Option (List Value)
  | [], [], _ => some []
  | (t, off) :: ts, d :: ds, o => match Nat.beq off o, rd t d with
    | true, some l => match Nat.beq l.length (P.cellsOf t) with
      | true => match joinCells rd P ts ds (o + l.length) with
        | some r => some (l ++ r)
        | none => none
      | false => none
    | _, _ => none
  | _, _, _ => none
/-- The cells that a datum of a type stands for. -/
def dataCells (P : Program) : Nat → TypeId → DataW H → Option (List Value)
  | 0, _, _ => none
  | f + 1, t, d => match P.underlying t with
    | some (.int k) => match d with
      | .lit (.int _ n) => some [.int k n]
      | _ => none
    | some .bool => match d with
      | .lit (.bool b) => some [.bool b]
      | _ => none
    | some .string => match d with
      | .lit (.string s) => some [.string ⟨⟨s⟩⟩]
      | _ => none
    | some (.struct fs) => match d with
      | .agg ds => match joinCells (dataCells P f) P (fs.toList.map fun x => (x.type, x.offset)) ds 0 with
        | some l => match Nat.beq l.length (P.cellsOf t) with
          | true => some l
          | false => none
        | none => none
      | _ => none
    | some (.array n e) => match d with
      | .agg ds => match joinCells (dataCells P f) P ((List.range n).map fun i => (e, i * P.cellsOf e)) ds 0 with
        | some l => match Nat.beq l.length (P.cellsOf t) with
          | true => some l
          | false => none
        | none => none
      | _ => none
    | _ => none

theorem joinCells_ok {rd : TypeId → DataW H → Option (List Value)} {f : Nat} (hrd : ∀ t d l cs p, rd t d = some l → DataW.trod enc P w base sp held f t cs = some (d, p) → cs = l) {cs : List Value} :
    ∀ (ts : List (TypeId × Nat)) (ds : List (DataW H)) (o : Nat) (r : List Value) (xs : List (DataW H × List MemPlace)), joinCells rd P ts ds o = some r → ds = xs.map (·.1) →
      (∀ (i : Nat) x, ts[i]? = some x → ∃ b, xs[i]? = some b ∧ DataW.trod enc P w base sp held f x.1 ((cs.drop x.2).take (P.cellsOf x.1)) = some b) → (cs.drop o).take r.length = r
  | [], [], o, r, xs, h, _, _ => by cases h; simp
  | [], _ :: _, _, _, _, h, _, _ => by cases h
  | _ :: _, [], _, _, _, h, _, _ => by cases h
  | (t, off) :: ts, d :: ds, o, r, xs, h, hx, ht => by
    rw [joinCells] at h
    split at h
    · rename_i l ho hl
      split at h
      · rename_i hlen
        split at h
        · rename_i r' hr'
          cases h
          cases xs with
          | nil => cases hx
          | cons x xs =>
            simp only [List.map_cons, List.cons.injEq] at hx
            have ho' := Nat.eq_of_beq_eq_true ho
            have hlen' := Nat.eq_of_beq_eq_true hlen
            subst ho'
            obtain ⟨b, hb, hd⟩ := ht 0 (t, off) rfl
            simp only [List.getElem?_cons_zero, Option.some.injEq] at hb
            subst hb
            have h1 : (cs.drop off).take (P.cellsOf t) = l := hrd t d l _ x.2 hl (by rw [hd, hx.1])
            have h2 := joinCells_ok hrd ts ds (off + l.length) r' xs hr' hx.2 (fun i y hy => by simpa using ht (i + 1) y (by simpa using hy))
            rw [List.length_append, List.take_add, List.drop_drop, h2, hlen', h1]
        · cases h
      · cases h
    · cases h

theorem dataCells_ok : ∀ (f : Nat) (t : TypeId) (d : DataW H) (l : List Value), dataCells P f t d = some l → ∀ (cs : List Value) (p : List MemPlace) (fuel : Nat), DataW.trod enc P w base sp held fuel t cs = some (d, p) → cs = l
  | 0, _, _, _, h, _, _, _, _ => by cases h
  | f + 1, t, d, l, h, cs, p, fuel, ht => by
    cases fuel with
    | zero => simp [DataW.trod] at ht
    | succ fuel =>
      unfold dataCells at h
      split at h
      · rename_i hu
        split at h
        · obtain ⟨m, h1, h2, _⟩ := DataW.trod_int hu ht
          cases h
          simp only [Prod.mk.injEq, DataW.lit.injEq, Lit.int.injEq] at h2
          rw [h1, h2.1.2]
        · cases h
      · rename_i hu
        split at h
        · cases h
          unfold DataW.trod at ht
          rw [hu] at ht
          split at ht <;> simp_all
        · cases h
      · rename_i hu
        split at h
        · obtain ⟨s, h1, h2, _⟩ := DataW.trod_string hu ht
          cases h
          simp only [Prod.mk.injEq, DataW.lit.injEq, Lit.string.injEq] at h2
          rw [h1, h2.1]
        · cases h
      · rename_i fs hu
        split at h
        · rename_i ds
          split at h
          · rename_i l' hl'
            split at h
            · rename_i hlen
              cases h
              simp only [DataW.trod, hu] at ht
              split at ht
              · rename_i hcl
                obtain ⟨xs, hm, hx⟩ := Option.map_eq_some_iff.1 ht
                have hds : ds = xs.map (·.1) := by simpa using (congrArg Prod.fst hx).symm
                have := joinCells_ok (enc := enc) (w := w) (base := base) (sp := sp) (held := held) (f := fuel) (cs := cs) (fun t d l cs p h1 h2 => dataCells_ok f t d l h1 cs p fuel h2) _ _ _ _ xs hl' hds (fun i x hi => by
                  rw [List.getElem?_map] at hi
                  obtain ⟨y, hy, rfl⟩ := Option.map_eq_some_iff.1 hi
                  exact Lib.mapM_at hm i y hy)
                rw [List.drop_zero, Nat.eq_of_beq_eq_true hlen, ← hcl, List.take_length] at this
                exact this
              · cases ht
            · cases h
          · cases h
        · cases h
      · rename_i n e hu
        split at h
        · rename_i ds
          split at h
          · rename_i l' hl'
            split at h
            · rename_i hlen
              cases h
              simp only [DataW.trod, hu] at ht
              split at ht
              · rename_i hcl
                obtain ⟨xs, hm, hx⟩ := Option.map_eq_some_iff.1 ht
                have hds : ds = xs.map (·.1) := by simpa using (congrArg Prod.fst hx).symm
                have := joinCells_ok (enc := enc) (w := w) (base := base) (sp := sp) (held := held) (f := fuel) (cs := cs) (fun t d l cs p h1 h2 => dataCells_ok f t d l h1 cs p fuel h2) _ _ _ _ xs hl' hds (fun i x hi => by
                  rw [List.getElem?_map] at hi
                  obtain ⟨y, hy, rfl⟩ := Option.map_eq_some_iff.1 hi
                  exact Lib.mapM_at hm i y hy)
                rw [List.drop_zero, Nat.eq_of_beq_eq_true hlen, ← hcl, List.take_length] at this
                exact this
              · cases ht
            · cases h
          · cases h
        · cases h
      · cases h

theorem laidVars_mem {name : String} {d : DataW Unit} : ∀ {l : List (String × DataW Unit)} {ps : List MemPlace}, DataW.LaidVars P w l ps → (name, d) ∈ l → ∃ g t cs fuel p, P.globalNamed name = some g ∧ (P.globals[g]?).map (·.type) = some t ∧ w.var? P name = some cs ∧ DataW.trod (fun _ => ()) P w 0 (fun _ => true) false fuel t cs.toList = some (d, p)
  | [], _, _, h => by cases h
  | (n, x) :: r, ps, h, hm => by
    obtain ⟨g, t, cs, fuel, p, q, h1, h2, h3, h4, h5, _⟩ := h
    cases hm with
    | head => exact ⟨g, t, cs, fuel, p, h1, h2, h3, h4⟩
    | tail _ hm => exact laidVars_mem h5 hm

/-- A listed table's block. -/
theorem table_at {l : List (String × DataW Unit)} {name : String} {d : DataW Unit} {g : Nat} {t : TypeId} {vs : List Value} {f : Nat} (h : laidMet P l w) (hm : (name, d) ∈ l) (hg : P.globalNamed name = some g) (ht : (P.globals[g]?).map (·.type) = some t)
    (hd : dataCells P f t d = some vs) : g < w.heap.size ∧ ∃ arr ty fr, w.heap[g]? = some (.cells arr ty fr) ∧ arr.toList = vs := by
  obtain ⟨ps, h, _⟩ := h
  obtain ⟨g', t', cs, fuel, p, h1, h2, h3, h4⟩ := laidVars_mem h hm
  obtain rfl := Option.some.inj (hg.symm.trans h1)
  obtain rfl := Option.some.inj (ht.symm.trans h2)
  have hcs := dataCells_ok f t d vs hd _ _ _ h4
  unfold World.var? at h3
  rw [hg] at h3
  simp only [Option.bind_some] at h3
  split at h3
  · rename_i cs' ty fr hh
    cases h3
    exact ⟨(Array.getElem?_eq_some_iff.1 hh).1, cs, ty, fr, hh, hcs⟩
  · cases h3

/-- A call of a function of the library that the model answers itself. -/
theorem run_extern {f : FuncId} {fn : Func} {e : Array Value → Sem Value} {args : Array Value} {u : Value} (hf : P.funcs[f]? = some fn) (hn : (fn.name == "runtime.NumGoroutine") = false) (hb : fn.body.isNone = true) (hx : (Extern.findNext fn).isNone = true) (he : Extern.find fn = some e) (hu : ∀ w, (e args).run P w = .ok u w) (w : World) :
    (callFunc f args).run P w = .ok (.value u) w := by
  have h1 : fn.name ≠ "runtime.NumGoroutine" := by simpa using hn
  have h2 : fn.body = none := by simpa using hb
  have h3 : Extern.findNext fn = none := by simpa using hx
  simp [callFunc, hf, h1, h2, h3, he, hu]

/-! ### The verdict -/
def isTrue : Option TV → Bool
  | some (.ev (.one (.cst (.bool true)))) => true
  | _ => false
theorem isTrue_ok {o : Option TV} (h : isTrue o = true) : o = some (.ev (.one (.cst (.bool true)))) := by
  unfold isTrue at h
  split at h
  · rfl
  · cases h

theorem calls_true {E : Env} {ρ : Val} {fs : List (IE × Int)} {asm : List (BE × Bool)} (hL : Law E ρ w.heap.size fs asm) (hG : GlobOK E w.heap.size w) {fu f : Nat} {args : List EV} (h : isTrue (callB E fs asm fu f args) = true) {vs : List Value} (hf : F2 (EV.D (fun _ => none) ρ) args vs) :
    Calls E.P f vs.toArray w fun e w' => e = .returned (.bool true) ∧ Below w.heap.size w w' := by
  refine (callB_ok hL hG (isTrue_ok h) hf).mono fun e w' he => ?_
  obtain ⟨u, β, rfl, hd, hb⟩ := he
  cases hd
  exact ⟨rfl, hb⟩

theorem GlobOK.top {E : Env} {B : Nat} (h : GlobOK E B w) (hB : B ≤ w.heap.size) : GlobOK E w.heap.size w := fun g vs hg => let ⟨h1, h2⟩ := h g vs hg; ⟨Nat.lt_of_lt_of_le h1 hB, h2⟩
end Go.Sx
end

/- The symbolic evaluator: calls on known values, worked out once and for all. -/
noncomputable section
namespace Go.Sx
open RowKit (Below)

/-! ### Known values, held against each other -/
def bytesEq : List UInt8 → List UInt8 → Bool
  | [], [] => true
  | a :: r, b :: s => bif Nat.beq a.toNat b.toNat then bytesEq r s else false
  | _, _ => false
def allEq (q : Value → Value → Bool) : List Value → List Value → Bool
  | [], [] => true
  | a :: r, b :: s => bif q a b then allEq q r s else false
  | _, _ => false
def valEq : Nat → Value → Value → Bool
  | 0, _, _ => false
  | f + 1, a, b => match a, b with
    | .int k n, .int k' m => bif decide (k = k') then decide (n = m) else false
    | .bool x, .bool y => bif x then y else !y
    | .string s, .string t => bytesEq s.data.toList t.data.toList
    | .agg xs, .agg ys => allEq (valEq f) xs.toList ys.toList
    | .tuple xs, .tuple ys => allEq (valEq f) xs.toList ys.toList
    | .slice none 0 0, .slice none 0 0 => true
    | _, _ => false
theorem bytesEq_ok : ∀ {a b : List UInt8}, bytesEq a b = true → a = b
  | [], [], _ => rfl
  | [], _ :: _, h => by cases h
  | _ :: _, [], h => by cases h
  | a :: r, b :: s, h => by
    rw [bytesEq] at h
    cases hb : Nat.beq a.toNat b.toNat with
    | false => rw [hb] at h; cases h
    | true =>
      rw [hb, cond_true] at h
      rw [UInt8.toNat_inj.1 (Nat.eq_of_beq_eq_true hb), bytesEq_ok h]
theorem allEq_ok {q : Value → Value → Bool} (hq : ∀ a b, q a b = true → a = b) : ∀ {a b : List Value}, allEq q a b = true → a = b
  | [], [], _ => rfl
  | [], _ :: _, h => by cases h
  | _ :: _, [], h => by cases h
  | a :: r, b :: s, h => by
    rw [allEq] at h
    cases hb : q a b with
    | false => rw [hb] at h; cases h
    | true =>
      rw [hb, cond_true] at h
      rw [hq _ _ hb, allEq_ok hq h]
theorem valEq_ok : ∀ (f : Nat) (a b : Value), valEq f a b = true → a = b
  | 0, _, _, h => by cases h
  | f + 1, a, b, h => by
    unfold valEq at h
    split at h
    · rename_i k n k' m
      cases hk : decide (k = k') with
      | false => rw [hk] at h; cases h
      | true =>
        rw [hk, cond_true] at h
        rw [of_decide_eq_true hk, of_decide_eq_true h]
    · rename_i x y
      cases x <;> cases y <;> first | rfl | cases h
    · rename_i s t
      have := bytesEq_ok h
      congr 1
      cases s; cases t
      congr 1
      exact Array.ext' this
    · congr 1
      exact Array.ext' (allEq_ok (fun a b h => valEq_ok f a b h) h)
    · congr 1
      exact Array.ext' (allEq_ok (fun a b h => valEq_ok f a b h) h)
    · rfl
    · cases h

/-! ### Tables of calls -/
/-- A call, and what comes of it. -/
structure Memo where
  f : Nat
  args : List Value
  r : Value
def memoFind (f : Nat) (vs : List Value) : List Memo → Option Value
  | [] => none
  | m :: r => bif Nat.beq m.f f then (bif allEq (valEq 100) m.args vs then some m.r else memoFind f vs r) else memoFind f vs r
def memoHas (f : Nat) : List Memo → Bool
  | [] => false
  | m :: r => bif Nat.beq m.f f then true else memoHas f r
def withMemo (E : Env) (l : List Memo) : Env :=
  { E with ext := fun f => match E.ext f with
      | some h => some h
      | none => bif memoHas f l then some (fun vs => memoFind f vs l) else none }
def fuel : Nat := 100000000
def memoB (E : Env) : List Memo → Bool
  | [] => true
  | m :: r => match E.P.funcs[m.f]? with
    | some fn => bif isRt fn then false else match callB E [] [] fuel m.f (m.args.map EV.ofV) with
      | some v => match v.val? with
        | some u => bif valEq 100 u m.r then memoB E r else false
        | none => false
      | none => false
    | none => false

theorem memoB_append {E : Env} : ∀ {l m : List Memo}, memoB E l = true → memoB E m = true → memoB E (l ++ m) = true
  | [], _, _, h => h
  | x :: r, m, h, h' => by
    rw [List.cons_append]
    rw [memoB] at h ⊢
    split at h
    · rename_i fn hfn
      cases hrt : isRt fn with
      | true => rw [hrt] at h; cases h
      | false =>
        rw [hrt, cond_false] at h
        rw [cond_false]
        split at h
        · rename_i v hv
          try (rw [hv]; dsimp only)
          split at h
          · rename_i u hu
            try (rw [hu]; dsimp only)
            cases he : valEq 100 u x.r with
            | false => rw [he] at h; cases h
            | true =>
              rw [he, cond_true] at h
              rw [cond_true]
              exact memoB_append h h'
          · cases h
        · cases h
    · cases h

/-- What the proof asks for, of every world. -/
structure LawA (E : Env) (ρ : Val) (fs : List (IE × Int)) (asm : List (BE × Bool)) : Prop where
  cx : Cx E ρ fs
  asm : asmOK ρ asm
  ext : ∀ B, ExtOK E ρ B
  mixed : E.P.follows .mixedOrders = true
theorem LawA.at_ {E : Env} {ρ : Val} {fs : List (IE × Int)} {asm : List (BE × Bool)} (h : LawA E ρ fs asm) (B : Nat) : Law E ρ B fs asm := ⟨h.cx, h.asm, h.ext B, h.mixed⟩
theorem LawA.bare {E : Env} {ρ : Val} {fs : List (IE × Int)} {asm : List (BE × Bool)} (h : LawA E ρ fs asm) : LawA E ρ [] [] :=
  ⟨⟨h.cx.one, h.cx.len, fun _ hp => by cases hp⟩, fun _ hp => (by cases hp), h.ext, h.mixed⟩

theorem memoFind_mem {f : Nat} {vs : List Value} {u : Value} : ∀ {l : List Memo}, memoFind f vs l = some u → ∃ m ∈ l, m.f = f ∧ m.args = vs ∧ m.r = u
  | [], h => by cases h
  | m :: r, h => by
    rw [memoFind] at h
    cases hf : Nat.beq m.f f with
    | false =>
      rw [hf, cond_false] at h
      obtain ⟨x, hx, h1⟩ := memoFind_mem h
      exact ⟨x, List.mem_cons_of_mem _ hx, h1⟩
    | true =>
      rw [hf, cond_true] at h
      cases ha : allEq (valEq 100) m.args vs with
      | false =>
        rw [ha, cond_false] at h
        obtain ⟨x, hx, h1⟩ := memoFind_mem h
        exact ⟨x, List.mem_cons_of_mem _ hx, h1⟩
      | true =>
        rw [ha, cond_true] at h
        cases h
        exact ⟨m, by simp, Nat.eq_of_beq_eq_true hf, allEq_ok (valEq_ok 100) ha, rfl⟩

theorem memoB_mem {E : Env} : ∀ {l : List Memo}, memoB E l = true → ∀ m ∈ l, ∃ fn v, E.P.funcs[m.f]? = some fn ∧ isRt fn = false ∧ callB E [] [] fuel m.f (m.args.map EV.ofV) = some v ∧ v.val? = some m.r
  | [], _, m, hm => by cases hm
  | x :: r, h, m, hm => by
    rw [memoB] at h
    split at h
    · rename_i fn hfn
      cases hrt : isRt fn with
      | true => rw [hrt] at h; cases h
      | false =>
        rw [hrt, cond_false] at h
        split at h
        · rename_i v hv
          split at h
          · rename_i u hu
            cases he : valEq 100 u x.r with
            | false => rw [he] at h; cases h
            | true =>
              rw [he, cond_true] at h
              cases hm with
              | head => exact ⟨fn, v, hfn, hrt, hv, by rw [hu, valEq_ok _ _ _ he]⟩
              | tail _ hm => exact memoB_mem h m hm
          · cases h
        · cases h
    · cases h

theorem callB_body {E : Env} {fs : List (IE × Int)} {asm : List (BE × Bool)} {fu f : Nat} {args : List EV} {v : TV} (h : callB E fs asm fu f args = some v) {fn : Func} (hfn : E.P.funcs[f]? = some fn) : ∃ c, fn.body = some c := by
  unfold callB at h
  rw [hfn] at h
  simp only at h
  split at h
  · exact ⟨_, ‹_›⟩
  · cases h

/-- A table that was worked out may be leaned on. -/
theorem LawA.memo {E : Env} {ρ : Val} {fs : List (IE × Int)} {asm : List (BE × Bool)} (h : LawA E ρ fs asm) {l : List Memo} (hl : memoB E l = true) : LawA (withMemo E l) ρ fs asm := by
  refine ⟨⟨h.cx.one, h.cx.len, h.cx.facts⟩, h.asm, fun B => ⟨fun f k hk vs u hu w hB hG => ?_, (h.ext B).exth⟩, h.mixed⟩
  have hk' : (match E.ext f with
      | some h => some h
      | none => bif memoHas f l then some (fun vs => memoFind f vs l) else none) = some k := hk
  split at hk'
  · rename_i k' he
    cases hk'
    exact (h.ext B).ext f k he vs u hu w hB hG
  · cases hm : memoHas f l with
    | false => rw [hm] at hk'; cases hk'
    | true =>
      rw [hm, cond_true] at hk'
      cases hk'
      obtain ⟨m, hml, rfl, rfl, rfl⟩ := memoFind_mem hu
      obtain ⟨fn, v, h1, h2, h3, h4⟩ := memoB_mem hl m hml
      obtain ⟨c, hc⟩ := callB_body h3 h1
      have hG' : GlobOK E w.heap.size w := GlobOK.top (E := E) hG hB
      refine .inr ⟨run_callFunc h1 hc h2, ?_⟩
      have hf : F2 (EV.D (fun _ => none) ρ) (m.args.map EV.ofV) m.args := F2.same EV.ofV (fun v => ofV_EV v) _
      refine (callB_ok (h.bare.at_ _) hG' h3 hf).mono fun e w' he => ?_
      obtain ⟨u, β, rfl, hd, hb⟩ := he
      exact ⟨by rw [val_ok h4 hd], hb⟩

/-- The verdict on a call, in every world that holds the tables. -/
theorem LawA.true_ {E : Env} {ρ : Val} {fs : List (IE × Int)} {asm : List (BE × Bool)} (hL : LawA E ρ fs asm) {w : World} (hG : GlobOK E w.heap.size w) {f : Nat} {args : List EV} (h : isTrue (callB E fs asm fuel f args) = true) {vs : List Value} (hf : F2 (EV.D (fun _ => none) ρ) args vs) :
    Calls E.P f vs.toArray w fun e w' => e = .returned (.bool true) ∧ Below w.heap.size w w' := calls_true (hL.at_ _) hG h hf
end Go.Sx
end
