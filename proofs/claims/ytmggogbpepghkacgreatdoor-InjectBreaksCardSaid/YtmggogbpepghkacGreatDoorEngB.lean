/- The symbolic evaluator: single operations are right. Part 1: reading and writing rows. -/
import Derived.Test.YtmggogbpepghkacGreatDoorEngA
import Derived.Laws.IdiomStrings
import Derived.Laws.BytesArg
import Derived.MapKept
import Derived.WalkSpells

namespace Go.Sx
variable {P : Program} {ρ : Val} {B : Nat} {β γ : Bind} {H : Tr Blk} {n : Nat} {w w' : World}

theorem addr_add (b o i : Nat) : (⟨b, o, none⟩ : Addr).add i = ⟨b, o + i, none⟩ := by unfold Addr.add; split <;> simp_all

theorem run_isAggB {t : TypeId} {b : Bool} (h : isAggB P t = some b) (w : World) : (isAgg t).run P w = .ok b w := by
  unfold isAggB at h
  unfold isAgg
  cases hu : P.underlying t with
  | none => simp [hu] at h
  | some d => cases d <;> simp_all [run_underlying hu]
theorem run_sizeOfB {t : TypeId} {k : Nat} (h : sizeOfB P t = some k) (w : World) : (sizeOf t).run P w = .ok k w := by
  unfold sizeOfB at h
  cases hi : P.info? t with
  | none => simp [hi] at h
  | some i => simp [hi] at h; simp [sizeOf, typeInfo, hi, h]
theorem sizeOfB_info {t : TypeId} {i : TypeInfo} (h : P.info? t = some i) : sizeOfB P t = some i.size := by simp [sizeOfB, h]

/-- The cells of a row, in the world. -/
theorem row_cells {ty : TypeId} {cells : List SV} {a : Loc} (h : Blk.H β ρ w a (.row ty cells)) : ∃ vs, F2 (SV.D β ρ) cells vs ∧ ∀ i v, vs[i]? = some v → w.cell? ⟨a.blk, a.off + i, none⟩ = some v := by
  obtain ⟨arr, lo, hi, h1, h2, h3, h4, vs, h5, h6⟩ := h
  refine ⟨vs, h5, fun i v hv => ?_⟩
  have hlt : i < vs.length := (List.getElem?_eq_some_iff.1 hv).1
  rw [← h5.length] at hlt
  rw [← h6, List.getElem?_take, if_pos hlt, List.getElem?_drop] at hv
  simp [World.cell?, h1]
  simpa using hv

theorem takeAt_load {t : TypeId} {cells : List SV} {off : Nat} {e : EV} {vs : List Value} {b o : Nat} (h : takeAt P t cells off = some e) (hf : F2 (SV.D β ρ) cells vs)
    (hc : ∀ i v, vs[i]? = some v → w.cell? ⟨b, o + i, none⟩ = some v) : ∃ u, (loadVar t ⟨b, o + off, none⟩).run P w = .ok u w ∧ e.D β ρ u := by
  unfold takeAt at h
  split at h
  · rename_i ha
    split at h
    · rename_i k hk
      dsimp only at h
      cases hb : Nat.beq ((cells.drop off).take k).length k with
      | false => simp only [hb, cond_false] at h; cases h
      | true =>
        simp only [hb, cond_true, Option.some.injEq] at h
        subst h
        have hlen := Nat.eq_of_beq_eq_true hb
        have hf' := (hf.drop off).take k
        have hl' : ((vs.drop off).take k).length = k := by rw [← hf'.length]; exact hlen
        refine ⟨.agg ((vs.drop off).take k).toArray, ?_, _, hf', rfl⟩
        have hload := run_loadCells_list (P := P) w ⟨b, o + off, none⟩ ((vs.drop off).take k) (fun j v hv => by
          rw [addr_add]
          rw [List.getElem?_take] at hv
          split at hv
          · rw [List.getElem?_drop] at hv
            have := hc _ _ hv
            rwa [← Nat.add_assoc] at this
          · cases hv)
        rw [hl'] at hload
        simp [loadVar, run_isAggB ha, run_sizeOfB hk, hload]
    · cases h
  · rename_i ha
    split at h
    · rename_i s hs
      cases h
      obtain ⟨v, hv, hd⟩ := hf.get _ _ hs
      refine ⟨v, ?_, hd⟩
      simp [loadVar, run_isAggB ha, hc _ _ hv]
    · cases h
  · cases h

theorem takeAt_part {t : TypeId} {cells : List SV} {off : Nat} {e : EV} {vs : List Value} (h : takeAt P t cells off = some e) (hf : F2 (SV.D β ρ) cells vs) :
    ∃ u, (part t vs.toArray off).run P w = .ok u w ∧ e.D β ρ u := by
  unfold takeAt at h
  split at h
  · rename_i ha
    split at h
    · rename_i k hk
      dsimp only at h
      cases hb : Nat.beq ((cells.drop off).take k).length k with
      | false => simp only [hb, cond_false] at h; cases h
      | true =>
        simp only [hb, cond_true, Option.some.injEq] at h
        subst h
        have hf' := (hf.drop off).take k
        refine ⟨.agg ((vs.drop off).take k).toArray, ?_, _, hf', rfl⟩
        simp [part, run_isAggB ha, run_sizeOfB hk]
    · cases h
  · rename_i ha
    split at h
    · rename_i s hs
      cases h
      obtain ⟨v, hv, hd⟩ := hf.get _ _ hs
      refine ⟨v, ?_, hd⟩
      simp [part, run_isAggB ha, hv]
    · cases h
  · cases h

theorem setCell_row (w : World) (g i : Nat) (arr : Array Value) (t : TypeId) (fr : Nat × Nat) (v : Value) (hg : w.heap[g]? = some (.cells arr t fr)) :
    (w.setCell ⟨g, i, none⟩ v).heap[g]? = some (.cells (arr.setIfInBounds i v) t fr) := by
  simp only [World.setCell, Array.getElem?_modify, if_true, hg, Option.map_some]
  simp

theorem run_storeCells_row (P : Program) (g o : Nat) (t : TypeId) (lo hi : Nat) : ∀ (vs : List Value) (i : Nat) (arr : Array Value) (w : World), w.heap[g]? = some (.cells arr t (lo, hi)) → o + i + vs.length ≤ arr.size → (∀ v ∈ vs, v.oneCell' = true) →
    (hi = 0 ∨ o + i + vs.length ≤ lo) →
    ∃ w', (storeCells ⟨g, o, none⟩ vs i).run P w = .ok () w' ∧ w'.heap.size = w.heap.size ∧ (∀ k, k ≠ g → w'.heap[k]? = w.heap[k]?) ∧
      w'.heap[g]? = some (.cells (arr.toList.take (o + i) ++ vs ++ arr.toList.drop (o + i + vs.length)).toArray t (lo, hi)) ∧ w'.os = w.os ∧ w'.tape = w.tape ∧ w'.output = w.output
  | [], i, arr, w, hg, _, _, _ => by
    refine ⟨w, rfl, rfl, fun _ _ => rfl, ?_, rfl, rfl, rfl⟩
    simp only [List.append_nil, List.length_nil, Nat.add_zero, List.take_append_drop, Array.toArray_toList]
    exact hg
  | v :: rest, i, arr, w, hg, hl, h1, hfz => by
    simp only [List.length_cons] at hl hfz
    have hcell : w.cell? ⟨g, o + i, none⟩ = some arr[o + i] := by simp [World.cell?, hg]
    have hfr : w.frozen? ⟨g, o + i, none⟩ = false := by
      simp only [World.frozen?, hg]
      rcases hfz with h | h
      · subst h; simp
      · have : ¬ lo ≤ o + i := by omega
        simp [this]
    have hst : (store ((⟨g, o, none⟩ : Addr).add i) v).run P w = .ok () (w.setCell ⟨g, o + i, none⟩ v) := by
      rw [addr_add, run_store P w _ v _ (h1 v (by simp)), hcell]
      simp [hfr]
    have hg' := setCell_row w g (o + i) arr t (lo, hi) v hg
    obtain ⟨w', hr, hs, ho, hh, e1, e2, e3⟩ := run_storeCells_row P g o t lo hi rest (i + 1) (arr.setIfInBounds (o + i) v) (w.setCell ⟨g, o + i, none⟩ v) hg' (by simp; omega) (fun u hu => h1 u (by simp [hu])) (by rcases hfz with h | h; exact .inl h; exact .inr (by omega))
    refine ⟨w', ?_, ?_, ?_, ?_, ?_, ?_, ?_⟩
    · simp only [storeCells, Sem.run_bind, hst, Result.andThen_ok]
      exact hr
    · rw [hs]; simp
    · intro k hk
      rw [ho k hk]
      exact heap_setCell_other w _ k v (by simpa using hk)
    · rw [hh]
      congr 3
      simp only [Array.toList_setIfInBounds, List.length_cons]
      have := list_seg_step arr.toList (o + i) v rest (by simp; omega)
      rw [show o + (i + 1) = o + i + 1 by omega, show o + i + 1 + rest.length = o + i + 1 + rest.length from rfl]
      rw [this]
    · exact e1
    · exact e2
    · exact e3

theorem okCell_one {s : SV} {v : Value} (ho : ∀ i, (ρ.x i).oneCell' = true) (hs : s.okCell = true) (h : s.D β ρ v) : v.oneCell' = true := by
  cases s with
  | cst u => simp only [SV.D] at h; subst h; exact hs
  | num k e => simp only [SV.D] at h; subst h; rfl
  | tst e => simp only [SV.D] at h; subst h; rfl
  | opq i => simp only [SV.D] at h; subst h; exact ho i
  | ptr l off => obtain ⟨a, _, rfl⟩ := h; rfl
  | slc l off esz len cap => obtain ⟨a, _, rfl⟩ := h; rfl
  | tl l o0 o1 esz => obtain ⟨a, _, rfl⟩ := h; rfl
  | mp l => obtain ⟨a, _, rfl⟩ := h; rfl
  | fnv fn a b => obtain ⟨xs, ys, _, _, rfl⟩ := h; rfl
theorem okCells_one {l : List SV} {vs : List Value} (ho : ∀ i, (ρ.x i).oneCell' = true) (hs : l.all SV.okCell = true) (h : F2 (SV.D β ρ) l vs) : ∀ v ∈ vs, v.oneCell' = true := by
  induction h with
  | nil => intro v hv; cases hv
  | cons h _ ih =>
    simp only [List.all_cons, Bool.and_eq_true] at hs
    intro v hv
    cases hv with
    | head => exact okCell_one ho hs.1 h
    | tail _ hv => exact ih hs.2 v hv

/-- Cells put into a row: what the row then is. -/
theorem row_put {ty : TypeId} {cells cells' cs : List SV} {a : Loc} {off : Nat} {us : List Value} (h : Blk.H β ρ w a (.row ty cells)) (hp : putAt cells off cs = some cells') (hf : F2 (SV.D β ρ) cs us) (h1 : ∀ v ∈ us, v.oneCell' = true) :
    ∃ w', (storeCells ⟨a.blk, a.off + off, none⟩ us).run P w = .ok () w' ∧ w'.heap.size = w.heap.size ∧ (∀ k, k ≠ a.blk → w'.heap[k]? = w.heap[k]?) ∧ w'.os = w.os ∧ w'.tape = w.tape ∧ w'.output = w.output ∧ Blk.H β ρ w' a (.row ty cells') := by
  obtain ⟨arr, lo, hi, g1, g2, g3, g4, vs, g5, g6⟩ := h
  unfold putAt at hp
  cases hb : Nat.ble (off + cs.length) cells.length with
  | false => simp [hb] at hp
  | true =>
    simp only [hb, cond_true, Option.some.injEq] at hp
    subst hp
    have hle := Nat.le_of_ble_eq_true hb
    have hlen := hf.length
    obtain ⟨w', hr, hs, ho, hh, e1, e2, e3⟩ := run_storeCells_row P a.blk (a.off + off) ty lo hi us 0 arr w g1 (by omega) h1 (by rcases g4 with h | h; exact .inl h; exact .inr (by omega))
    refine ⟨w', hr, hs, ho, e1, e2, e3, _, lo, hi, hh, ?_, ?_, g4, vs.take off ++ us ++ vs.drop (off + cs.length), ?_, ?_⟩
    · simp only [List.size_toArray, List.length_append, List.length_take, List.length_drop, Array.length_toList]; omega
    · simp only [List.length_append, List.length_take, List.length_drop]; omega
    · exact ((g5.take off).append hf).append (g5.drop _)
    · subst g6
      have hcl : (cells.take off ++ cs ++ cells.drop (off + cs.length)).length = cells.length := by simp only [List.length_append, List.length_take, List.length_drop]; omega
      rw [hcl]
      apply List.ext_getElem?
      intro j
      simp only [List.getElem?_take, List.getElem?_drop, List.getElem?_append, List.length_append, List.length_take, List.length_drop, Array.length_toList, Nat.add_zero]
      have hsz : a.off + cells.length ≤ arr.size := by omega
      by_cases hj : j < cells.length
      · rw [if_pos hj]
        by_cases hj1 : j < off
        · rw [if_pos (by omega), if_pos (by omega), if_pos (by omega), if_pos (by omega), if_pos (by omega), if_pos hj, if_pos hj1]
        · by_cases hj2 : j < off + cs.length
          · rw [if_pos (by omega), if_neg (by omega), if_pos (by omega), if_neg (by omega)]
            congr 1
            omega
          · rw [if_neg (by omega), if_neg (by omega), if_pos (by omega)]
            congr 1
            omega
      · rw [if_neg hj]
        rw [if_neg (by omega), if_neg (by omega)]
end Go.Sx

/- The symbolic evaluator: single operations are right. Part 2: operations on memory. -/
namespace Go.Sx
variable {E : Env} {ρ : Val} {B : Nat} {β γ : Bind} {H : Tr Blk} {n : Nat} {w w' : World}

/-- An operation's value is what the evaluator says. -/
def ValOK (P : Program) (ρ : Val) (B : Nat) (β : Bind) (H : Tr Blk) (n : Nat) (w : World) (e : Sem Value) : OR → Prop
  | .val v H' n' W => (∀ l, n ≤ l → l < n' → β l = none) → ∃ u w' β', e.run P w = .ok u w' ∧ v.D β' ρ u ∧ Post ρ B β H n w β' H' n' W w'
  | .call _ _ => False
  | _ => True
def UnitOK (P : Program) (ρ : Val) (B : Nat) (β : Bind) (H : Tr Blk) (n : Nat) (w : World) (e : Sem Unit) : OR → Prop
  | .val v H' n' W => (∀ l, n ≤ l → l < n' → β l = none) → ∃ w' β', e.run P w = .ok () w' ∧ v.D β' ρ undef ∧ Post ρ B β H n w β' H' n' W w'
  | .call _ _ => False
  | _ => True

/-- The tables are as they are said to be. -/
def GlobOK (E : Env) (B : Nat) (w : World) : Prop := ∀ g vs, E.glob g = some vs → g < B ∧ ∃ arr ty fr, w.heap[g]? = some (.cells arr ty fr) ∧ arr.toList = vs
theorem undef_D : (TV.tup []).D β ρ undef := ⟨[], .nil, rfl⟩

theorem cst_F2 (vs : List Value) : F2 (SV.D β ρ) (vs.map .cst) vs := F2.same SV.cst (fun _ => rfl) vs

theorem load_ok (hS : SH β ρ B H w) (hG : GlobOK E B w) {t : TypeId} {a : TV} {u : Value} (ha : a.D β ρ u) : ValOK E.P ρ B β H n w (Instr.loadAt t u) (loadOp E H n t a) := by
  unfold loadOp
  split
  · rename_i l off
    obtain ⟨c, hc, rfl⟩ := ha
    split
    · rename_i ty cells hl
      split
      · rename_i e he
        intro _
        obtain ⟨c', hc', hb⟩ := hS.at_ _ _ hl
        rw [hc] at hc'; cases hc'
        obtain ⟨vs, hf, hcell⟩ := row_cells hb
        obtain ⟨v, hr, hd⟩ := takeAt_load (b := c.blk) (o := c.off) he hf hcell
        exact ⟨v, w, β, by simp [Instr.loadAt, Instr.sureAddr, hr], hd, Post.refl hS⟩
      · trivial
    · trivial
  · rename_i g off
    simp only [TV.D, EV.D, SV.D] at ha
    subst ha
    split
    · rename_i vs hg
      split
      · rename_i e he
        intro _
        obtain ⟨_, arr, ty, fr, h1, h2⟩ := hG g vs hg
        obtain ⟨v, hr, hd⟩ := takeAt_load (ρ := ρ) (β := β) (w := w) (b := g) (o := 0) he (cst_F2 vs) (fun i v hv => by
          subst h2
          simp [World.cell?, h1]
          simpa using hv)
        rw [Nat.zero_add] at hr
        exact ⟨v, w, β, by simp [Instr.loadAt, Instr.sureAddr, hr], hd, Post.refl hS⟩
      · trivial
    · trivial
  · trivial

theorem ev_cells {e : EV} {u : Value} (h : e.D β ρ u) (hs : ∀ cs, u ≠ .agg cs → True := fun _ _ => trivial) (hone : e.cells.all SV.okCell = true) (ho : ∀ i, (ρ.x i).oneCell' = true) : F2 (SV.D β ρ) e.cells u.cells.toList := by
  cases e with
  | one s =>
    simp only [EV.cells, List.all_cons, List.all_nil, Bool.and_true] at hone
    have h1 := okCell_one ho hone h
    have : u.cells = #[u] := by cases u <;> first | rfl | simp [Value.oneCell'] at h1
    rw [this]
    exact .cons h .nil
  | agg cs =>
    obtain ⟨vs, hf, rfl⟩ := h
    simpa [Value.cells, EV.cells] using hf

theorem store_ok (ho : ∀ i, (ρ.x i).oneCell' = true) (hS : SH β ρ B H w) {t : TypeId} {a x : TV} {u v : Value} (ha : a.D β ρ u) (hx : x.D β ρ v) : UnitOK E.P ρ B β H n w (Instr.storeAt t u v) (storeOp E H n t a x) := by
  unfold storeOp
  split
  · rename_i l off e
    obtain ⟨c, hc, rfl⟩ := ha
    split
    · rename_i ty cells hl
      split
      · rename_i k hk
        cases hb : (Nat.beq e.cells.length k && e.cells.all SV.okCell) with
        | false => trivial
        | true =>
          simp only [cond_true]
          simp only [Bool.and_eq_true] at hb
          split
          · rename_i cells' hp
            intro _
            obtain ⟨c', hc', hrow⟩ := hS.at_ _ _ hl
            rw [hc] at hc'; cases hc'
            have hf := ev_cells (u := v) hx (fun _ _ => trivial) hb.2 ho
            obtain ⟨w', hr, hs, hoth, e1, e2, e3, hrow'⟩ := row_put (P := E.P) hrow hp hf (okCells_one ho hb.2 hf)
            have hlen : v.cells.size = k := by
              have := hf.length
              rw [Nat.eq_of_beq_eq_true hb.1] at this
              simpa using this.symm
            refine ⟨w', β, ?_, undef_D, post_upd hS hl hc hs hoth e1 e2 e3 hrow'⟩
            simp [Instr.storeAt, Instr.sureAddr, storeVar, run_sizeOfB hk, hlen, hr]
          · trivial
      · trivial
    · trivial
  · trivial

theorem blk_new_row {β : Bind} {ty : TypeId} {cells : List SV} {arr : Array Value} {b : Nat} {w : World} (h : w.heap[b]? = some (.cells arr ty)) (hf : F2 (SV.D β ρ) cells arr.toList) : Blk.H β ρ w ⟨b, 0, arr.size⟩ (.row ty cells) := by
  have hl : cells.length = arr.size := by have := hf.length; simpa using this
  refine ⟨arr, 0, 0, h, by simp, by simp [hl], .inl rfl, _, hf, ?_⟩
  rw [List.drop_zero, hl, ← Array.length_toList]
  exact List.take_length

theorem heap_push_new (w : World) (o : Obj) : ({ w with heap := w.heap.push o } : World).heap[w.heap.size]? = some o := by simp

theorem alloc_ok (hS : SH β ρ B H w) {t : TypeId} : ValOK E.P ρ B β H n w (Instr.alloc t true (.tuple #[])) (allocOp E H n t) := by
  unfold allocOp
  split
  · rename_i i hi
    split
    · rename_i z hz
      intro hn
      have hr : (Instr.alloc t true (.tuple #[])).run E.P w = .ok (.pointer (some ⟨w.heap.size, 0, none⟩)) { w with heap := w.heap.push (.cells z.cells t) } := by
        simp [Instr.alloc, zeroValue, typeInfo, hi, hz, newVar, newRow]
      refine ⟨_, _, β.put n ⟨w.heap.size, 0, z.cells.size⟩, hr, ⟨_, Bind.put_same _ _ _, rfl⟩, post_new hS (hn n (Nat.le_refl _) (Nat.lt_succ_self _)) _ _ _ rfl rfl rfl rfl ?_⟩
      exact blk_new_row (heap_push_new w _) (cst_F2 _)
    · trivial
  · trivial

theorem box_ok (ho : ∀ i, (ρ.x i).oneCell' = true) (hS : SH β ρ B H w) {t : TypeId} {x : TV} {u : Value} (hx : x.D β ρ u) : ValOK E.P ρ B β H n w (Instr.box t u) (boxOp H n t x) := by
  unfold boxOp
  split
  · rename_i e
    split
    · rename_i hok
      intro hn
      have hr : (Instr.box t u).run E.P w = .ok (.pointer (some ⟨w.heap.size, 0, none⟩)) { w with heap := w.heap.push (.cells u.cells t) } := by
        simp [Instr.box, newVar, newRow]
      have hle : β.le (β.put n ⟨w.heap.size, 0, u.cells.size⟩) := Bind.le_put (hn n (Nat.le_refl _) (Nat.lt_succ_self _))
      refine ⟨_, _, β.put n ⟨w.heap.size, 0, u.cells.size⟩, hr, ⟨_, Bind.put_same _ _ _, rfl⟩, post_new hS (hn n (Nat.le_refl _) (Nat.lt_succ_self _)) _ _ _ rfl rfl rfl rfl ?_⟩
      exact blk_new_row (heap_push_new w _) ((ev_cells hx (fun _ _ => trivial) hok ho).mono (SV.D_mono hle))
    · trivial
  · trivial

theorem fieldAddr_ok (hS : SH β ρ B H w) {s : TypeId} {x : TV} {u : Value} {f : Nat} (hx : x.D β ρ u) : ValOK E.P ρ B β H n w (Instr.fieldAt s u f) (fieldAddrOp E H n s x f) := by
  unfold fieldAddrOp
  split
  · rename_i l off
    obtain ⟨c, hc, rfl⟩ := hx
    split
    · rename_i fields hu
      split
      · rename_i fd hf
        split
        · rename_i k hk
          intro _
          refine ⟨_, w, β, ?_, ⟨c, hc, rfl⟩, Post.refl hS⟩
          simp [Instr.fieldAt, run_underlying hu, hf, Instr.sureAddr, fieldPlace, run_sizeOfB hk, addr_add, Nat.add_assoc]
        · trivial
      · trivial
    · trivial
  · trivial

theorem inside_some {i : Int} {len k : Nat} (h : inside i len = some k) : i = (k : Int) ∧ k < len := by
  unfold inside at h
  split at h
  · rename_i m
    cases hb : Nat.blt m len with
    | false => simp only [hb, cond_false] at h; cases h
    | true => simp only [hb, cond_true, Option.some.injEq] at h; subst h; exact ⟨rfl, by unfold Nat.blt at hb; exact Nat.le_of_ble_eq_true hb⟩
  · cases h

theorem numOf_some {t : TV} {i : Int} {u : Value} (h : numOf t = some i) (hd : t.D β ρ u) : ∃ k, u = .int k i := by
  unfold numOf at h
  split at h
  · simp only [TV.D, EV.D, SV.D] at hd
    simp only [Option.some.injEq] at h
    subst h
    exact ⟨_, hd⟩
  · cases h

theorem indexAddr_ok (hS : SH β ρ B H w) {t : TypeId} {x ix : TV} {u v : Value} (hx : x.D β ρ u) (hi : ix.D β ρ v) : ValOK E.P ρ B β H n w (Instr.indexAt t u v) (indexAddrOp E H n t x ix) := by
  unfold indexAddrOp
  split
  · rename_i i hn
    obtain ⟨kd, rfl⟩ := numOf_some hn hi
    split
    · rename_i l off
      obtain ⟨c, hc, rfl⟩ := hx
      split
      · rename_i len elem hu
        split
        · rename_i k hk
          obtain ⟨rfl, hlt⟩ := inside_some hk
          split
          · rename_i size hs
            intro _
            refine ⟨_, w, β, ?_, ⟨c, hc, rfl⟩, Post.refl hS⟩
            have h1 : (0 : Int) ≤ (k : Int) := Int.natCast_nonneg k
            have h2 : ((k : Int) < (len : Int)) := by exact_mod_cast hlt
            simp [Instr.indexAt, asIntOf, run_underlying hu, Instr.sureAddr, run_sizeOfB hs, addr_add, hlt, Nat.add_assoc]
          · trivial
        · trivial
      · trivial
    · rename_i l off _ len _
      obtain ⟨c, hc, rfl⟩ := hx
      split
      · rename_i elem hu
        split
        · rename_i k hk
          obtain ⟨rfl, hlt⟩ := inside_some hk
          split
          · rename_i size hs
            intro _
            refine ⟨_, w, β, ?_, ⟨c, hc, rfl⟩, Post.refl hS⟩
            simp [Instr.indexAt, asIntOf, run_underlying hu, run_sizeOfB hs, addr_add, hlt, Nat.add_assoc]
          · trivial
        · trivial
      · trivial
    · trivial
  · trivial

theorem field_ok (hS : SH β ρ B H w) {t : TypeId} {x : TV} {u : Value} {f : Nat} (hx : x.D β ρ u) : ValOK E.P ρ B β H n w (Instr.field t u f) (fieldOp E H n t x f) := by
  unfold fieldOp
  split
  · rename_i cs
    obtain ⟨vs, hf, rfl⟩ := hx
    split
    · rename_i fields hu
      split
      · rename_i fd hfd
        split
        · rename_i e he
          intro _
          obtain ⟨v, hr, hd⟩ := takeAt_part (w := w) he hf
          exact ⟨v, w, β, by simp [Instr.field, run_underlying hu, hfd, asAgg, hr], hd, Post.refl hS⟩
        · trivial
      · trivial
    · trivial
  · trivial

theorem index_ok (hS : SH β ρ B H w) {t : TypeId} {x ix : TV} {u v : Value} (hx : x.D β ρ u) (hi : ix.D β ρ v) : ValOK E.P ρ B β H n w (Instr.index t u v) (indexOp E H n t x ix) := by
  unfold indexOp
  split
  · rename_i i cs hn
    obtain ⟨kd, rfl⟩ := numOf_some hn hi
    obtain ⟨vs, hf, rfl⟩ := hx
    split
    · rename_i len elem hu
      split
      · rename_i k hk
        obtain ⟨rfl, hlt⟩ := inside_some hk
        split
        · rename_i size hs
          split
          · rename_i e he
            intro _
            obtain ⟨v, hr, hd⟩ := takeAt_part (w := w) he hf
            exact ⟨v, w, β, by simp [Instr.index, asIntOf, run_underlying hu, run_sizeOfB hs, hlt, hr], hd, Post.refl hS⟩
          · trivial
        · trivial
      · trivial
    · trivial
  · trivial

theorem extract_ok (hS : SH β ρ B H w) {x : TV} {u : Value} {k : Nat} (hx : x.D β ρ u) : ValOK E.P ρ B β H n w (Instr.extract u k) (extractOp H n x k) := by
  unfold extractOp
  split
  · rename_i es
    obtain ⟨vs, hf, rfl⟩ := hx
    split
    · rename_i e he
      intro _
      obtain ⟨v, hv, hd⟩ := hf.get _ _ he
      exact ⟨v, w, β, by simp [Instr.extract, hv], hd, Post.refl hS⟩
    · trivial
  · trivial
end Go.Sx

/- The symbolic evaluator: single operations are right. Part 3: literals, slices. -/
namespace Go.Sx
variable {E : Env} {ρ : Val} {B : Nat} {β γ : Bind} {H : Tr Blk} {n : Nat} {w w' : World} {T : Tmps} {f : Operand → Value}

theorem bif_some {α : Type} {b : Bool} {x : Option α} {y : α} (h : (bif b then x else none) = some y) : b = true ∧ x = some y := by cases b with | false => cases h | true => exact ⟨rfl, h⟩

theorem foldl_put (off : Nat) : ∀ (vs : List Value) (k : Nat) (arr : Array Value), off + k + vs.length ≤ arr.size →
    (vs.zipIdx k).foldl (fun (cs : Array Value) (p : Value × Nat) => cs.setIfInBounds (off + p.2) p.1) arr = (arr.toList.take (off + k) ++ vs ++ arr.toList.drop (off + k + vs.length)).toArray
  | [], k, arr, _ => by simp
  | v :: rest, k, arr, h => by
    simp only [List.length_cons] at h
    simp only [List.zipIdx_cons, List.foldl_cons]
    rw [foldl_put off rest (k + 1) _ (by simp; omega)]
    congr 1
    simp only [Array.toList_setIfInBounds, List.length_cons]
    have := list_seg_step arr.toList (off + k) v rest (by simp; omega)
    rw [show off + (k + 1) = off + k + 1 by omega]
    rw [this]

theorem fill_ok (place : Nat → Option (Nat × Nat)) (ho : ∀ i, (ρ.x i).oneCell' = true) (hT : ∀ x t, evalT T x = some t → t.D β ρ (f x)) : ∀ (parts : List (Nat × Operand)) (cells cells' : List SV) (vs : List Value), fillB T place cells parts = some cells' → F2 (SV.D β ρ) cells vs →
    ∃ vs', Instr.fill place vs.toArray (parts.map fun p => (p.1, f p.2)) = some vs'.toArray ∧ F2 (SV.D β ρ) cells' vs'
  | [], cells, cells', vs, h, hf => by simp only [fillB, Option.some.injEq] at h; subst h; exact ⟨vs, rfl, hf⟩
  | (i, x) :: rest, cells, cells', vs, h, hf => by
    simp only [fillB] at h
    split at h
    · cases h
    · rename_i off size hp
      split at h
      · rename_i e he
        obtain ⟨hb, h⟩ := bif_some h
        simp only [Bool.and_eq_true] at hb
        split at h
        · rename_i cells1 hput
          have hd := hT _ _ he
          have hfe := ev_cells hd (fun _ _ => trivial) hb.2 ho
          unfold putAt at hput
          obtain ⟨hb2, hput⟩ := bif_some hput
          simp only [Option.some.injEq] at hput
          subst hput
          have hle := Nat.le_of_ble_eq_true hb2
          have hl := hfe.length
          have hl2 := hf.length
          have hsz := Nat.eq_of_beq_eq_true hb.1
          have hcs : (f x).cells.size = size := by rw [← hsz, hl]; simp
          obtain ⟨vs', h1, h2⟩ := fill_ok place ho hT rest _ cells' (vs.take off ++ (f x).cells.toList ++ vs.drop (off + e.cells.length)) h (((hf.take off).append hfe).append (hf.drop _))
          refine ⟨vs', ?_, h2⟩
          rw [← h1]
          simp only [List.map_cons, Instr.fill, hp, hcs, ne_eq, not_true, decide_false, Bool.false_or]
          have hle2 : ¬ (off + size > vs.toArray.size) := by simp; omega
          simp only [hle2, decide_false, Bool.false_eq_true, if_false]
          congr 1
          have key := foldl_put off (f x).cells.toList 0 vs.toArray (by simp [hcs]; omega)
          rw [← Array.foldl_toList, Array.toList_zipIdx]
          simp only [Nat.add_zero] at key
          rw [key]
          simp [hl]
        · cases h
      · cases h

theorem run_fieldPlaces {P : Program} (w : World) : ∀ (fields : List Field) (l : List (Nat × Nat)), fieldPlaces P fields = some l →
    (fields.mapM (m := Sem) fun f => do pure (f.offset, ← sizeOf f.type)).run P w = .ok l w
  | [], l, h => by simp only [fieldPlaces, Option.some.injEq] at h; subst h; simp
  | fd :: r, l, h => by
    simp only [fieldPlaces] at h
    split at h
    · rename_i k hk
      split at h
      · rename_i l' hl'
        simp only [Option.some.injEq] at h
        subst h
        have ih := run_fieldPlaces w r l' hl'
        simp only [List.mapM_cons, Sem.run_bind, run_sizeOfB hk, Result.andThen_ok, Sem.run_pure, ih]
      · cases h
    · cases h

theorem build_ok (ho : ∀ i, (ρ.x i).oneCell' = true) (hT : ∀ x t, evalT T x = some t → t.D β ρ (f x)) (hS : SH β ρ B H w) {t : TypeId} {parts : Array (Nat × Operand)} :
    ValOK E.P ρ B β H n w (Instr.build t (parts.map fun (i, x) => (i, f x))) (buildOp E T H n t parts) := by
  unfold buildOp
  split
  · rename_i i hi
    split
    · rename_i z hz
      have hmap : (parts.map fun (i, x) => (i, f x)).toList = parts.toList.map fun p => (p.1, f p.2) := by simp
      split
      · rename_i fields hu
        split
        · rename_i places hpl
          split
          · rename_i cells hfill
            intro _
            obtain ⟨vs', h1, h2⟩ := fill_ok _ ho hT _ _ _ z.cells.toList hfill (cst_F2 _)
            refine ⟨.agg vs'.toArray, w, β, ?_, ⟨vs', h2, rfl⟩, Post.refl hS⟩
            have hm := run_fieldPlaces (P := E.P) w _ _ hpl
            have h1' : Instr.fill (fun i => (List.toArray places)[i]?) z.cells (parts.toList.map fun p => (p.1, f p.2)) = some vs'.toArray := by simpa using h1
            simp only [Instr.build, zeroValue, typeInfo, Sem.run_bind, run_program, Result.andThen_ok, hi, Sem.run_pure, hz, run_underlying hu, Array.mapM_eq_mapM_toList, Sem.run_map, hm, hmap, h1']
          · trivial
        · trivial
      · rename_i len elem hu
        split
        · rename_i size hs
          split
          · rename_i cells hfill
            intro _
            obtain ⟨vs', h1, h2⟩ := fill_ok _ ho hT _ _ _ z.cells.toList hfill (cst_F2 _)
            refine ⟨.agg vs'.toArray, w, β, ?_, ⟨vs', h2, rfl⟩, Post.refl hS⟩
            have h1' : Instr.fill (fun i => some (i * size, size)) z.cells (parts.toList.map fun p => (p.1, f p.2)) = some vs'.toArray := by simpa using h1
            simp only [Instr.build, zeroValue, typeInfo, Sem.run_bind, run_program, Result.andThen_ok, hi, Sem.run_pure, hz, run_underlying hu, run_sizeOfB hs, hmap, h1']
          · trivial
        · trivial
      · trivial
    · trivial
  · trivial

theorem zeros_arr (z : Value) : ∀ k : Nat, ((Array.range (k * z.cells.size)).map fun i => z.cells[i % z.cells.size]!).toList = (List.replicate k z.cells.toList).flatten := by
  intro k
  simp only [Array.toList_map, Array.toList_range]
  induction k with
  | zero => simp
  | succ k ih =>
    rw [List.replicate_succ', List.flatten_append, ← ih, Nat.succ_mul, List.range_add, List.map_append]
    congr 1
    simp only [List.flatten_cons, List.flatten_nil, List.append_nil, List.map_map]
    apply List.ext_getElem?
    intro j
    by_cases hj : j < z.cells.size
    · simp [hj, Nat.mod_eq_of_lt hj]
    · simp [hj]

theorem zeros_F2 (z : Value) (k : Nat) : F2 (SV.D β ρ) (zeros z k) ((List.replicate k z.cells.toList).flatten) := by
  unfold zeros
  induction k with
  | zero => exact .nil
  | succ k ih => simp only [List.replicate_succ, List.flatten_cons]; exact (cst_F2 _).append ih

theorem buildSlice_ok (ho : ∀ i, (ρ.x i).oneCell' = true) (hT : ∀ x t, evalT T x = some t → t.D β ρ (f x)) (hS : SH β ρ B H w) {t : TypeId} {len : Nat} {parts : Array (Nat × Operand)} :
    ValOK E.P ρ B β H n w (Instr.buildSlice t len (parts.map fun (i, x) => (i, f x))) (buildSliceOp E T H n t len parts) := by
  unfold buildSliceOp
  split
  · rename_i elem hu
    split
    · rename_i i hi
      split
      · rename_i z hz
        cases hb : (Nat.ble (len * i.size) 16777216 && Nat.beq z.cells.size i.size && Nat.ble 1 i.size) with
        | false => trivial
        | true =>
          simp only [Bool.and_eq_true] at hb
          obtain ⟨⟨hb1, hb2⟩, hb3⟩ := hb
          have hle := Nat.le_of_ble_eq_true hb1
          have hzs := Nat.eq_of_beq_eq_true hb2
          have hpos := Nat.le_of_ble_eq_true hb3
          simp only [cond_true]
          split
          · rename_i cells hfill
            intro hn
            have hn' := hn n (Nat.le_refl _) (Nat.lt_succ_self _)
            have hmap : (parts.map fun (i, x) => (i, f x)).toList = parts.toList.map fun p => (p.1, f p.2) := by simp
            obtain ⟨vs', h1, h2⟩ := fill_ok _ ho hT _ _ _ _ hfill (zeros_F2 z len)
            have hrow : ((Array.range (len * i.size)).map fun j => (if len * i.size = 0 then #[] else z.cells)[j % (if len * i.size = 0 then #[] else z.cells).size]!) = ((List.replicate len z.cells.toList).flatten).toArray := by
              by_cases h0 : len * i.size = 0
              · have : len = 0 := by
                  rcases Nat.mul_eq_zero.1 h0 with h | h
                  · exact h
                  · omega
                subst this
                simp
              · simp only [if_neg h0]
                have := zeros_arr z len
                rw [hzs] at this
                rw [← this, hzs]
            have hr : (Instr.buildSlice t len (parts.map fun (i, x) => (i, f x))).run E.P w = .ok (.slice (some ⟨w.heap.size, 0, none⟩) len len) { w with heap := w.heap.push (.cells vs'.toArray elem) } := by
              have hnot : ¬ (len * i.size > 2 ^ 24) := by omega
              have hz' : (zeroValue elem).run E.P w = .ok z w := by simp [zeroValue, typeInfo, hi, hz]
              by_cases h0 : len * i.size = 0
              · simp only [if_pos h0] at hrow
                simp only [Instr.buildSlice, Sem.run_bind, run_underlying hu, Result.andThen_ok, run_sizeOfB (sizeOfB_info hi), hnot, if_false, if_pos h0, hrow, hmap, h1, newRow, run_newObj, Sem.run_pure, pure_bind]
              · simp only [if_neg h0] at hrow
                simp only [Instr.buildSlice, Sem.run_bind, run_underlying hu, Result.andThen_ok, run_sizeOfB (sizeOfB_info hi), hnot, if_false, if_neg h0, hz', hrow, hmap, h1, newRow, run_newObj, Sem.run_pure, pure_bind]
            have hle' : β.le (β.put n ⟨w.heap.size, 0, vs'.toArray.size⟩) := Bind.le_put hn'
            refine ⟨_, _, β.put n ⟨w.heap.size, 0, vs'.toArray.size⟩, hr, ⟨_, Bind.put_same _ _ _, rfl⟩, post_new hS hn' _ _ _ rfl rfl rfl rfl ?_⟩
            exact blk_new_row (heap_push_new w _) (by simpa using h2.mono (SV.D_mono hle'))
          · trivial
      · trivial
    · trivial
  · trivial
end Go.Sx

/- The symbolic evaluator: single operations are right. Part 4: slices of slices, new slices, closures. -/
namespace Go.Sx
variable {E : Env} {ρ : Val} {B : Nat} {β γ : Bind} {H : Tr Blk} {n : Nat} {w w' : World} {T : Tmps} {f : Operand → Value}

/-- A bound, as it is read. -/
def BV (o : Option Value) (r : Option Nat) : Prop := (r = none ∧ o = none) ∨ ∃ (k : Nat) (kd : IntKind), r = some k ∧ o = some (.int kd (k : Int))
theorem boundOf_ok (hT : ∀ x t, evalT T x = some t → t.D β ρ (f x)) {o : Option Operand} {r : Option Nat} (h : boundOf T o = some r) : BV (o.map f) r := by
  cases o with
  | none => simp only [boundOf, Option.some.injEq] at h; exact .inl ⟨h.symm, rfl⟩
  | some x =>
    simp only [boundOf] at h
    split at h
    · rename_i t ht
      split at h
      · rename_i k hk
        obtain ⟨kd, hv⟩ := numOf_some hk (hT _ _ ht)
        simp only [Option.some.injEq] at h
        exact .inr ⟨k, kd, h.symm, by simpa using hv⟩
      · cases h
    · cases h

theorem run_bounds {P : Program} (w : World) (isSlice : Bool) (len C : Nat) {lo hi mx : Option Value} {l h m : Option Nat} (hl : BV lo l) (hh : BV hi h) (hm : BV mx m)
    (h1 : l.getD 0 ≤ h.getD len) (h2 : h ≠ none → h.getD len ≤ m.getD C) (h3 : m ≠ none → m.getD C ≤ C) (h4 : m ≠ none → h ≠ none) :
    (Instr.sliceBounds isSlice len C lo hi mx).run P w = .ok (l.getD 0, h.getD len, m.getD C) w := by
  have sb : ∀ (kd : IntKind) (i y : Nat) (c : BoundsCode), i ≤ y → (Instr.sliceBound (.int kd (i : Int)) y c).run P w = .ok i w := fun kd i y c hi => by
    rw [run_sliceBound w kd i y c (by omega) (by omega)]; simp
  rcases hm with ⟨rfl, rfl⟩ | ⟨m, km, rfl, rfl⟩
  · rcases hh with ⟨rfl, rfl⟩ | ⟨h, kh, rfl, rfl⟩
    · rcases hl with ⟨rfl, rfl⟩ | ⟨l, kl, rfl, rfl⟩
      · simp [Instr.sliceBounds]
      · simp only [Option.getD_some, Option.getD_none] at h1
        simp [Instr.sliceBounds, sb kl l len _ h1]
    · simp only [Option.getD_some, Option.getD_none, ne_eq, reduceCtorEq, not_false_eq_true, forall_const] at h2
      rcases hl with ⟨rfl, rfl⟩ | ⟨l, kl, rfl, rfl⟩
      · simp [Instr.sliceBounds, sb kh h C _ h2]
      · simp only [Option.getD_some] at h1
        simp [Instr.sliceBounds, sb kh h C _ h2, sb kl l h _ h1]
  · simp only [Option.getD_some, ne_eq, reduceCtorEq, not_false_eq_true, forall_const] at h3 h4
    rcases hh with ⟨rfl, rfl⟩ | ⟨h, kh, rfl, rfl⟩
    · exact absurd rfl h4
    · simp only [Option.getD_some, ne_eq, reduceCtorEq, not_false_eq_true, forall_const] at h2
      rcases hl with ⟨rfl, rfl⟩ | ⟨l, kl, rfl, rfl⟩
      · simp [Instr.sliceBounds, sb km m C _ h3, sb kh h m _ h2]
      · simp only [Option.getD_some] at h1
        simp [Instr.sliceBounds, sb km m C _ h3, sb kh h m _ h2, sb kl l h _ h1]

theorem cutOf_some {len most : Nat} {cap lo hi mx : Option Nat} {a h : Nat} {m : Option Nat} {C : Nat} (hc : cutOf len most cap lo hi mx = some (a, h, m)) (hC : ∀ c, cap = some c → C = c) (hmost : most ≤ C) :
    a = lo.getD 0 ∧ h = hi.getD len ∧ a ≤ h ∧ (hi ≠ none → h ≤ mx.getD C) ∧ (mx ≠ none → mx.getD C ≤ C) ∧ (mx ≠ none → hi ≠ none) ∧ (∀ k, m = some k → mx.getD C = k) ∧ (m = none → mx = none) := by
  unfold cutOf at hc
  dsimp only at hc
  split at hc
  · obtain ⟨hb, hc⟩ := bif_some hc
    simp only [Option.some.injEq, Prod.mk.injEq] at hc
    obtain ⟨rfl, rfl, rfl⟩ := hc
    have := Nat.le_of_ble_eq_true hb
    exact ⟨rfl, rfl, this, by simp, by simp, by simp, fun k hk => by simp [hC k hk], fun _ => rfl⟩
  · obtain ⟨hb, hc⟩ := bif_some hc
    simp only [Option.some.injEq, Prod.mk.injEq] at hc
    obtain ⟨rfl, rfl, rfl⟩ := hc
    simp only [Bool.and_eq_true] at hb
    have h1 := Nat.le_of_ble_eq_true hb.1
    have h2 := Nat.le_of_ble_eq_true hb.2
    exact ⟨rfl, rfl, h1, fun _ => by simp; omega, by simp, by simp, fun k hk => by simp [hC k hk], fun _ => rfl⟩
  · obtain ⟨hb, hc⟩ := bif_some hc
    simp only [Option.some.injEq, Prod.mk.injEq] at hc
    obtain ⟨rfl, rfl, rfl⟩ := hc
    simp only [Bool.and_eq_true] at hb
    have h1 := Nat.le_of_ble_eq_true hb.1.1
    have h2 := Nat.le_of_ble_eq_true hb.1.2
    have h3 := Nat.le_of_ble_eq_true hb.2
    exact ⟨rfl, rfl, h1, fun _ => by simpa using h2, fun _ => by simp; omega, by simp, fun k hk => by simpa using hk, fun h => by cases h⟩
  · cases hc

theorem div_sub_mul (x a e : Nat) : (x - a * e) / e = x / e - a := by
  rw [Nat.mul_comm a e]
  exact Nat.sub_mul_div x e a

theorem extract_bytes (s : ByteArray) (l h : Nat) : s.extract l h = ⟨⟨(s.data.toList.drop l).take (h - l)⟩⟩ := by
  apply ByteArray.ext
  apply Array.ext'
  simp [ByteArray.data_extract, Array.toList_extract, List.extract]

theorem slice_ok (hT : ∀ x t, evalT T x = some t → t.D β ρ (f x)) (hS : SH β ρ B H w) {t : TypeId} {x : TV} {u : Value} {lo hi mx : Option Operand} (hx : x.D β ρ u) :
    ValOK E.P ρ B β H n w (Instr.sliceAt t u (lo.map f) (hi.map f) (mx.map f)) (sliceOp E T H n t x lo hi mx) := by
  unfold sliceOp
  split
  rotate_left
  · trivial
  rename_i lo' hi' mx' hlo hhi hmx
  have bl := boundOf_ok hT hlo
  have bh := boundOf_ok hT hhi
  have bm := boundOf_ok hT hmx
  split
  · -- a string
    rename_i s
    simp only [TV.D, EV.D, SV.D] at hx
    subst hx
    split
    · rename_i hu
      dsimp only
      cases hb : (Nat.ble (lo'.getD 0) (hi'.getD s.data.toList.length) && Nat.ble (hi'.getD s.data.toList.length) s.data.toList.length) with
      | false => trivial
      | true =>
        simp only [Bool.and_eq_true] at hb
        have h1 := Nat.le_of_ble_eq_true hb.1
        have h2 := Nat.le_of_ble_eq_true hb.2
        have hsz : s.data.toList.length = s.size := Array.length_toList
        rw [hsz] at h1 h2 ⊢
        intro _
        have hmn : mx.map f = none := by rcases bm with ⟨_, h⟩ | ⟨_, _, h, _⟩; exact h; cases h
        have hr := run_bounds (P := E.P) w false s.size s.size bl bh (.inl ⟨rfl, rfl⟩) h1 (fun _ => by simpa using h2) (by simp) (by simp)
        refine ⟨_, w, β, ?_, rfl, Post.refl hS⟩
        rw [← extract_bytes]
        simp only [hmn, Instr.sliceAt, Sem.run_bind, run_underlying hu, Result.andThen_ok, Instr.slice, Option.isSome_none, Bool.false_eq_true, if_false, hr, Sem.run_pure]
    · trivial
  · -- a slice
    rename_i l off esz len cap
    obtain ⟨a, ha, rfl⟩ := hx
    split
    · rename_i elem hu
      split
      · rename_i size hs
        cases hb : (Nat.beq size esz && Nat.ble 1 esz) with
        | false => trivial
        | true =>
          simp only [Bool.and_eq_true] at hb
          have e1 := Nat.eq_of_beq_eq_true hb.1
          have e2 := Nat.le_of_ble_eq_true hb.2
          subst e1
          simp only [cond_true]
          have hmost : mostOf H l off size cap ≤ cap.getD ((a.cap - off) / size) := by
            unfold mostOf
            cases cap with
            | some c => exact Nat.le_refl _
            | none =>
              simp only [Option.getD_none]
              split
              · rename_i ty cells hl
                obtain ⟨a', ha', hrow⟩ := hS.at_ _ _ hl
                rw [ha] at ha'; cases ha'
                obtain ⟨_, _, _, _, _, h3, _⟩ := hrow
                exact Nat.div_le_div_right (by omega)
              · exact Nat.zero_le _
          generalize mostOf H l off size cap = most at hmost
          have hcap : ∀ c, cap = some c → cap.getD ((a.cap - off) / size) = c := fun c hc => by rw [hc]; rfl
          have hrun : ∀ {p h : Nat} {m : Option Nat}, cutOf len most cap lo' hi' mx' = some (p, h, m) →
              (Instr.sliceAt t (.slice (some ⟨a.blk, a.off + off, none⟩) len (cap.getD ((a.cap - off) / size))) (lo.map f) (hi.map f) (mx.map f)).run E.P w =
                .ok (.slice (some ⟨a.blk, a.off + (if mx'.getD (cap.getD ((a.cap - off) / size)) = p then off else off + p * size), none⟩) (h - p) (mx'.getD (cap.getD ((a.cap - off) / size)) - p)) w := fun {p h m} hcut => by
            obtain ⟨rfl, rfl, g1, g2, g3, g4, _, _⟩ := cutOf_some hcut hcap hmost
            have hr := run_bounds (P := E.P) w true len (cap.getD ((a.cap - off) / size)) bl bh bm g1 g2 g3 g4
            simp only [Instr.sliceAt, Sem.run_bind, run_underlying hu, Result.andThen_ok, Instr.slice, hr, run_sizeOfB hs, Sem.run_pure]
            split
            · rfl
            · simp [addr_add, Nat.add_assoc]
          split
          · rename_i p h m hcut
            intro _
            obtain ⟨_, _, _, _, _, _, g5, _⟩ := cutOf_some hcut hcap hmost
            refine ⟨_, w, β, hrun hcut, ⟨a, ha, ?_⟩, Post.refl hS⟩
            rw [g5 m rfl]
            simp only [Option.getD_some]
            by_cases e : m = p
            · simp [e]
            · simp [e, Tr.beq_false e]
          · rename_i p h hcut
            obtain ⟨_, _, g1, _, _, _, _, g6⟩ := cutOf_some hcut hcap hmost
            have hmx0 := g6 rfl
            have hc0 : cap = none := by
              cases cap with
              | none => rfl
              | some c =>
                exfalso
                subst hmx0
                cases hi' with
                | none => obtain ⟨_, hcut⟩ := bif_some (show (bif Nat.ble (lo'.getD 0) len then some (lo'.getD 0, len, some c) else none) = _ from hcut); cases hcut
                | some h' => obtain ⟨_, hcut⟩ := bif_some (show (bif Nat.ble (lo'.getD 0) h' && Nat.ble h' most then some (lo'.getD 0, h', some c) else none) = _ from hcut); cases hcut
            have hr := hrun hcut
            subst hmx0 hc0
            simp only [Option.getD_none] at hr hmost
            cases hp0 : Nat.beq p 0 with
            | true =>
              have := Nat.eq_of_beq_eq_true hp0
              subst this
              intro _
              refine ⟨_, w, β, hr, ⟨a, ha, ?_⟩, Post.refl hS⟩
              simp
            | false =>
              simp only [cond_false]
              cases hp1 : Nat.blt p most with
              | true =>
                have hlt : p < most := by unfold Nat.blt at hp1; exact Nat.le_of_ble_eq_true hp1
                intro _
                refine ⟨_, w, β, hr, ⟨a, ha, ?_⟩, Post.refl hS⟩
                rw [if_neg (by omega)]
                simp only [Option.getD_none, ← Nat.sub_sub, div_sub_mul _ _ _]
              | false =>
                simp only [cond_false]
                cases hp2 : Nat.beq p h with
                | false => trivial
                | true =>
                  have := Nat.eq_of_beq_eq_true hp2
                  subst this
                  intro _
                  refine ⟨_, w, β, hr, ⟨a, ha, ?_⟩, Post.refl hS⟩
                  rw [show off + p * size - off = p * size by omega, Nat.mul_div_cancel _ (by omega), ← Nat.sub_sub, div_sub_mul _ _ _]
                  simp
          · trivial
      · trivial
    · trivial
  · -- what is left of a slice
    rename_i l o0 o1 esz
    obtain ⟨a, ha, rfl⟩ := hx
    generalize hoo : (if (a.cap - o0) / esz = (o1 - o0) / esz then o0 else o1) = oo
    split
    · rename_i elem hu
      split
      · rename_i size hsz
        cases hb : (Nat.beq (lo'.getD 0) 0 && Nat.beq (hi'.getD 0) 0 && isNone' mx') with
        | false => trivial
        | true =>
          simp only [Bool.and_eq_true] at hb
          have h1 := Nat.eq_of_beq_eq_true hb.1.1
          have h2 := Nat.eq_of_beq_eq_true hb.1.2
          have h3 : mx' = none := by cases mx' with | none => rfl | some k => cases hb.2
          subst h3
          intro _
          have hmn : mx.map f = none := by rcases bm with ⟨_, h⟩ | ⟨_, _, h, _⟩; exact h; cases h
          have hr := run_bounds (P := E.P) w true 0 ((a.cap - o1) / esz) bl bh (.inl ⟨rfl, rfl⟩) (by omega) (fun _ => by rw [h2]; exact Nat.zero_le _) (by simp) (by simp)
          rw [h1, h2] at hr
          refine ⟨.slice (some ⟨a.blk, a.off + oo, none⟩) 0 ((a.cap - o1) / esz), w, β, ?_, ⟨a, ha, by rw [hoo]⟩, Post.refl hS⟩
          simp only [hmn, Instr.sliceAt, Sem.run_bind, run_underlying hu, Result.andThen_ok, Instr.slice, hr, run_sizeOfB hsz, Sem.run_pure, Option.getD_none]
          simp [addr_add]
      · trivial
    · trivial
  · -- an array
    rename_i l off
    obtain ⟨a, ha, rfl⟩ := hx
    split
    · rename_i len elem hu
      split
      · rename_i size hs
        split
        · rename_i p h m hcut
          intro _
          obtain ⟨rfl, rfl, g1, g2, g3, g4, g5, _⟩ := cutOf_some (C := len) hcut (fun c hc => by cases hc; rfl) (Nat.le_refl _)
          have hr := run_bounds (P := E.P) w false len len bl bh bm g1 g2 g3 g4
          rw [g5 m rfl] at hr
          refine ⟨.slice (some ⟨a.blk, a.off + (if m = lo'.getD 0 then off else off + lo'.getD 0 * size), none⟩) (hi'.getD len - lo'.getD 0) (m - lo'.getD 0), w, β, ?_, ⟨a, ha, ?_⟩, Post.refl hS⟩
          · simp only [Instr.sliceAt, Sem.run_bind, run_underlying hu, Result.andThen_ok, Instr.sureAddr, Sem.run_pure, hr, run_sizeOfB hs]
            split
            · rfl
            · simp [addr_add, Nat.add_assoc]
          · simp only [Option.getD_some]
            by_cases e : m = lo'.getD 0
            · simp [e]
            · simp [e, Tr.beq_false e]
        · trivial
      · trivial
    · rename_i arr hu
      split
      · rename_i len elem hu2
        split
        · rename_i size hs
          split
          · rename_i p h m hcut
            intro _
            obtain ⟨rfl, rfl, g1, g2, g3, g4, g5, _⟩ := cutOf_some (C := len) hcut (fun c hc => by cases hc; rfl) (Nat.le_refl _)
            have hr := run_bounds (P := E.P) w false len len bl bh bm g1 g2 g3 g4
            rw [g5 m rfl] at hr
            refine ⟨.slice (some ⟨a.blk, a.off + (if m = lo'.getD 0 then off else off + lo'.getD 0 * size), none⟩) (hi'.getD len - lo'.getD 0) (m - lo'.getD 0), w, β, ?_, ⟨a, ha, ?_⟩, Post.refl hS⟩
            · simp only [Instr.sliceAt, Sem.run_bind, run_underlying hu, Result.andThen_ok, Instr.slice, asAddr, run_underlying hu2, Sem.run_pure, hr, run_sizeOfB hs]
              split
              · rfl
              · simp [addr_add, Nat.add_assoc]
            · simp only [Option.getD_some]
              by_cases e : m = lo'.getD 0
              · simp [e]
              · simp [e, Tr.beq_false e]
          · trivial
        · trivial
      · trivial
    · trivial
  · trivial
end Go.Sx

/- The symbolic evaluator: single operations are right. Part 5: new slices, closures, append, copy. -/
namespace Go.Sx
variable {E : Env} {ρ : Val} {B : Nat} {β γ : Bind} {H : Tr Blk} {n : Nat} {w w' : World} {T : Tmps} {f : Operand → Value}

theorem makeSlice_ok (hS : SH β ρ B H w) {t : TypeId} {x y : TV} {u v : Value} (hx : x.D β ρ u) (hy : y.D β ρ v) : ValOK E.P ρ B β H n w (Instr.makeSlice t u v) (makeSliceOp E H n t x y) := by
  unfold makeSliceOp
  split
  · rename_i l c hl hc
    obtain ⟨k1, rfl⟩ := numOf_some hl hx
    obtain ⟨k2, rfl⟩ := numOf_some hc hy
    split
    · rename_i elem hu
      split
      · rename_i i hi
        split
        · rename_i z hz
          cases hb : (Nat.ble l c && Nat.ble (c * i.bytes) 281474976710656 && Nat.ble c 281474976710656 && Nat.beq z.cells.size i.size && Nat.ble 1 i.size) with
          | false => trivial
          | true =>
            simp only [Bool.and_eq_true] at hb
            obtain ⟨⟨⟨⟨b1, b2⟩, b3⟩, b4⟩, b5⟩ := hb
            have b1 := Nat.le_of_ble_eq_true b1
            have b2 := Nat.le_of_ble_eq_true b2
            have b3 := Nat.le_of_ble_eq_true b3
            have b4 := Nat.eq_of_beq_eq_true b4
            have b5 := Nat.le_of_ble_eq_true b5
            simp only [cond_true]
            intro hn
            have hn' := hn n (Nat.le_refl _) (Nat.lt_succ_self _)
            have hb' : (i.bytes : Int) * (c : Int) ≤ 281474976710656 := by
              have h : ((c * i.bytes : Nat) : Int) ≤ 281474976710656 := by omega
              rw [Int.natCast_mul] at h
              rw [Int.mul_comm]
              exact h
            have hr := run_make (P := E.P) w t elem i z hu hi hz k1 k2 (l : Int) (c : Int) (by omega) (by omega) hb' (by omega)
            simp only [Int.toNat_natCast] at hr
            have hrow : (madeCells z.cells (c * i.size)).toList = (List.replicate c z.cells.toList).flatten := by
              have := zeros_arr z c
              rw [b4] at this
              unfold madeCells
              rw [b4]
              exact this
            refine ⟨_, _, β.put n ⟨w.heap.size, 0, (madeCells z.cells (c * i.size)).size⟩, hr, ⟨_, Bind.put_same _ _ _, rfl⟩, post_new hS hn' _ _ _ rfl rfl rfl rfl ?_⟩
            exact blk_new_row (heap_push_new w _) (by rw [hrow]; exact zeros_F2 z c)
        · trivial
      · trivial
    · trivial
  · trivial

theorem pvsOf_ok (hT : ∀ x t, evalT T x = some t → t.D β ρ (f x)) : ∀ (xs : List Operand) (l : List PV), pvsOf T xs = some l → F2 (PV.D β) l (xs.map f)
  | [], l, h => by simp only [pvsOf, Option.some.injEq] at h; subst h; exact .nil
  | x :: r, l, h => by
    simp only [pvsOf] at h
    split at h
    · rename_i t ht
      split at h
      · rename_i p hp
        split at h
        · rename_i l' hl'
          simp only [Option.some.injEq] at h
          subst h
          refine .cons ?_ (pvsOf_ok hT r l' hl')
          have hd := hT _ _ ht
          unfold pvOf at hp
          split at hp
          · simp only [Option.some.injEq] at hp; subst hp; exact hd
          · simp only [Option.some.injEq] at hp; subst hp; exact hd
          · cases hp
        · cases h
      · cases h
    · cases h

theorem map_arr {α γ : Type} (g : α → γ) (a : Array α) : a.map g = (a.toList.map g).toArray := by apply Array.ext'; simp

theorem makeFunc_ok (hT : ∀ x t, evalT T x = some t → t.D β ρ (f x)) (hS : SH β ρ B H w) {fn : Fn} {a b : Array Operand} : ValOK E.P ρ B β H n w (Instr.makeFunc fn (a.map f) (b.map f)) (makeFuncOp T H n fn a b) := by
  unfold makeFuncOp
  split
  · rename_i la lb ha hb
    intro _
    exact ⟨.func fn (a.map f) (b.map f), w, β, rfl, ⟨_, _, pvsOf_ok hT _ _ ha, pvsOf_ok hT _ _ hb, by rw [map_arr f a, map_arr f b]⟩, Post.refl hS⟩
  · trivial

/-! ### Append and copy -/
/-- What is read: so many elements. -/
def SrcOK (β : Bind) (ρ : Val) (w : World) (size : Nat) (u : Value) (k : Nat) (news : List SV) : Prop :=
  ∃ us, F2 (SV.D β ρ) news us ∧ us.length = k * size ∧ ((∃ a len cap, u = .slice a len cap ∧ len = k ∧ ((a = none ∧ us = []) ∨ ∃ b o, a = some ⟨b, o, none⟩ ∧ ∀ i v, us[i]? = some v → w.cell? ⟨b, o + i, none⟩ = some v)) ∨
    ∃ s : ByteArray, u = .string s ∧ s.size = k ∧ size = 1 ∧ us = s.data.toList.map fun b => Value.int .u8 b.toNat)

theorem SrcOK.length {size : Nat} {u : Value} {k : Nat} {news : List SV} (h : SrcOK β ρ w size u k news) : news.length = k * size := by
  obtain ⟨us, h1, h2, _⟩ := h
  rw [h1.length, h2]

theorem srcCells_ok (hS : SH β ρ B H w) {x : TV} {u : Value} {size k : Nat} {news : List SV} (hx : x.D β ρ u) (h : srcCells H x size = some (k, news)) (h1 : size = 1 ∨ ∀ s, u ≠ .string s) : SrcOK β ρ w size u k news := by
  unfold srcCells at h
  split at h
  · rename_i l off _ len _
    obtain ⟨a, ha, rfl⟩ := hx
    split at h
    · simp only [Option.some.injEq, Prod.mk.injEq] at h
      obtain ⟨rfl, rfl⟩ := h
      exact ⟨[], .nil, by simp, .inl ⟨_, _, _, rfl, rfl, .inr ⟨_, _, rfl, fun i v hv => by simp at hv⟩⟩⟩
    · split at h
      · rename_i hn ty cells hl
        dsimp only at h
        obtain ⟨hb, h⟩ := bif_some h
        simp only [Option.some.injEq, Prod.mk.injEq] at h
        obtain ⟨rfl, rfl⟩ := h
        obtain ⟨a', ha', hrow⟩ := hS.at_ _ _ hl
        rw [ha] at ha'; cases ha'
        obtain ⟨vs, hf, hc⟩ := row_cells hrow
        have hf' := (hf.drop off).take (len * size)
        refine ⟨_, hf', ?_, .inl ⟨_, _, _, rfl, rfl, .inr ⟨_, _, rfl, fun i v hv => ?_⟩⟩⟩
        · rw [← hf'.length]; exact Nat.eq_of_beq_eq_true hb
        · rw [List.getElem?_take] at hv
          split at hv
          · rw [List.getElem?_drop] at hv
            have := hc _ _ hv
            rwa [← Nat.add_assoc] at this
          · cases hv
      · cases h
  · simp only [TV.D, EV.D, SV.D] at hx
    subst hx
    simp only [Option.some.injEq, Prod.mk.injEq] at h
    obtain ⟨rfl, rfl⟩ := h
    exact ⟨[], .nil, by simp, .inl ⟨_, _, _, rfl, rfl, .inl ⟨rfl, rfl⟩⟩⟩
  · obtain ⟨a, ha, rfl⟩ := hx
    simp only [Option.some.injEq, Prod.mk.injEq] at h
    obtain ⟨rfl, rfl⟩ := h
    exact ⟨[], .nil, by simp, .inl ⟨_, _, _, rfl, rfl, .inr ⟨_, _, rfl, fun i v hv => by simp at hv⟩⟩⟩
  · rename_i s
    simp only [TV.D, EV.D, SV.D] at hx
    subst hx
    simp only [Option.some.injEq, Prod.mk.injEq] at h
    obtain ⟨rfl, rfl⟩ := h
    have hs : size = 1 := h1.resolve_right (fun h => h s rfl)
    subst hs
    refine ⟨s.data.toList.map fun b => Value.int .u8 b.toNat, ?_, by rw [List.length_map, Nat.mul_one]; exact Array.length_toList, .inr ⟨s, rfl, rfl, rfl, rfl⟩⟩
    have := cst_F2 (β := β) (ρ := ρ) (s.data.toList.map fun b => Value.int .u8 b.toNat)
    rwa [List.map_map] at this
  · cases h

theorem run_src {P : Program} {size : Nat} {u : Value} {k : Nat} {news : List SV} (h : SrcOK β ρ w size u k news) :
    ∃ us, F2 (SV.D β ρ) news us ∧ us.length = k * size ∧ (Builtin.lenOf u).run P w = .ok k w ∧ ∀ w', (∀ b, b < w.heap.size → w'.heap[b]? = w.heap[b]?) → (Builtin.firstCells size k u).run P w' = .ok us.toArray w' := by
  obtain ⟨us, h1, h2, h3⟩ := h
  refine ⟨us, h1, h2, ?_⟩
  rcases h3 with ⟨a, len, cap, rfl, rfl, h4⟩ | ⟨s, rfl, rfl, rfl, rfl⟩
  · refine ⟨rfl, fun w' hw => ?_⟩
    rcases h4 with ⟨rfl, rfl⟩ | ⟨b, o, rfl, hc⟩
    · simp [Builtin.firstCells]
    · refine run_firstCells_some w' size len ⟨b, o, none⟩ len cap us h2 (fun j v hv => ?_)
      rw [addr_add]
      have := hc j v hv
      have hlt := block_lt_of_cell this
      rw [← this]
      simp only [World.cell?, hw b hlt]
  · refine ⟨rfl, fun w' _ => ?_⟩
    have : s.extract 0 s.size = s := by
      rw [extract_bytes]
      apply ByteArray.ext
      apply Array.ext'
      show (s.data.toList.drop 0).take (s.size - 0) = s.data.toList
      rw [List.drop_zero, Nat.sub_zero]
      exact List.take_of_length_le (by rw [Array.length_toList]; exact Nat.le_refl _)
    simp only [Builtin.firstCells, this, Sem.run_pure]
    congr 1
    apply Array.ext'
    simp
end Go.Sx

/- The symbolic evaluator: single operations are right. Part 6: append, copy, len, cap. -/
namespace Go.Sx
variable {E : Env} {ρ : Val} {B : Nat} {β γ : Bind} {H : Tr Blk} {n : Nat} {w w' : World} {T : Tmps} {f : Operand → Value}

def isIntT (P : Program) (t : TypeId) : Bool := match P.underlying t with | some (.int _) => true | _ => false

/-- What is appended is k elements, whose cells are us. -/
def AppOK (P : Program) (w : World) (xT : TypeId) (x : Value) (i : TypeInfo) (z : Value) (k : Nat) (us : List Value) : Prop :=
  us.length = k * i.size ∧
  ((∃ d, P.underlying xT = some d ∧ ((∃ e, d = .slice e) ∨ d = .string) ∧ (Builtin.lenOf x).run P w = .ok k w ∧ ∀ w', (∀ b, b < w.heap.size → w'.heap[b]? = w.heap[b]?) → (Builtin.firstCells i.size k x).run P w' = .ok us.toArray w') ∨
    (∃ kd, P.underlying xT = some (.int kd)) ∧ x = .int .i64 (k : Int) ∧ (k : Int) * i.bytes ≤ 281474976710656 ∧ k ≤ 4611686018427387904 ∧ us = (List.replicate k z.cells.toList).flatten)

theorem zeroCells_eq (z : Value) (k : Nat) : Builtin.zeroCells z.cells k = ((List.replicate k z.cells.toList).flatten).toArray := by
  apply Array.ext'
  exact zeros_arr z k

theorem run_append_room' {P : Program} (ats : Array TypeId) (ty sT xT elem : TypeId) (i : TypeInfo) (z : Value) (x : Value) (h0 : ats[0]? = some sT) (h1 : ats[1]? = some xT) (hu : P.underlying sT = some (.slice elem)) (hi : P.info? elem = some i) (hz : i.zero = some z)
    {k : Nat} {us : List Value} (hx : AppOK P w xT x i z k us) (b o len cap : Nat) (hroom : len + k ≤ cap) (hst : (storeCells ⟨b, o + len * i.size, none⟩ us).run P w = .ok () w') :
    (Builtin.append_ ats ty #[.slice (some ⟨b, o, none⟩) len cap, x]).run P w = .ok (.slice (some ⟨b, o, none⟩) (len + k) cap) w' := by
  obtain ⟨hlen, ⟨d, hd, hd2, hl, hc⟩ | ⟨⟨kd, hd⟩, rfl, hb, hk, rfl⟩⟩ := hx
  · have hc' := hc w (fun _ _ => rfl)
    rcases hd2 with ⟨e, rfl⟩ | rfl
    · simp [Builtin.append_, h0, h1, run_underlying hu, sizeOf, typeInfo, hi, run_underlying hd, hl, hroom, hc', addr_add, hst]
    · simp [Builtin.append_, h0, h1, run_underlying hu, sizeOf, typeInfo, hi, run_underlying hd, hl, hroom, hc', addr_add, hst]
  · have wk : IntKind.i64.wrap (k : Int) = (k : Int) := IntWalk.i64_in _ (by omega)
    have n1 : ¬ ((k : Int) < 0) := by omega
    have n2 : ¬ (281474976710656 < (k : Int) * i.bytes) := by omega
    by_cases hn : k * i.size = 0
    · have hkz : (List.replicate k z.cells.toList).flatten = [] := by
        apply List.eq_nil_of_length_eq_zero
        rw [hlen, hn]
      rw [hkz] at hst
      simp [Builtin.append_, h0, h1, run_underlying hu, sizeOf, typeInfo, hi, run_underlying hd, asInt, asIntOf, wk, n1, n2, hroom, hn, addr_add, hst]
    · have e : Builtin.zeroCells z.cells k = ((List.replicate k z.cells.toList).flatten).toArray := zeroCells_eq z k
      simp [Builtin.append_, h0, h1, run_underlying hu, sizeOf, typeInfo, hi, run_underlying hd, asInt, asIntOf, wk, n1, n2, hroom, hn, zeroValue, hz, e, addr_add, hst]

theorem run_append_grow' {P : Program} (ats : Array TypeId) (ty sT xT elem : TypeId) (i : TypeInfo) (z : Value) (x : Value) (h0 : ats[0]? = some sT) (h1 : ats[1]? = some xT) (hu : P.underlying sT = some (.slice elem)) (hi : P.info? elem = some i) (hz : i.zero = some z)
    {k : Nat} {us olds : List Value} (hx : AppOK P w xT x i z k us) (base : Option Addr) (len cap : Nat) (hroom : cap < len + k) (hb : (len + k) * i.bytes ≤ 140737488355328) (hlk : len + k ≤ 4611686018427387904)
    (hold : ∀ w', (∀ b, b < w.heap.size → w'.heap[b]? = w.heap[b]?) → (Builtin.firstCells i.size len (.slice base len cap)).run P w' = .ok olds.toArray w') :
    ∃ c, len + k ≤ c ∧ (Builtin.append_ ats ty #[.slice base len cap, x]).run P w = .ok (.slice (some ⟨w.heap.size, 0, none⟩) (len + k) c) (w.drew.alloc (.cells (olds.toArray ++ us.toArray ++ Builtin.zeroCells z.cells (c - (len + k))) elem)) := by
  refine ⟨grownCap w (len + k) cap elem, grownCap_ge _ _ _ _, ?_⟩
  have hno : ¬ (len + k ≤ cap) := by omega
  have hfit := growslice_fits hroom hb
  have hfit' : ¬ (281474976710656 < Builtin.nextslicecap (len + k) cap * i.bytes) := by omega
  have h63 : ¬ (9223372036854775807 < ((len : Int) + (k : Int))) := by omega
  have hwd : ∀ b, b < w.heap.size → w.drew.heap[b]? = w.heap[b]? := fun _ _ => rfl
  have ho := hold w.drew hwd
  obtain ⟨hlen, ⟨d, hd, hd2, hl, hc⟩ | ⟨⟨kd, hd⟩, rfl, hb2, hk, rfl⟩⟩ := hx
  · have hc' := hc w.drew hwd
    rcases hd2 with ⟨e, rfl⟩ | rfl
    · simp [Builtin.append_, h0, h1, run_underlying hu, sizeOf, typeInfo, hi, run_underlying hd, hl, hno, h63, hfit', Question.forced, hc', ho, newRow, grownCap, zeroValue, hz]
      congr 2
      apply Array.ext'
      simp [List.append_assoc]
    · simp [Builtin.append_, h0, h1, run_underlying hu, sizeOf, typeInfo, hi, run_underlying hd, hl, hno, h63, hfit', Question.forced, hc', ho, newRow, grownCap, zeroValue, hz]
      congr 2
      apply Array.ext'
      simp [List.append_assoc]
  · have wk : IntKind.i64.wrap (k : Int) = (k : Int) := IntWalk.i64_in _ (by omega)
    have n1 : ¬ ((k : Int) < 0) := by omega
    have n2 : ¬ (281474976710656 < (k : Int) * i.bytes) := by omega
    have e : Builtin.zeroCells z.cells k = ((List.replicate k z.cells.toList).flatten).toArray := zeroCells_eq z k
    have hmax : max (k : Int) 0 = k := by omega
    by_cases hn : k * i.size = 0
    · have hkz : (List.replicate k z.cells.toList).flatten = [] := by
        apply List.eq_nil_of_length_eq_zero
        rw [hlen, hn]
      simp [Builtin.append_, h0, h1, run_underlying hu, sizeOf, typeInfo, hi, run_underlying hd, asInt, asIntOf, wk, n1, n2, hn, hno, h63, hfit', Question.forced, ho, newRow, grownCap, zeroValue, hz, hkz, hmax]
    · simp [Builtin.append_, h0, h1, run_underlying hu, sizeOf, typeInfo, hi, run_underlying hd, asInt, asIntOf, wk, n1, n2, hn, hno, h63, hfit', Question.forced, ho, newRow, grownCap, zeroValue, hz, e, hmax]
      congr 2
      apply Array.ext'
      simp [List.append_assoc]

theorem appSrc_ok (hS : SH β ρ B H w) {xT : TypeId} {x : TV} {u : Value} {i : TypeInfo} {z : Value} {k : Nat} {news : List SV} (hx : x.D β ρ u) (hzs : z.cells.size = i.size) (h : appSrc E.P H xT x i.size z = some (k, news)) (hb : k * i.bytes ≤ 281474976710656) :
    ∃ us, F2 (SV.D β ρ) news us ∧ AppOK E.P w xT u i z k us := by
  unfold appSrc at h
  split at h
  · rename_i e hu
    split at h
    · cases h
    · rename_i hnot
      have h1 : i.size = 1 ∨ ∀ s, u ≠ .string s := by
        refine .inr fun s hs => ?_
        subst hs
        unfold srcCells at h
        split at h
        · obtain ⟨a, _, hx⟩ := hx; cases hx
        · simp only [TV.D, EV.D, SV.D] at hx; cases hx
        · obtain ⟨a, _, hx⟩ := hx; cases hx
        · exact hnot _ rfl
        · cases h
      obtain ⟨us, g1, g2, g3, g4⟩ := run_src (P := E.P) (srcCells_ok hS hx h h1)
      exact ⟨us, g1, g2, .inl ⟨_, hu, .inl ⟨e, rfl⟩, g3, g4⟩⟩
  · rename_i hu
    split at h
    · obtain ⟨hb1, h⟩ := bif_some h
      obtain ⟨us, g1, g2, g3, g4⟩ := run_src (P := E.P) (srcCells_ok hS hx h (.inl (Nat.eq_of_beq_eq_true hb1)))
      exact ⟨us, g1, g2, .inl ⟨_, hu, .inr rfl, g3, g4⟩⟩
    · cases h
  · rename_i kd hu
    split at h
    · rename_i k'
      obtain ⟨hb1, h⟩ := bif_some h
      simp only [Option.some.injEq, Prod.mk.injEq] at h
      obtain ⟨rfl, rfl⟩ := h
      simp only [TV.D, EV.D, SV.D] at hx
      subst hx
      refine ⟨_, zeros_F2 z _, by simp [hzs], .inr ⟨⟨kd, hu⟩, rfl, ?_, Nat.le_of_ble_eq_true hb1, rfl⟩⟩
      have h : ((k' * i.bytes : Nat) : Int) ≤ 281474976710656 := by omega
      rwa [Int.natCast_mul] at h
    · cases h
  · cases h

theorem row_new_spare {β : Bind} {ty : TypeId} {cells : List SV} {vs : List Value} {rest : Array Value} {b : Nat} {w : World} (h : w.heap[b]? = some (.cells (vs.toArray ++ rest) ty)) (hf : F2 (SV.D β ρ) cells vs) : Blk.H β ρ w ⟨b, 0, vs.length + rest.size⟩ (.row ty cells) := by
  refine ⟨_, 0, 0, h, by simp, by simp [hf.length], .inl rfl, vs, hf, ?_⟩
  simp [hf.length]

theorem list_seg_read (L us : List Value) (p q m : Nat) (hq : q + m ≤ L.length) (hp : p ≤ q) (hm : us.length = m) : ((L.take q ++ us ++ L.drop (q + m)).drop p).take (q - p + m) = (L.drop p).take (q - p) ++ us := by
  subst hm
  rw [List.append_assoc, List.drop_append, List.length_take, Nat.min_eq_left (by omega), show p - q = 0 by omega, List.drop_zero, List.drop_take]
  rw [List.take_append, List.length_take, List.length_drop, Nat.min_eq_left (by omega), List.take_of_length_le (by simp; omega), show q - p + us.length - (q - p) = us.length by omega]
  simp

/-- What is appended within a row's room. -/
theorem row_extend {ty : TypeId} {cells news : List SV} {a : Loc} {off p m : Nat} {us : List Value} (h : Blk.H β ρ w a (.row ty cells)) (hf : F2 (SV.D β ρ) news us) (h1 : ∀ v ∈ us, v.oneCell' = true)
    (hop : off ≤ p) (hp : p ≤ cells.length) (hm : us.length = m) (hroom : p + m ≤ a.cap) :
    ∃ w', (storeCells ⟨a.blk, a.off + p, none⟩ us).run E.P w = .ok () w' ∧ w'.heap.size = w.heap.size ∧ (∀ k, k ≠ a.blk → w'.heap[k]? = w.heap[k]?) ∧ w'.os = w.os ∧ w'.tape = w.tape ∧ w'.output = w.output ∧
      Blk.H β ρ w' ⟨a.blk, a.off + off, a.cap - off⟩ (.row ty ((cells.drop off).take (p - off) ++ news)) := by
  obtain ⟨arr, lo, hi, g1, g2, g3, g4, vs, g5, g6⟩ := h
  obtain ⟨w', hr, hs, hoth, hh, e1, e2, e3⟩ := run_storeCells_row E.P a.blk (a.off + p) ty lo hi us 0 arr w g1 (by omega) h1 (by rcases g4 with h | h; exact .inl h; exact .inr (by omega))
  have hnl := hf.length
  have hcl : ((cells.drop off).take (p - off)).length = p - off := by rw [List.length_take, List.length_drop]; omega
  refine ⟨w', hr, hs, hoth, e1, e2, e3, _, lo, hi, hh, ?_, ?_, by rcases g4 with h | h; exact .inl h; exact .inr (by simp only; omega), (vs.drop off).take (p - off) ++ us, ((g5.drop off).take _).append hf, ?_⟩
  · simp only [List.size_toArray, List.length_append, List.length_take, List.length_drop, Array.length_toList]; omega
  · simp only [List.length_append, hcl]; omega
  · subst g6
    simp only [List.length_append, hcl, hnl, Nat.add_zero, hm]
    have := list_seg_read arr.toList us (a.off + off) (a.off + p) m (by rw [Array.length_toList]; omega) (by omega) hm
    rw [show a.off + p - (a.off + off) = p - off by omega] at this
    rw [this]
    congr 1
    rw [List.drop_take, List.drop_drop, List.take_take, Nat.min_eq_left (by omega)]

theorem append_ok (ho : ∀ i, (ρ.x i).oneCell' = true) (hS : SH β ρ B H w) {ats : Array TypeId} {ty sT xT : TypeId} {s x : TV} {u v : Value} (h0 : ats[0]? = some sT) (h1 : ats[1]? = some xT) (hs : s.D β ρ u) (hx : x.D β ρ v) :
    ValOK E.P ρ B β H n w (Builtin.append_ ats ty #[u, v]) (appendOp E H n sT xT s x) := by
  unfold appendOp
  split
  rotate_left
  · trivial
  rename_i elem hu
  split
  rotate_left
  · trivial
  rename_i i hi
  split
  rotate_left
  · trivial
  rename_i z hz
  split
  rotate_left
  · trivial
  rename_i hb
  simp only [Bool.and_eq_true] at hb
  have hzs := Nat.eq_of_beq_eq_true hb.1
  have hpos := Nat.le_of_ble_eq_true hb.2
  split
  rotate_left
  · trivial
  rename_i k news hsrc
  split
  rotate_left
  · trivial
  rename_i hok
  split
  · -- nil
    simp only [TV.D, EV.D, SV.D] at hs
    subst hs
    split
    · intro _
      obtain ⟨us, _, hA⟩ := appSrc_ok hS hx hzs hsrc (by simp)
      refine ⟨.slice none 0 0, w, β, ?_, rfl, Post.refl hS⟩
      obtain ⟨hlen, ⟨d, hd, hd2, hl, hc⟩ | ⟨⟨kd, hd⟩, rfl, _, _, rfl⟩⟩ := hA
      · have hc' := hc w (fun _ _ => rfl)
        rcases hd2 with ⟨e, rfl⟩ | rfl
        · simp [Builtin.append_, h0, h1, run_underlying hu, sizeOf, typeInfo, hi, run_underlying hd, hl, hc']
        · simp [Builtin.append_, h0, h1, run_underlying hu, sizeOf, typeInfo, hi, run_underlying hd, hl, hc']
      · have wk : IntKind.i64.wrap (0 : Int) = 0 := by decide
        simp [Builtin.append_, h0, h1, run_underlying hu, sizeOf, typeInfo, hi, run_underlying hd, asInt, asIntOf, wk]
    · rename_i hk0
      cases hb2 : (Nat.ble (k * i.bytes) 140737488355328 && Nat.ble k 4611686018427387904) with
      | false => trivial
      | true =>
        simp only [Bool.and_eq_true] at hb2
        have b1 := Nat.le_of_ble_eq_true hb2.1
        have b2 := Nat.le_of_ble_eq_true hb2.2
        intro hn
        have hn' := hn n (Nat.le_refl _) (Nat.lt_succ_self _)
        obtain ⟨us, hf, hA⟩ := appSrc_ok hS hx hzs hsrc (by omega)
        have hkpos : 0 < k := by
          rcases Nat.eq_zero_or_pos k with h | h
          · exact absurd h (by simpa using hk0)
          · exact h
        obtain ⟨c, hc, hr⟩ := run_append_grow' (P := E.P) ats ty sT xT elem i z v h0 h1 hu hi hz hA none 0 0 (olds := []) (by omega) (by simpa using b1) (by simpa using b2) (fun w' _ => by simp [Builtin.firstCells])
        simp only [Nat.zero_add] at hr hc
        have hsz : us.length + (Builtin.zeroCells z.cells (c - k)).size = c * i.size := by
          rw [size_zeroCells, hA.1, hzs, ← Nat.add_mul]
          congr 1
          omega
        have hle : β.le (β.put n ⟨w.heap.size, 0, us.length + (Builtin.zeroCells z.cells (c - k)).size⟩) := Bind.le_put hn'
        refine ⟨_, _, β.put n ⟨w.heap.size, 0, us.length + (Builtin.zeroCells z.cells (c - k)).size⟩, hr, ⟨_, Bind.put_same _ _ _, ?_⟩, post_new hS hn' _ _ _ rfl rfl rfl rfl ?_⟩
        · simp only [Option.getD_none, Nat.sub_zero, hsz, Nat.mul_div_cancel _ (show 0 < i.size by omega)]
        · exact row_new_spare (by simpa using heap_alloc_new w.drew _) (hf.mono (SV.D_mono hle))
  · -- a slice
    rename_i l off esz len cap
    obtain ⟨a, ha, rfl⟩ := hs
    split
    rotate_left
    · trivial
    rename_i ty' cells hl
    cases hb2 : (Nat.beq esz i.size && Nat.beq ty' elem && Nat.ble (off + len * esz) cells.length && Nat.ble ((len + k) * i.bytes) 140737488355328 && Nat.ble (len + k) 4611686018427387904) with
    | false => trivial
    | true =>
      simp only [Bool.and_eq_true] at hb2
      obtain ⟨⟨⟨⟨b1, b2⟩, b3⟩, b4⟩, b5⟩ := hb2
      have b1 := Nat.eq_of_beq_eq_true b1
      have b2 := Nat.eq_of_beq_eq_true b2
      have b3 := Nat.le_of_ble_eq_true b3
      have b4 := Nat.le_of_ble_eq_true b4
      have b5 := Nat.le_of_ble_eq_true b5
      subst b1 b2
      have hkb : k * i.bytes ≤ 281474976710656 := by
        have : k * i.bytes ≤ (len + k) * i.bytes := Nat.mul_le_mul_right _ (by omega)
        omega
      obtain ⟨us, hf, hA⟩ := appSrc_ok hS hx hzs hsrc hkb
      obtain ⟨a', ha', hrow⟩ := hS.at_ _ _ hl
      rw [ha] at ha'; cases ha'
      have holds : ∃ olds, F2 (SV.D β ρ) ((cells.drop off).take (len * i.size)) olds ∧ ∀ C w', (∀ b, b < w.heap.size → w'.heap[b]? = w.heap[b]?) → (Builtin.firstCells i.size len (.slice (some ⟨a.blk, a.off + off, none⟩) len C)).run E.P w' = .ok olds.toArray w' := by
        obtain ⟨vs, hfv, hc⟩ := row_cells hrow
        have hf' := (hfv.drop off).take (len * i.size)
        refine ⟨_, hf', fun C w' hw => ?_⟩
        refine run_firstCells_some w' i.size len _ len C _ (by rw [← hf'.length, List.length_take, List.length_drop]; omega) (fun j v hv => ?_)
        rw [List.getElem?_take] at hv
        split at hv
        · rw [List.getElem?_drop] at hv
          have := hc _ _ hv
          rw [addr_add, Nat.add_assoc]
          have hlt := block_lt_of_cell this
          rw [← this]
          simp only [World.cell?, hw _ hlt]
        · cases hv
      have hcells_le : cells.length ≤ a.cap := by obtain ⟨_, _, _, _, _, h3, _⟩ := hrow; exact h3
      cases hin : fitsB cells.length off len k i.size cap with
      | true =>
        try simp only
        split
        · rename_i cells' hput
          intro _
          have hroom : len + k ≤ cap.getD ((a.cap - off) / i.size) := by
            cases cap with
            | some c => exact Nat.le_of_ble_eq_true (show Nat.ble (len + k) c = true from hin)
            | none =>
              have := Nat.le_of_ble_eq_true (show Nat.ble (off + (len + k) * i.size) cells.length = true from hin)
              simp only [Option.getD_none]
              rw [Nat.le_div_iff_mul_le (by omega)]
              omega
          obtain ⟨w', hr, hs, hoth, e1, e2, e3, hrow'⟩ := row_put (P := E.P) hrow hput hf (okCells_one ho hok hf)
          rw [← Nat.add_assoc] at hr
          exact ⟨_, w', β, run_append_room' (P := E.P) ats ty sT xT ty' i z v h0 h1 hu hi hz hA a.blk (a.off + off) len _ hroom hr, ⟨a, ha, rfl⟩, post_upd hS hl ha hs hoth e1 e2 e3 hrow'⟩
        · trivial
      | false =>
        try simp only
        obtain ⟨olds, hfo, hold⟩ := holds
        cases cap with
        | some c =>
          try simp only at hin ⊢
          intro hn
          have hn' := hn n (Nat.le_refl _) (Nat.lt_succ_self _)
          have hlt : c < len + k := by
            rcases Nat.lt_or_ge c (len + k) with h | h
            · exact h
            · rw [show fitsB cells.length off len k i.size (some c) = Nat.ble (len + k) c from rfl, Nat.ble_eq_true_of_le h] at hin; cases hin
          obtain ⟨c', hc', hr⟩ := run_append_grow' (P := E.P) ats ty sT xT ty' i z v h0 h1 hu hi hz hA (some ⟨a.blk, a.off + off, none⟩) len c hlt b4 b5 (hold c)
          have hfa := hfo.append hf
          have hsz : (olds ++ us).length + (Builtin.zeroCells z.cells (c' - (len + k))).size = c' * i.size := by
            rw [size_zeroCells, List.length_append, hA.1, ← hfo.length, hzs, List.length_take, List.length_drop, Nat.min_eq_left (by omega), ← Nat.add_mul, ← Nat.add_mul]
            congr 1
            omega
          have hle : β.le (β.put n ⟨w.heap.size, 0, (olds ++ us).length + (Builtin.zeroCells z.cells (c' - (len + k))).size⟩) := Bind.le_put hn'
          refine ⟨_, _, β.put n ⟨w.heap.size, 0, (olds ++ us).length + (Builtin.zeroCells z.cells (c' - (len + k))).size⟩, hr, ⟨_, Bind.put_same _ _ _, ?_⟩, post_new hS hn' _ _ _ rfl rfl rfl rfl ?_⟩
          · simp only [Option.getD_none, Nat.sub_zero, hsz, Nat.mul_div_cancel _ (show 0 < i.size by omega)]
          · exact row_new_spare (by simpa using heap_alloc_new w.drew _) (hfa.mono (SV.D_mono hle))
        | none =>
          try simp only
          intro hn
          have hn' := hn n (Nat.le_refl _) (Nat.lt_succ_self _)
          by_cases hroom : len + k ≤ (a.cap - off) / i.size
          · have hmul := (Nat.le_div_iff_mul_le (by omega)).1 hroom
            obtain ⟨w', hr, hs, hoth, e1, e2, e3, hrow'⟩ := row_extend (E := E) (off := off) (p := off + len * i.size) (m := k * i.size) hrow hf (okCells_one ho hok hf) (by omega) b3 hA.1 (by rw [Nat.add_mul] at hmul; omega)
            rw [← Nat.add_assoc] at hr
            have hle : β.le (β.put n ⟨a.blk, a.off + off, a.cap - off⟩) := Bind.le_put hn'
            rw [show off + len * i.size - off = len * i.size by omega] at hrow'
            exact ⟨_, w', β.put n ⟨a.blk, a.off + off, a.cap - off⟩, run_append_room' (P := E.P) ats ty sT xT ty' i z v h0 h1 hu hi hz hA a.blk (a.off + off) len _ hroom hr, ⟨_, Bind.put_same _ _ _, rfl⟩, post_take hS hn' hl ha rfl hs hoth e1 e2 e3 (Blk.H_mono hle hrow')⟩
          · obtain ⟨c', hc', hr⟩ := run_append_grow' (P := E.P) ats ty sT xT ty' i z v h0 h1 hu hi hz hA (some ⟨a.blk, a.off + off, none⟩) len ((a.cap - off) / i.size) (by omega) b4 b5 (hold _)
            have hfa := hfo.append hf
            have hsz : (olds ++ us).length + (Builtin.zeroCells z.cells (c' - (len + k))).size = c' * i.size := by
              rw [size_zeroCells, List.length_append, hA.1, ← hfo.length, hzs, List.length_take, List.length_drop, Nat.min_eq_left (by omega), ← Nat.add_mul, ← Nat.add_mul]
              congr 1
              omega
            have hle : β.le (β.put n ⟨w.heap.size, 0, (olds ++ us).length + (Builtin.zeroCells z.cells (c' - (len + k))).size⟩) := Bind.le_put hn'
            refine ⟨_, _, β.put n ⟨w.heap.size, 0, (olds ++ us).length + (Builtin.zeroCells z.cells (c' - (len + k))).size⟩, hr, ⟨_, Bind.put_same _ _ _, ?_⟩, post_moved hS hn' l _ _ _ rfl rfl rfl rfl ?_⟩
            · simp only [Option.getD_none, Nat.sub_zero, hsz, Nat.mul_div_cancel _ (show 0 < i.size by omega)]
            · exact row_new_spare (by simpa using heap_alloc_new w.drew _) (hfa.mono (SV.D_mono hle))
  · -- what is left of a slice
    rename_i l o0 o1 esz
    obtain ⟨a, ha, rfl⟩ := hs
    generalize hoo : (if (a.cap - o0) / esz = (o1 - o0) / esz then o0 else o1) = oo
    split
    · intro _
      obtain ⟨us, _, hA⟩ := appSrc_ok hS hx hzs hsrc (by simp)
      have hus : us = [] := by
        have := hA.1
        rw [Nat.zero_mul] at this
        exact List.eq_nil_of_length_eq_zero this
      subst hus
      refine ⟨_, w, β, run_append_room' (P := E.P) ats ty sT xT elem i z v h0 h1 hu hi hz hA a.blk _ 0 _ (Nat.zero_le _) (w' := w) rfl, ⟨a, ha, by rw [hoo]⟩, Post.refl hS⟩
    · rename_i hk0
      split
      rotate_left
      · trivial
      rename_i ty' cells hl
      cases hb2 : (Nat.beq esz i.size && Nat.beq ty' elem && Nat.ble o1 cells.length && Nat.ble o0 o1 && Nat.beq ((o1 - o0) % esz) 0 && Nat.ble (k * i.bytes) 140737488355328 && Nat.ble k 4611686018427387904) with
      | false => trivial
      | true =>
        simp only [Bool.and_eq_true] at hb2
        obtain ⟨⟨⟨⟨⟨⟨b1, b2⟩, b3⟩, b3'⟩, b3''⟩, b4⟩, b5⟩ := hb2
        have b1 := Nat.eq_of_beq_eq_true b1
        have b2 := Nat.eq_of_beq_eq_true b2
        have b3 := Nat.le_of_ble_eq_true b3
        have b3' := Nat.le_of_ble_eq_true b3'
        have b3'' := Nat.eq_of_beq_eq_true b3''
        have b4 := Nat.le_of_ble_eq_true b4
        have b5 := Nat.le_of_ble_eq_true b5
        subst b1 b2
        have hkpos : 0 < k := by
          rcases Nat.eq_zero_or_pos k with h | h
          · exact absurd h (by simpa using hk0)
          · exact h
        intro hn
        have hn' := hn n (Nat.le_refl _) (Nat.lt_succ_self _)
        obtain ⟨us, hf, hA⟩ := appSrc_ok hS hx hzs hsrc (by omega)
        obtain ⟨a', ha', hrow⟩ := hS.at_ _ _ hl
        rw [ha] at ha'; cases ha'
        have hcells_le : cells.length ≤ a.cap := by obtain ⟨_, _, _, _, _, h3, _⟩ := hrow; exact h3
        by_cases hroom : 0 + k ≤ (a.cap - o1) / i.size
        · have hmul := (Nat.le_div_iff_mul_le (by omega)).1 hroom
          have hpos2 : 0 < k * i.size := Nat.mul_pos hkpos (by omega)
          have hne : ¬ ((a.cap - o0) / i.size = (o1 - o0) / i.size) := by
            have e1 : a.cap - o0 = (o1 - o0) + (a.cap - o1) := by omega
            obtain ⟨q, hq⟩ : ∃ q, o1 - o0 = i.size * q := ⟨(o1 - o0) / i.size, by have := Nat.div_add_mod (o1 - o0) i.size; omega⟩
            rw [e1, hq, Nat.mul_add_div (by omega), Nat.mul_div_cancel_left _ (by omega)]
            omega
          obtain ⟨w', hr, hs, hoth, e1, e2, e3, hrow'⟩ := row_extend (E := E) (off := o1) (p := o1) (m := k * i.size) hrow hf (okCells_one ho hok hf) (Nat.le_refl _) b3 hA.1 (by rw [Nat.zero_add] at hmul; omega)
          have hle : β.le (β.put n ⟨a.blk, a.off + o1, a.cap - o1⟩) := Bind.le_put hn'
          rw [Nat.sub_self, List.take_zero, List.nil_append] at hrow'
          have hrr := run_append_room' (P := E.P) (w := w) (w' := w') ats ty sT xT ty' i z v h0 h1 hu hi hz hA a.blk (a.off + o1) 0 ((a.cap - o1) / i.size) hroom (by simpa using hr)
          rw [if_neg hne] at hoo
          subst hoo
          exact ⟨_, w', β.put n ⟨a.blk, a.off + o1, a.cap - o1⟩, hrr, ⟨_, Bind.put_same _ _ _, by simp⟩, post_take hS hn' hl ha rfl hs hoth e1 e2 e3 (Blk.H_mono hle hrow')⟩
        · obtain ⟨c', hc', hr⟩ := run_append_grow' (P := E.P) (w := w) ats ty sT xT ty' i z v h0 h1 hu hi hz hA (some ⟨a.blk, a.off + oo, none⟩) 0 ((a.cap - o1) / i.size) (olds := []) (by omega) (by simpa using b4) (by simpa using b5)
            (fun w' _ => by simp [Builtin.firstCells, loadCells, loadCellsFrom])
          simp only [Nat.zero_add] at hr hc'
          have hsz : us.length + (Builtin.zeroCells z.cells (c' - k)).size = c' * i.size := by
            rw [size_zeroCells, hA.1, hzs, ← Nat.add_mul]
            congr 1
            omega
          have hle : β.le (β.put n ⟨w.heap.size, 0, us.length + (Builtin.zeroCells z.cells (c' - k)).size⟩) := Bind.le_put hn'
          refine ⟨_, _, β.put n ⟨w.heap.size, 0, us.length + (Builtin.zeroCells z.cells (c' - k)).size⟩, hr, ⟨_, Bind.put_same _ _ _, ?_⟩, post_moved hS hn' l _ _ _ rfl rfl rfl rfl ?_⟩
          · simp only [Option.getD_none, Nat.sub_zero, hsz, Nat.mul_div_cancel _ (show 0 < i.size by omega)]
          · exact row_new_spare (by simpa using heap_alloc_new w.drew _) (hf.mono (SV.D_mono hle))
  · trivial
end Go.Sx

/- The symbolic evaluator: single operations are right. Part 7: copy, len, cap, conversions, comparisons, maps. -/
namespace Go.Sx
variable {E : Env} {ρ : Val} {B : Nat} {β γ : Bind} {H : Tr Blk} {n : Nat} {w w' : World} {T : Tmps} {f : Operand → Value}

theorem copy_ok (ho : ∀ i, (ρ.x i).oneCell' = true) (hS : SH β ρ B H w) {ats : Array TypeId} {ty dT : TypeId} {d x : TV} {u v : Value} (h0 : ats[0]? = some dT) (hd : d.D β ρ u) (hx : x.D β ρ v) :
    ValOK E.P ρ B β H n w (Builtin.copy_ ats ty #[u, v]) (copyOp E H n dT d x) := by
  unfold copyOp
  split
  rotate_left
  · trivial
  rename_i elem hu
  split
  rotate_left
  · trivial
  rename_i size hs
  split
  rotate_left
  · trivial
  rename_i k news hsrc
  split
  rotate_left
  · trivial
  rename_i l off esz len cap
  obtain ⟨a, ha, rfl⟩ := hd
  split
  rotate_left
  · trivial
  rename_i ty' cells hl
  cases hb : (Nat.beq esz size && news.all SV.okCell && Nat.ble k len && (Nat.beq size 1 || notStr x)) with
  | false => trivial
  | true =>
    simp only [Bool.and_eq_true, Bool.or_eq_true] at hb
    obtain ⟨⟨⟨b1, b2⟩, b3⟩, b4⟩ := hb
    have b3 := Nat.le_of_ble_eq_true b3
    simp only [cond_true]
    split
    rotate_left
    · trivial
    rename_i cells' hput
    intro _
    have h1 : size = 1 ∨ ∀ s, v ≠ .string s := by
      rcases b4 with h | h
      · exact .inl (Nat.eq_of_beq_eq_true h)
      · refine .inr fun s e => ?_
        subst e
        unfold srcCells at hsrc
        split at hsrc
        · obtain ⟨a, _, hx⟩ := hx; cases hx
        · simp only [TV.D, EV.D, SV.D] at hx; cases hx
        · obtain ⟨a, _, hx⟩ := hx; cases hx
        · cases h
        · cases hsrc
    obtain ⟨us, g1, g2, g3, g4⟩ := run_src (P := E.P) (srcCells_ok hS hx hsrc h1)
    obtain ⟨a', ha', hrow⟩ := hS.at_ _ _ hl
    rw [ha] at ha'; cases ha'
    obtain ⟨w', hr, hsz, hoth, e1, e2, e3, hrow'⟩ := row_put (P := E.P) hrow hput g1 (okCells_one ho b2 g1)
    refine ⟨_, w', β, ?_, rfl, post_upd hS hl ha hsz hoth e1 e2 e3 hrow'⟩
    have hmin : Nat.min k len = k := Nat.min_eq_left b3
    simp [Builtin.copy_, h0, run_underlying hu, g3, hmin, run_sizeOfB hs, g4 w (fun _ _ => rfl), hr, goInt]

theorem getObj_map {P : Program} {w : World} {r : Nat} {es : Array MapEntry} {clock : Nat} (hb : w.heap[r]? = some (.map es clock)) : (getObj r).run P w = .ok (.map es clock) w := by simp [getObj, Sem.run, hb]

theorem len_ok (hol : ∀ i e, E.olen i = some e → ∃ a m c, ρ.x i = .slice a m c ∧ (m : Int) = e.den ρ) (hS : SH β ρ B H w) {ats : Array TypeId} {ty t : TypeId} {x : TV} {u : Value} (h0 : ats[0]? = some t) (hx : x.D β ρ u) : ValOK E.P ρ B β H n w (Builtin.len_ ats ty #[u]) (lenOp E H n t x) := by
  unfold lenOp
  split
  · obtain ⟨a, ha, rfl⟩ := hx
    split
    · rename_i hu
      intro _
      exact ⟨_, w, β, by simp [Builtin.len_, h0, run_underlying hu, goInt], rfl, Post.refl hS⟩
    · trivial
  · obtain ⟨a, ha, rfl⟩ := hx
    generalize (if (a.cap - _) / _ = _ then _ else _) = oo
    split
    · rename_i hu
      intro _
      exact ⟨_, w, β, by simp [Builtin.len_, h0, run_underlying hu, goInt], rfl, Post.refl hS⟩
    · trivial
  · rename_i i
    simp only [TV.D, EV.D, SV.D] at hx
    subst hx
    split
    · rename_i hu
      split
      · rename_i e he
        intro _
        obtain ⟨a, m, c, h1, h2⟩ := hol i e he
        rw [h1]
        exact ⟨.int .i64 m, w, β, by simp [Builtin.len_, h0, run_underlying hu, goInt], by simp only [TV.D, EV.D, SV.D, h2], Post.refl hS⟩
      · trivial
    · trivial
  · rename_i l
    obtain ⟨a, ha, rfl⟩ := hx
    split
    · rename_i hu
      split
      · rename_i es clock hl
        intro _
        obtain ⟨a', ha', xs, h1, h2⟩ := hS.at_ _ _ hl
        rw [ha] at ha'; cases ha'
        refine ⟨.int .i64 es.length, w, β, ?_, rfl, Post.refl hS⟩
        simp [Builtin.len_, h0, run_underlying hu, goInt, getObj_map h1, h2.length]
      · trivial
    · trivial
  · obtain ⟨vs, _, rfl⟩ := hx
    split
    · rename_i k _ hu
      intro _
      exact ⟨_, w, β, by simp [Builtin.len_, h0, run_underlying hu, goInt], rfl, Post.refl hS⟩
    · trivial
  · trivial

theorem cap_ok (hS : SH β ρ B H w) {ats : Array TypeId} {ty t : TypeId} {x : TV} {u : Value} (h0 : ats[0]? = some t) (hx : x.D β ρ u) : ValOK E.P ρ B β H n w (Builtin.cap_ ats ty #[u]) (capOp E H n t x) := by
  unfold capOp
  split
  · obtain ⟨a, ha, rfl⟩ := hx
    split
    · rename_i hu
      intro _
      exact ⟨_, w, β, by simp [Builtin.cap_, h0, run_underlying hu, goInt], rfl, Post.refl hS⟩
    · trivial
  · trivial

theorem bytesOf_ok : ∀ (l : List SV) (bs : List UInt8) (vs : List Value), bytesOf l = some bs → F2 (SV.D β ρ) l vs → vs = bs.map fun b => Value.int .u8 b.toNat
  | [], bs, vs, h, hf => by
    simp only [bytesOf, Option.some.injEq] at h; subst h
    cases hf; rfl
  | s :: r, bs, vs, h, hf => by
    unfold bytesOf at h
    split at h
    · cases ‹_ :: _ = []›
    · rename_i k r' heq
      obtain ⟨rfl, rfl⟩ := List.cons.inj heq
      obtain ⟨hb, h⟩ := bif_some h
      split at h
      · rename_i l hl
        simp only [Option.some.injEq] at h
        subst h
        cases hf with
        | cons h1 h2 =>
          rw [bytesOf_ok _ _ _ hl h2]
          simp only [SV.D] at h1
          subst h1
          have hlt : k < 256 := by unfold Nat.blt at hb; exact Nat.le_of_ble_eq_true hb
          simp only [List.map_cons, List.cons.injEq, Value.int.injEq, true_and, and_true]
          rw [UInt8.toNat_ofNat_of_lt' (by simpa using hlt)]
          rfl
      · cases h
    · cases h

theorem convert_ok (hS : SH β ρ B H w) {src dst : TypeId} {x : TV} {u : Value} (hx : x.D β ρ u) : ValOK E.P ρ B β H n w (convert src dst u) (convertOp E H n src dst x) := by
  unfold convertOp
  split
  · rename_i e hs hd
    split
    · rename_i s
      simp only [TV.D, EV.D, SV.D] at hx
      subst hx
      split
      · rename_i he
        intro hn
        have hn' := hn n (Nat.le_refl _) (Nat.lt_succ_self _)
        have hr := run_bytes_of_string (P := E.P) w src dst e s hs hd he
        have hge := grownCap_ge w s.size 0 e
        have hsz : (bytesRow s (grownCap w s.size 0 e)).size = grownCap w s.size 0 e := by
          simp only [bytesRow, Array.size_append, Array.size_map, Array.size_replicate]
          show s.size + (grownCap w s.size 0 e - s.size) = _
          omega
        refine ⟨_, _, β.put n ⟨w.heap.size, 0, grownCap w s.size 0 e⟩, hr, ⟨_, Bind.put_same _ _ _, by simp⟩, post_new hS hn' _ _ _ rfl rfl rfl rfl ?_⟩
        have hF : F2 (SV.D (β.put n ⟨w.heap.size, 0, grownCap w s.size 0 e⟩) ρ) (s.data.toList.map fun x => SV.cst (.int .u8 x.toNat)) (s.data.toList.map fun b => Value.int .u8 b.toNat) := by
          have := cst_F2 (β := β.put n ⟨w.heap.size, 0, grownCap w s.size 0 e⟩) (ρ := ρ) (s.data.toList.map fun b => Value.int .u8 b.toNat)
          rwa [List.map_map] at this
        have hln : (s.data.toList.map fun x => SV.cst (.int .u8 x.toNat)).length = s.size := by rw [List.length_map]; exact Array.length_toList
        refine ⟨_, _, _, by simpa using heap_alloc_new w.drew _, by simp [hsz], by rw [hln]; exact hge, .inr (by simp [hsz]), _, hF, ?_⟩
        rw [hln]
        simp only [bytesRow, List.drop_zero, Array.toList_append, Array.toList_map]
        exact List.take_left' (by rw [List.length_map]; exact Array.length_toList)
      · trivial
    · trivial
  · rename_i e hs hd
    split
    · rename_i l off _ len _
      obtain ⟨a, ha, rfl⟩ := hx
      split
      · rename_i he
        split
        · rename_i k seg hseg
          split
          · rename_i bs hbs
            intro _
            have hsrc := srcCells_ok (ρ := ρ) hS (x := .ev (.one (.slc l off 1 len none))) (u := .slice (some ⟨a.blk, a.off + off, none⟩) len ((a.cap - off) / 1)) ⟨a, ha, rfl⟩ hseg (.inl rfl)
            obtain ⟨us, g1, g2, g3⟩ := hsrc
            rcases g3 with ⟨a', len', cap', h1, h2, h3⟩ | ⟨s, h1, _⟩
            · cases h1
              have hus := bytesOf_ok _ _ _ hbs g1
              have hbl : bs.length = len := by
                have := congrArg List.length hus
                rw [List.length_map] at this
                omega
              subst h2
              refine ⟨_, w, β, ?_, rfl, Post.refl hS⟩
              rw [← hbl]
              refine run_convert_bytes_back w src dst e _ _ bs hs he hd (fun j hj => ?_)
              rw [addr_add]
              rcases h3 with ⟨h3, _⟩ | ⟨b', o', h3, h4⟩
              · cases h3
              · cases h3
                exact h4 j _ (by rw [hus]; simp [hj])
            · cases h1
          · trivial
        · trivial
      · trivial
    · obtain ⟨a, ha, rfl⟩ := hx
      generalize (if (a.cap - _) / _ = _ then _ else _) = oo
      split
      · rename_i he
        intro _
        refine ⟨_, w, β, run_convert_bytes_back w src dst e _ _ [] hs he hd (fun j hj => by simp at hj), rfl, Post.refl hS⟩
      · trivial
    · trivial
  · trivial
end Go.Sx

/- The symbolic evaluator: single operations are right. Part 8: comparisons, maps, operations on known values; any operation. -/
namespace Go.Sx
variable {E : Env} {ρ : Val} {B : Nat} {β γ : Bind} {H : Tr Blk} {n : Nat} {w w' : World} {T : Tmps} {f : Operand → Value}

theorem pureRun_ok {α : Type} {P : Program} : ∀ (e : Sem α) (r : α), pureRun P e = some r → ∀ w, e.run P w = .ok r w := by
  intro e
  induction e with
  | pure a => intro r h w; simp only [pureRun, Option.some.injEq] at h; subst h; rfl
  | program k ih => intro r h w; exact ih P r h w
  | mark m k ih => intro r h w; exact ih r h w
  | _ => intro r h; simp [pureRun] at h

theorem sval_ok {s : SV} {v u : Value} (h : s.val? = some v) (hd : s.D β ρ u) : u = v := by
  unfold SV.val? at h
  split at h
  · simp only [Option.some.injEq] at h; subst h; exact hd
  · simp only [Option.some.injEq] at h; subst h
    obtain ⟨xs, ys, h1, h2, rfl⟩ := hd
    cases h1; cases h2; rfl
  · cases h
theorem svals_ok : ∀ {l : List SV} {vs us : List Value}, svals? l = some vs → F2 (SV.D β ρ) l us → us = vs
  | [], vs, us, h, hf => by simp only [svals?, Option.some.injEq] at h; subst h; cases hf; rfl
  | s :: r, vs, us, h, hf => by
    simp only [svals?] at h
    split at h
    · rename_i v hv
      split at h
      · rename_i l hl
        simp only [Option.some.injEq] at h
        subst h
        cases hf with
        | cons h1 h2 => rw [sval_ok hv h1, svals_ok hl h2]
      · cases h
    · cases h
theorem eval_ok {e : EV} {v u : Value} (h : e.val? = some v) (hd : e.D β ρ u) : u = v := by
  cases e with
  | one s => exact sval_ok h hd
  | agg cs =>
    obtain ⟨vs, hf, rfl⟩ := hd
    simp only [EV.val?] at h
    split at h
    · rename_i l hl
      simp only [Option.some.injEq] at h
      subst h
      rw [svals_ok hl hf]
    · cases h
theorem evals_ok : ∀ {l : List EV} {vs us : List Value}, evals? l = some vs → F2 (EV.D β ρ) l us → us = vs
  | [], vs, us, h, hf => by simp only [evals?, Option.some.injEq] at h; subst h; cases hf; rfl
  | s :: r, vs, us, h, hf => by
    simp only [evals?] at h
    split at h
    · rename_i v hv
      split at h
      · rename_i l hl
        simp only [Option.some.injEq] at h
        subst h
        cases hf with
        | cons h1 h2 => rw [eval_ok hv h1, evals_ok hl h2]
      · cases h
    · cases h
theorem val_ok {t : TV} {v u : Value} (h : t.val? = some v) (hd : t.D β ρ u) : u = v := by
  cases t with
  | ev e => exact eval_ok h hd
  | tup es =>
    obtain ⟨vs, hf, rfl⟩ := hd
    simp only [TV.val?] at h
    split at h
    · rename_i l hl
      simp only [Option.some.injEq] at h
      subst h
      rw [evals_ok hl hf]
    · cases h

theorem ofV_EV (v : Value) : (EV.ofV v).D β ρ v := by
  cases v <;> first | rfl | exact ⟨_, cst_F2 _, rfl⟩
theorem ofV_TV (v : Value) : (TV.ofV v).D β ρ v := by
  unfold TV.ofV
  split
  · exact ⟨_, F2.same EV.ofV (fun b => ofV_EV b) _, rfl⟩
  · exact ⟨[], [], .nil, .nil, rfl⟩
  · exact ofV_EV v

/-- The frame's slots are what they are said to be. -/
def EvOK (β : Bind) (ρ : Val) (T : Tmps) (f : Operand → Value) : Prop := ∀ x t, evalT T x = some t → t.D β ρ (f x)

theorem closedAll_ok (hT : EvOK β ρ T f) : ∀ (l : List Operand), closedAll T l = true → ∀ x ∈ l, f x = closedVal T x
  | [], _, x, hx => by cases hx
  | y :: r, h, x, hx => by
    simp only [closedAll] at h
    split at h
    · rename_i t ht
      split at h
      · rename_i v hv
        cases hx with
        | head => unfold closedVal; rw [ht]; simp only [hv]; exact val_ok hv (hT _ _ ht)
        | tail _ hx => exact closedAll_ok hT r h x hx
      · cases h
    · cases h

/-- An operation, as the model carries it out, comes to what the evaluator says. -/
def OpOK (E : Env) (ρ : Val) (B : Nat) (β : Bind) (H : Tr Blk) (n : Nat) (w : World) (f : Operand → Value) (o : Oper) : OR → Prop
  | .val v H' n' W => (∀ l, n ≤ l → l < n' → β l = none) → ∃ u w' β', ((execOp f o).run E.P w = .ok (.value u) w' ∨ ((execOp f o).run E.P w = .ok .skip w' ∧ u = undef)) ∧ v.D β' ρ u ∧ Post ρ B β H n w β' H' n' W w'
  | .call g args => ∃ vs, F2 (EV.D β ρ) args vs ∧ execOp f o = callFunc g vs.toArray
  | _ => True

theorem OpOK.of_val {o : Oper} {e : Sem Value} {r : OR} (he : execOp f o = (do pure (.value (← e)))) (h : ValOK E.P ρ B β H n w e r) : OpOK E ρ B β H n w f o r := by
  cases r with
  | val v H' n' W =>
    intro hn
    obtain ⟨u, w', β', h1, h2, h3⟩ := h hn
    exact ⟨u, w', β', .inl (by rw [he]; simp [h1]), h2, h3⟩
  | call g args => exact h.elim
  | fork e => trivial
  | fail => trivial
theorem OpOK.of_unit {o : Oper} {e : Sem Unit} {r : OR} (he : execOp f o = (do e; pure .skip)) (h : UnitOK E.P ρ B β H n w e r) : OpOK E ρ B β H n w f o r := by
  cases r with
  | val v H' n' W =>
    intro hn
    obtain ⟨w', β', h1, h2, h3⟩ := h hn
    exact ⟨undef, w', β', .inr ⟨by rw [he]; simp [h1], rfl⟩, h2, h3⟩
  | call g args => exact h.elim
  | fork e => trivial
  | fail => trivial
theorem OpOK.or {o : Oper} {a : OR} {b : Unit → OR} (ha : OpOK E ρ B β H n w f o a) (hb : OpOK E ρ B β H n w f o (b ())) : OpOK E ρ B β H n w f o (a.or b) := by
  cases a <;> first | exact ha | exact hb

theorem pureOp_ok (hT : EvOK β ρ T f) (hS : SH β ρ B H w) {o : Oper} (hsel : ∀ cs b, o.op ≠ .select cs b) : OpOK E ρ B β H n w f o (pureOp E T H n o) := by
  unfold pureOp
  split
  · rename_i hc
    have he : execOp f o = execOp (closedVal T) o := execOp_congr o hsel fun x hx => closedAll_ok hT _ hc x (by simpa using hx)
    split
    · rename_i v hv
      intro _
      exact ⟨v, w, β, .inl (by rw [he]; exact pureRun_ok _ _ hv w), ofV_TV v, Post.refl hS⟩
    · rename_i hv
      intro _
      exact ⟨undef, w, β, .inr ⟨by rw [he]; exact pureRun_ok _ _ hv w, rfl⟩, undef_D, Post.refl hS⟩
    · trivial
  · trivial

/-! ### Comparisons and sums of numbers that are not known -/
def asmOK (ρ : Val) (asm : List (BE × Bool)) : Prop := ∀ p ∈ asm, p.1.den ρ = p.2
def factsOK (ρ : Val) (fs : List (IE × Int)) : Prop := ∀ p ∈ fs, p.1.den ρ = p.2
theorem beOf_ok {asm : List (BE × Bool)} (h : asmOK ρ asm) {e : BE} {b : Bool} (hb : beOf asm e = some b) : e.den ρ = b := by
  induction asm with
  | nil => simp [beOf] at hb
  | cons p r ih =>
    obtain ⟨x, c⟩ := p
    simp only [beOf] at hb
    by_cases hx : x = e
    · simp only [hx, decide_true, cond_true, Option.some.injEq] at hb
      subst hx hb
      exact h (x, c) (by simp)
    · simp only [hx, decide_false, cond_false] at hb
      exact ih (fun p hp => h p (by simp [hp])) hb
theorem ieFact_ok {fs : List (IE × Int)} (h : factsOK ρ fs) {e : IE} {i : Int} (hi : ieFact fs e = some i) : e.den ρ = i := by
  induction fs with
  | nil => simp [ieFact] at hi
  | cons p r ih =>
    obtain ⟨x, c⟩ := p
    simp only [ieFact] at hi
    by_cases hx : x = e
    · simp only [hx, decide_true, cond_true, Option.some.injEq] at hi
      subst hx hi
      exact h (x, c) (by simp)
    · simp only [hx, decide_false, cond_false] at hi
      exact ih (fun p hp => h p (by simp [hp])) hi
theorem ieOf_ok {t : TV} {k : IntKind} {e : IE} {u : Value} (h : ieOf t = some (k, e)) (hd : t.D β ρ u) : u = .int k (e.den ρ) := by
  unfold ieOf at h
  split at h
  · simp only [Option.some.injEq, Prod.mk.injEq] at h
    obtain ⟨rfl, rfl⟩ := h
    exact hd
  · simp only [Option.some.injEq, Prod.mk.injEq] at h
    obtain ⟨rfl, rfl⟩ := h
    exact hd
  · cases h

/-- What a binary operation on numbers comes to. -/
theorem run_bin {P : Program} {op : BinOp} {t : TypeId} {x y : Operand} {k : IntKind} {a b : Int} (w : World) : (do eqGuard op t x y (.int k a) (.int k b); binOp op t (.int k a) (.int k b) : Sem Value).run P w = (binOp op t (.int k a) (.int k b)).run P w := by
  cases op <;> simp [eqGuard]

theorem openBin_ok {fs : List (IE × Int)} (hfs : factsOK ρ fs) (hS : SH β ρ B H w) {op : BinOp} {t : TypeId} {x y : Operand} {a b : TV} {u v : Value} (ha : a.D β ρ u) (hb : b.D β ρ v) :
    ValOK E.P ρ B β H n w (do eqGuard op t x y u v; binOp op t u v) (openBin fs H n op a b) := by
  unfold openBin
  split
  · rename_i k ia k' ib hia hib
    have := ieOf_ok hia ha
    have := ieOf_ok hib hb
    subst u v
    cases hk : decide (k = k') with
    | false => trivial
    | true =>
      have := of_decide_eq_true hk
      subst this
      simp only [cond_true]
      have arithOK : ∀ (op : BinOp) (e : IE), (binOp op t (.int k (ia.den ρ)) (.int k (ib.den ρ))).run E.P w = .ok (.int k (e.den ρ)) w →
          ValOK E.P ρ B β H n w (do eqGuard op t x y (.int k (ia.den ρ)) (.int k (ib.den ρ)); binOp op t (.int k (ia.den ρ)) (.int k (ib.den ρ)))
            (match ieFact fs e with | some i => .val (.ev (.one (.cst (.int k i)))) H n [] | none => .val (.ev (.one (.num k e))) H n []) := fun op e hr => by
        split
        · rename_i i hi
          intro _
          exact ⟨_, w, β, by rw [run_bin, hr, ieFact_ok hfs hi], rfl, Post.refl hS⟩
        · intro _
          exact ⟨_, w, β, by rw [run_bin, hr], rfl, Post.refl hS⟩
      have cmpOK : ∀ (op : BinOp), (∀ (i j : Int), (binOp op t (.int k i) (.int k j)).run E.P w = .ok (.bool (compare op i j)) w) → (∀ i : Int, compare op i i = reflB op) →
          ValOK E.P ρ B β H n w (do eqGuard op t x y (.int k (ia.den ρ)) (.int k (ib.den ρ)); binOp op t (.int k (ia.den ρ)) (.int k (ib.den ρ)))
            (bif decide (ia = ib) then .val (.ev (.one (.cst (.bool (reflB op))))) H n [] else .val (.ev (.one (.tst (.cmp op ia ib)))) H n []) := fun op hr hrefl => by
        cases hd : decide (ia = ib) with
        | true =>
          have := of_decide_eq_true hd
          subst this
          intro _
          exact ⟨.bool (reflB op), w, β, by rw [run_bin, hr, hrefl], rfl, Post.refl hS⟩
        | false =>
          intro _
          exact ⟨.bool (compare op (ia.den ρ) (ib.den ρ)), w, β, by rw [run_bin, hr], rfl, Post.refl hS⟩
      cases op with
      | add => exact arithOK .add (.bin .add k ia ib) (by simp [binOp, Op.intArith, IE.den, arith])
      | sub => exact arithOK .sub (.bin .sub k ia ib) (by simp [binOp, Op.intArith, IE.den, arith])
      | mul => exact arithOK .mul (.bin .mul k ia ib) (by simp [binOp, Op.intArith, IE.den, arith])
      | rem =>
        simp only
        split
        · rename_i m
          refine arithOK .rem (.bin .rem k ia (.k (.ofNat (m + 1)))) ?_
          have hne : ¬ ((Int.ofNat (m + 1)) = 0) := by simp only [Int.ofNat_eq_natCast]; omega
          simp only [binOp, IE.den, arith, ne_eq, not_true, if_false, Op.intDiv, hne, Sem.run_pure]
        · trivial
      | eql => exact cmpOK .eql (fun i j => by simp [binOp, Op.intCmp, compare]) (fun i => by simp [compare, reflB])
      | neq => exact cmpOK .neq (fun i j => by simp [binOp, Op.intCmp, compare]) (fun i => by simp [compare, reflB])
      | lss => exact cmpOK .lss (fun i j => by simp [binOp, Op.intCmp, compare]) (fun i => by simp [compare, reflB])
      | leq => exact cmpOK .leq (fun i j => by simp [binOp, Op.intCmp, compare]) (fun i => by simp [compare, reflB])
      | gtr => exact cmpOK .gtr (fun i j => by simp [binOp, Op.intCmp, compare]) (fun i => by simp [compare, reflB])
      | geq => exact cmpOK .geq (fun i j => by simp [binOp, Op.intCmp, compare]) (fun i => by simp [compare, reflB])
      | _ => trivial
  · trivial

theorem eqIn_slice {P : Program} {t e : TypeId} (hu : P.underlying t = some (.slice e)) (d : Nat) (a : Addr) (l c l' c' : Nat) (w : World) : (Op.equalIn (d + 1) t (.slice (some a) l c) (.slice none l' c')).run P w = .ok false w := by
  simp [Op.equalIn, run_underlying hu]
theorem eqIn_ptr {P : Program} {t e : TypeId} (hu : P.underlying t = some (.pointer e)) (d : Nat) (a : Addr) (w : World) : (Op.equalIn (d + 1) t (.pointer (some a)) (.pointer none)).run P w = .ok false w := by
  simp [Op.equalIn, run_underlying hu]
theorem eqIn_map {P : Program} {t e k : TypeId} (hu : P.underlying t = some (.map k e)) (d : Nat) (a : Nat) (w : World) : (Op.equalIn (d + 1) t (.map (some a)) (.map none)).run P w = .ok false w := by
  simp [Op.equalIn, run_underlying hu]
theorem equal_depth (t : TypeId) (u v : Value) : Op.equal t u v = Op.equalIn (9999 + 1) t u v := rfl

/-- '==' and '!=' where the values are no numbers, strings, or the like. -/
theorem run_eqs {P : Program} {op : BinOp} {c : Bool} (hc : op = .eql ∧ c = false ∨ op = .neq ∧ c = true) {t : TypeId} {x y : Operand} {u v : Value} (w : World) (hg : (eqGuard op t x y u v).run P w = .ok () w)
    (h1 : binOp .eql t u v = do pure (.bool (← Op.equal t u v))) (h2 : binOp .neq t u v = do pure (.bool (!(← Op.equal t u v)))) (he : (Op.equal t u v).run P w = .ok false w) :
    (do eqGuard op t x y u v; binOp op t u v : Sem Value).run P w = .ok (.bool c) w := by
  rcases hc with ⟨rfl, rfl⟩ | ⟨rfl, rfl⟩
  · rw [Sem.run_bind, hg, Result.andThen_ok, h1, Sem.run_bind, he]; rfl
  · rw [Sem.run_bind, hg, Result.andThen_ok, h2, Sem.run_bind, he]; rfl

theorem nil_ok (hS : SH β ρ B H w) {op : BinOp} {t : TypeId} {x y : Operand} {a b : TV} {u v : Value} (ha : a.D β ρ u) (hb : b.D β ρ v) :
    ValOK E.P ρ B β H n w (do eqGuard op t x y u v; binOp op t u v) (nilBin E H n op t a b) := by
  have side : ∀ (c : Bool), (op = .eql ∧ c = false ∨ op = .neq ∧ c = true) → ValOK E.P ρ B β H n w (do eqGuard op t x y u v; binOp op t u v) (nilBin.nilSide E H n c t a b) := fun c hc => by
    unfold nilBin.nilSide
    split
    · rename_i e hu
      split
      · obtain ⟨a, _, rfl⟩ := ha
        simp only [TV.D, EV.D, SV.D] at hb
        subst hb
        intro _
        exact ⟨.bool c, w, β, run_eqs hc w (by rcases hc with ⟨rfl, _⟩ | ⟨rfl, _⟩ <;> rfl) rfl rfl (by rw [equal_depth]; exact eqIn_slice hu _ _ _ _ _ _ _), rfl, Post.refl hS⟩
      · obtain ⟨a, _, rfl⟩ := ha
        simp only [TV.D, EV.D, SV.D] at hb
        subst hb
        intro _
        exact ⟨.bool c, w, β, run_eqs hc w (by rcases hc with ⟨rfl, _⟩ | ⟨rfl, _⟩ <;> rfl) rfl rfl (by rw [equal_depth]; exact eqIn_slice hu _ _ _ _ _ _ _), rfl, Post.refl hS⟩
      · trivial
    · rename_i e hu
      split
      · obtain ⟨a, _, rfl⟩ := ha
        simp only [TV.D, EV.D, SV.D] at hb
        subst hb
        intro _
        exact ⟨.bool c, w, β, run_eqs hc w (by rcases hc with ⟨rfl, _⟩ | ⟨rfl, _⟩ <;> rfl) rfl rfl (by rw [equal_depth]; exact eqIn_ptr hu _ _ _), rfl, Post.refl hS⟩
      · trivial
    · rename_i e e' hu
      split
      · obtain ⟨a, _, rfl⟩ := ha
        simp only [TV.D, EV.D, SV.D] at hb
        subst hb
        intro _
        exact ⟨.bool c, w, β, run_eqs hc w (by rcases hc with ⟨rfl, _⟩ | ⟨rfl, _⟩ <;> rfl) rfl rfl (by rw [equal_depth]; exact eqIn_map hu _ _ _), rfl, Post.refl hS⟩
      · trivial
    · trivial
  unfold nilBin
  split
  · exact side false (.inl ⟨rfl, rfl⟩)
  · exact side true (.inr ⟨rfl, rfl⟩)
  · trivial

/-! ### Maps -/
theorem makeMap_ok (hS : SH β ρ B H w) {t : TypeId} {r : Option Operand} : ValOK E.P ρ B β H n w (Instr.makeMap t (r.map f)) (makeMapOp H n r) := by
  unfold makeMapOp
  split
  · intro hn
    have hn' := hn n (Nat.le_refl _) (Nat.lt_succ_self _)
    refine ⟨.map (some w.heap.size), { w with heap := w.heap.push (.map #[] 0) }, β.put n ⟨w.heap.size, 0, 0⟩, by simp [Instr.makeMap], ⟨_, Bind.put_same _ _ _, rfl⟩, post_new hS hn' (.map #[] 0) _ 0 rfl rfl rfl rfl ?_⟩
    exact ⟨[], heap_push_new w _, .nil⟩
  · trivial

theorem findNow_ok {kd : TypeDesc} (hk : ∃ q, kd = .int q) (k : IntKind) (i : Int) : ∀ (es : List (Value × SV × Nat)) (xs : List MapEntry) (r : Option SV) (j : Nat), findB k i es = some r → F2 (fun (e : Value × SV × Nat) (x : MapEntry) => x.key = e.1 ∧ e.2.1.D β ρ x.val ∧ x.born = e.2.2) es xs →
    match r with
    | none => Instr.findNow kd (.int k i) xs j = some none
    | some s => ∃ p v, Instr.findNow kd (.int k i) xs j = some (some (p, v)) ∧ s.D β ρ v
  | [], xs, r, j, h, hf => by
    cases hf
    simp only [findB, Option.some.injEq] at h
    subst h
    rfl
  | e :: es, xs, r, j, h, hf => by
    obtain ⟨q, rfl⟩ := hk
    cases hf with
    | cons h1 h2 =>
      rename_i x xs
      obtain ⟨g1, g2, g3⟩ := h1
      unfold findB at h
      split at h
      · cases ‹_ :: _ = []›
      · rename_i k' i' v' _ r' heq
        obtain ⟨rfl, rfl⟩ := List.cons.inj heq
        simp only at g1 g2
        obtain ⟨hk, h⟩ := bif_some h
        have := of_decide_eq_true hk
        subst this
        by_cases hij : i = i'
        · subst hij
          simp only [decide_true, cond_true, Option.some.injEq] at h
          subst h
          refine ⟨j, x.val, ?_, g2⟩
          simp [Instr.findNow, g1, Instr.sameNow]
        · simp only [hij, decide_false, cond_false] at h
          have ih := findNow_ok ⟨q, rfl⟩ k i es xs r (j + 1) h h2
          have hne : (i == i') = false := by simpa using hij
          cases r with
          | none => simp only at ih ⊢; simp [Instr.findNow, g1, Instr.sameNow, hne, ih]
          | some s =>
            obtain ⟨p, v, e1, e2⟩ := ih
            exact ⟨p, v, by simp [Instr.findNow, g1, Instr.sameNow, hne, e1], e2⟩
      · cases h

/-- What a map's entries are. -/
def EntOK (β : Bind) (ρ : Val) (es : List (Value × SV × Nat)) (xs : List MapEntry) : Prop := F2 (fun (e : Value × SV × Nat) (x : MapEntry) => x.key = e.1 ∧ e.2.1.D β ρ x.val ∧ x.born = e.2.2) es xs

theorem checkKey_int {P : Program} {t : TypeId} (h : intKeyB P t = true) (b : Bool) (d : Nat) (k : IntKind) (i : Int) (w : World) : (Instr.checkKey b (d + 1) t (.int k i)).run P w = .ok () w := by
  unfold intKeyB at h
  split at h
  · rename_i q hu
    simp [Instr.checkKey, run_underlying hu]
  · cases h

theorem found_ok {P : Program} {kt : TypeId} {es : List (Value × SV × Nat)} {xs : List MapEntry} {key : TV} {kv : Value} {r : Option SV} (h : foundB P kt es key = some r) (hk : key.D β ρ kv) (hf : EntOK β ρ es xs) (w : World) :
    (Instr.checkKey xs.toArray.isEmpty 10000 kt kv).run P w = .ok () w ∧
      match r with
      | none => (Instr.findKey kt kv xs).run P w = .ok none w
      | some s => ∃ p v, (Instr.findKey kt kv xs).run P w = .ok (some (p, v)) w ∧ s.D β ρ v := by
  unfold foundB at h
  split at h
  · split at h
    · rename_i k i _ _
      obtain ⟨hb, h⟩ := bif_some h
      simp only [TV.D, EV.D, SV.D] at hk
      subst hk
      refine ⟨checkKey_int hb _ 9999 _ _ w, ?_⟩
      unfold intKeyB at hb
      split at hb
      · rename_i q hu
        have := findNow_ok (kd := .int q) ⟨q, rfl⟩ k i es xs r 0 h hf
        cases r with
        | none => simp only at this ⊢; simp [Instr.findKey, run_underlying hu, this]
        | some s => obtain ⟨p, v, e1, e2⟩ := this; exact ⟨p, v, by simp [Instr.findKey, run_underlying hu, e1], e2⟩
      · cases hb
    · cases h
  · rename_i k e hne hie
    split at h
    · obtain ⟨hb, h⟩ := bif_some h
      simp only [Option.some.injEq] at h
      subst h
      have := ieOf_ok (ρ := ρ) (β := β) hie hk
      subst this
      cases hf
      refine ⟨checkKey_int hb _ 9999 _ _ w, ?_⟩
      unfold intKeyB at hb
      split at hb
      · rename_i q hu
        simp [Instr.findKey, run_underlying hu, Instr.findNow]
      · cases hb
    · cases h
  · split at h
    · rename_i kv' hv _
      split at h
      · rename_i h1 h2
        simp only [Option.some.injEq] at h
        subst h
        have := val_ok hv hk
        subst this
        cases hf
        exact ⟨pureRun_ok _ _ h1 w, pureRun_ok _ _ h2 w⟩
      · cases h
    · cases h

theorem lookup_ok (hS : SH β ρ B H w) {t : TypeId} {x key : TV} {u v : Value} {c : Bool} (hx : x.D β ρ u) (hk : key.D β ρ v) : ValOK E.P ρ B β H n w (Instr.lookup t u v c) (lookupOp E H n t x key c) := by
  unfold lookupOp
  split
  rotate_left
  · trivial
  rename_i kt elem hu
  split
  rotate_left
  · trivial
  rename_i i hi
  split
  rotate_left
  · trivial
  rename_i z hz
  split
  rotate_left
  · trivial
  rename_i es hes
  have hmap : ∃ xs : List MapEntry, EntOK β ρ es xs ∧ ((u = .map none ∧ xs = []) ∨ ∃ r clock, u = .map (some r) ∧ w.heap[r]? = some (.map xs.toArray clock)) := by
    unfold mapEs at hes
    split at hes
    · simp only [Option.some.injEq] at hes
      subst hes
      simp only [TV.D, EV.D, SV.D] at hx
      exact ⟨[], .nil, .inl ⟨hx, rfl⟩⟩
    · rename_i l
      split at hes
      · rename_i es' clock hl
        simp only [Option.some.injEq] at hes
        subst hes
        obtain ⟨a, ha, rfl⟩ := hx
        obtain ⟨a', ha', xs, h1, h2⟩ := hS.at_ _ _ hl
        rw [ha] at ha'; cases ha'
        exact ⟨xs, h2, .inr ⟨_, _, rfl, h1⟩⟩
      · cases hes
    · cases hes
  obtain ⟨xs, hf, hu2⟩ := hmap
  have hz' : (zeroValue elem).run E.P w = .ok z w := by simp [zeroValue, typeInfo, hi, hz]
  split
  · rename_i hfound
    obtain ⟨h1, h2⟩ := found_ok (P := E.P) hfound hk hf w
    intro _
    simp only at h2
    refine ⟨if c then .tuple #[z, .bool false] else z, w, β, ?_, ?_, Post.refl hS⟩
    · rcases hu2 with ⟨rfl, rfl⟩ | ⟨r, clock, rfl, hr⟩
      · simp [Instr.lookup, run_underlying hu] at h1 ⊢
        cases c <;> simp [h1, h2, hz']
      · simp [Instr.lookup, run_underlying hu, getObj_map hr] at h1 ⊢
        cases c <;> simp [h1, h2, hz']
    · cases c with
      | false => exact ofV_EV z
      | true => exact ⟨_, .cons (ofV_EV z) (.cons rfl .nil), rfl⟩
  · rename_i s hfound
    obtain ⟨h1, p, v', h2, h3⟩ := found_ok (P := E.P) hfound hk hf w
    intro _
    refine ⟨if c then .tuple #[v', .bool true] else v', w, β, ?_, ?_, Post.refl hS⟩
    · rcases hu2 with ⟨rfl, rfl⟩ | ⟨r, clock, rfl, hr⟩
      · simp [Instr.lookup, run_underlying hu] at h1 ⊢
        cases c <;> simp [h1, h2]
      · simp [Instr.lookup, run_underlying hu, getObj_map hr] at h1 ⊢
        cases c <;> simp [h1, h2]
    · cases c with
      | false => exact h3
      | true => exact ⟨_, .cons h3 (.cons rfl .nil), rfl⟩
  · trivial

/-! ### Any operation -/
theorem openCmp_ok {asm : List (BE × Bool)} (hasm : asmOK ρ asm) {e : BE} {p : Sem Value} {H' : Tr Blk} {n' : Nat} {W' : List Nat}
    (h : ValOK E.P ρ B β H n w p (.val (.ev (.one (.tst e))) H' n' W')) : ValOK E.P ρ B β H n w p (openCmp asm H' n' W' e) := by
  unfold openCmp
  split
  · rename_i b hb
    intro hn
    obtain ⟨r, w', β', h1, h2, h3⟩ := h hn
    refine ⟨r, w', β', h1, ?_, h3⟩
    simp only [TV.D, EV.D, SV.D] at h2 ⊢
    rw [h2, beOf_ok hasm hb]
  · trivial

theorem ev1_ok (hT : EvOK β ρ T f) {o : Oper} {x : Operand} {k : TV → OR} (h : ∀ t, t.D β ρ (f x) → OpOK E ρ B β H n w f o (k t)) : OpOK E ρ B β H n w f o (ev1 T x k) := by
  unfold ev1
  split
  · rename_i a ha
    exact h a (hT _ _ ha)
  · trivial

theorem fastBin_ok (hT : EvOK β ρ T f) (hS : SH β ρ B H w) {op : BinOp} {t : TypeId} {x y : Operand} {r : Value} (h : fastBin op (evalT T x) (evalT T y) = some r) :
    ValOK E.P ρ B β H n w (do eqGuard op t x y (f x) (f y); binOp op t (f x) (f y)) (.val (.ev (.one (.cst r))) H n []) := by
  unfold fastBin at h
  split at h
  · rename_i k a k' b hx hy
    cases hk : decide (k = k') with
    | false => rw [hk] at h; cases h
    | true =>
      have := of_decide_eq_true hk
      subst this
      rw [hk, cond_true] at h
      have h1 : f x = .int k a := hT _ _ hx
      have h2 : f y = .int k b := hT _ _ hy
      rw [h1, h2]
      intro _
      refine ⟨r, w, β, ?_, rfl, Post.refl hS⟩
      rw [run_bin]
      unfold fastInt at h
      split at h
      · cases h; simp [binOp, Op.intArith]
      · cases h; simp [binOp, Op.intArith]
      · cases h; simp [binOp, Op.intArith]
      · cases h; simp [binOp, Op.intCmp]; rfl
      · cases h; simp [binOp, Op.intCmp]; rfl
      · cases h; simp [binOp, Op.intCmp]
      · cases h; simp [binOp, Op.intCmp]
      · cases h; simp [binOp, Op.intCmp]
      · cases h; simp [binOp, Op.intCmp]
      · cases h
  · cases h

theorem evsOf_ok (hT : EvOK β ρ T f) : ∀ (xs : List Operand) (l : List EV), evsOf T xs = some l → F2 (EV.D β ρ) l (xs.map f)
  | [], l, h => by simp only [evsOf, Option.some.injEq] at h; subst h; exact .nil
  | x :: r, l, h => by
    simp only [evsOf] at h
    split at h
    · rename_i e he
      split at h
      · rename_i l' hl'
        simp only [Option.some.injEq] at h
        subst h
        exact .cons (hT _ _ he) (evsOf_ok hT r l' hl')
      · cases h
    · cases h
theorem pv_sv1 : ∀ (p : PV) (v : Value), p.D β v → (EV.one p.sv).D β ρ v
  | .cst _, _, h => h
  | .ptr _ _, _, h => h
theorem pv_sv {l : List PV} {vs : List Value} (h : F2 (PV.D β) l vs) : F2 (EV.D β ρ) (l.map fun p => EV.one p.sv) vs := by
  induction h with
  | nil => exact .nil
  | cons h _ ih => exact .cons (pv_sv1 _ _ h) ih

/-- What an evaluation stands on. -/
structure Cx (E : Env) (ρ : Val) (fs : List (IE × Int)) : Prop where
  one : ∀ i, (ρ.x i).oneCell' = true
  len : ∀ i e, E.olen i = some e → ∃ a m c, ρ.x i = .slice a m c ∧ (m : Int) = e.den ρ
  facts : factsOK ρ fs

theorem opStep_ok {fs : List (IE × Int)} {asm : List (BE × Bool)} (hC : Cx E ρ fs) (hasm : asmOK ρ asm) (hG : GlobOK E B w) (hS : SH β ρ B H w) (hT : EvOK β ρ T f) (_hf : ∀ g, f (.func g) = .func (.func g) #[] #[]) (o : Oper) :
    OpOK E ρ B β H n w f o (opStep E fs asm T H n o) := by
  have hpure : (∀ cs b, o.op ≠ .select cs b) → OpOK E ρ B β H n w f o (pureOp E T H n o) := fun h => pureOp_ok hT hS h
  obtain ⟨dst, op, ty, pos, after, guard⟩ := o
  unfold opStep
  cases op with (simp only [opK])
  | move x => exact ev1_ok hT fun t ht _ => ⟨_, w, β, .inl rfl, ht, Post.refl hS⟩
  | assign x => exact ev1_ok hT fun t ht _ => ⟨_, w, β, .inl rfl, ht, Post.refl hS⟩
  | pick c a b =>
    refine ev1_ok hT fun t ht => ?_
    split
    · refine ev1_ok hT fun v hv _ => ⟨_, w, β, .inl ?_, hv, Post.refl hS⟩
      simp only [TV.D, EV.D, SV.D] at ht
      simp [execOp, ht, asBool]
    · refine ev1_ok hT fun v hv _ => ⟨_, w, β, .inl ?_, hv, Post.refl hS⟩
      simp only [TV.D, EV.D, SV.D] at ht
      simp [execOp, ht, asBool]
    · trivial
  | alloc t => exact .of_val rfl (alloc_ok hS)
  | box t x => exact ev1_ok hT fun a ha => .of_val rfl (box_ok hC.one hS ha)
  | build t parts => exact .of_val rfl (build_ok hC.one hT hS)
  | buildSlice t len parts => exact .of_val rfl (buildSlice_ok hC.one hT hS)
  | load t x => exact ev1_ok hT fun a ha => .of_val rfl (load_ok hS hG ha)
  | store t a x => exact ev1_ok hT fun a ha => ev1_ok hT fun x hx => .of_unit rfl (store_ok hC.one hS ha hx)
  | nilCheck x =>
    refine ev1_ok hT fun t ht => ?_
    split
    · obtain ⟨a, ha, hu⟩ := ht
      intro _
      exact ⟨_, w, β, .inl (by simp only [execOp, hu]; rfl), ⟨a, ha, rfl⟩, Post.refl hS⟩
    · obtain ⟨xs, ys, h1, h2, hu⟩ := ht
      intro _
      exact ⟨_, w, β, .inl (by simp only [execOp, hu]; rfl), ⟨xs, ys, h1, h2, rfl⟩, Post.refl hS⟩
    · exact hpure (by simp)
  | binOp op t x y yt =>
    simp only [binStep]
    split
    · rename_i r hr
      exact .of_val rfl (fastBin_ok hT hS hr)
    split
    · exact hpure (by simp)
    · split
      · rename_i a b ha hb
        have h1 := openBin_ok (E := E) (w := w) (B := B) (H := H) (n := n) hC.facts hS (op := op) (t := t) (x := x) (y := y) (hT _ _ ha) (hT _ _ hb)
        split
        · rename_i e H' n' W' heq
          rw [heq] at h1
          exact .of_val rfl (openCmp_ok hasm h1)
        · rename_i v H' n' W' hne heq
          rw [heq] at h1
          exact .of_val rfl h1
        · exact .of_val rfl (nil_ok hS (hT _ _ ha) (hT _ _ hb))
      · trivial
  | convert s d x => exact .or (hpure (by simp)) (ev1_ok hT fun a ha => .of_val rfl (convert_ok hS ha))
  | makeSlice t l c => exact ev1_ok hT fun l hl => ev1_ok hT fun c hc => .of_val rfl (makeSlice_ok hS hl hc)
  | slice t x lo hi mx => exact .or (ev1_ok hT fun a ha => .of_val rfl (slice_ok hT hS ha)) (hpure (by simp))
  | fieldAddr s x i =>
    split
    · exact hpure (by simp)
    · exact ev1_ok hT fun a ha => .of_val rfl (fieldAddr_ok hS ha)
  | field t x i => exact ev1_ok hT fun a ha => .or (.of_val rfl (field_ok hS ha)) (hpure (by simp))
  | indexAddr t x i =>
    split
    · exact hpure (by simp)
    · exact ev1_ok hT fun a ha => ev1_ok hT fun i hi => .of_val rfl (indexAddr_ok hS ha hi)
  | index t x i =>
    split
    · exact hpure (by simp)
    · exact ev1_ok hT fun a ha => ev1_ok hT fun i hi => .of_val rfl (index_ok hS ha hi)
  | makeFunc fn a b => exact .of_val rfl (makeFunc_ok hT hS)
  | extract t k => exact ev1_ok hT fun a ha => .of_val rfl (extract_ok hS ha)
  | lookup t x k c => exact ev1_ok hT fun x hx => ev1_ok hT fun k hk => .of_val rfl (lookup_ok hS hx hk)
  | makeMap t r => exact .of_val rfl (makeMap_ok hS)
  | unOp _ _ _ => exact hpure (by simp)
  | makeInterface _ _ => exact hpure (by simp)
  | typeAssert _ _ _ _ => exact hpure (by simp)
  | call c =>
    obtain ⟨callee, args, ats⟩ := c
    simp only [callStep]
    cases callee with
    | value g =>
      simp only
      split
      · rename_i k first captured hg
        split
        · rename_i es hes
          obtain ⟨xs, ys, h1, h2, hu⟩ := hT _ _ hg
          refine ⟨xs ++ args.toList.map f ++ ys, ((pv_sv h1).append (evsOf_ok hT _ _ hes)).append (pv_sv h2), ?_⟩
          simp only [execOp, resolve, hu, Deferred.ofValue, pure_bind, invoke]
          congr 1
          apply Array.ext'
          simp
        · trivial
      · trivial
    | builtin b =>
      simp only [builtinStep]
      have hres : execOp f { dst := dst, op := .call { callee := .builtin b, args := args, argTypes := ats }, type := ty, pos := pos, after := after, guard := guard } = builtin b ats ty (args.map fun | .const _ => true | _ => false) (args.map f) := rfl
      split
      · rename_i s x sT xT _ hargs hats
        have ha : args.map f = #[f s, f x] := by apply Array.ext'; rw [Array.toList_map, hargs]; rfl
        have h0 : ats[0]? = some sT := by rw [← Array.getElem?_toList, hats]; rfl
        have h1 : ats[1]? = some xT := by rw [← Array.getElem?_toList, hats]; rfl
        split
        · rename_i a b ha' hb'
          exact .of_val (by rw [hres, ha]; rfl) (append_ok hC.one hS h0 h1 (hT _ _ ha') (hT _ _ hb'))
        · trivial
      · rename_i d x dT _ hargs hats
        have ha : args.map f = #[f d, f x] := by apply Array.ext'; rw [Array.toList_map, hargs]; rfl
        have h0 : ats[0]? = some dT := by rw [← Array.getElem?_toList, hats]; rfl
        split
        · rename_i a b ha' hb'
          exact .of_val (by rw [hres, ha]; rfl) (copy_ok hC.one hS h0 (hT _ _ ha') (hT _ _ hb'))
        · trivial
      · rename_i x t _ hargs hats
        have ha : args.map f = #[f x] := by apply Array.ext'; rw [Array.toList_map, hargs]; rfl
        have h0 : ats[0]? = some t := by rw [← Array.getElem?_toList, hats]; rfl
        split
        · exact hpure (by simp)
        · split
          · rename_i a ha'
            exact .of_val (by rw [hres, ha]; rfl) (len_ok hC.len hS h0 (hT _ _ ha'))
          · trivial
      · rename_i x t _ hargs hats
        have ha : args.map f = #[f x] := by apply Array.ext'; rw [Array.toList_map, hargs]; rfl
        have h0 : ats[0]? = some t := by rw [← Array.getElem?_toList, hats]; rfl
        split
        · exact hpure (by simp)
        · split
          · rename_i a ha'
            exact .of_val (by rw [hres, ha]; rfl) (cap_ok hS h0 (hT _ _ ha'))
          · trivial
      · exact hpure (by simp)
    | invoke _ _ => trivial
  | _ => trivial
end Go.Sx
