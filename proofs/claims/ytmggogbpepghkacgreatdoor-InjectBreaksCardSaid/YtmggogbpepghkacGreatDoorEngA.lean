/- The symbolic evaluator's data: tries, symbolic values, what they mean in a world. No program in sight. -/
import Derived.WalkKit

namespace Go.Sx

/-! ### Tries -/
inductive Tr (α : Type) where
  | nil
  | node (v : Option α) (l r : Tr α)

namespace Tr
variable {α : Type}
/- Typed by the recursors themselves: so the kernel works them out fast. -/
noncomputable def get (t : Tr α) : Nat → Option α :=
  Tr.rec (motive := fun _ => Nat → Option α) (fun _ => none)
    (fun v _ _ ihl ihr i => Bool.rec (Bool.rec (ihr (i / 2 - 1)) (ihl (i / 2)) (Nat.beq (i % 2) 1)) v (Nat.beq i 0)) t

noncomputable def single (x : Option α) (f : Nat) : Nat → Tr α :=
  Nat.rec (motive := fun _ => Nat → Tr α) (fun _ => .nil)
    (fun _ ih i => Bool.rec (Bool.rec (.node none .nil (ih (i / 2 - 1))) (.node none (ih (i / 2)) .nil) (Nat.beq (i % 2) 1)) (.node x .nil .nil) (Nat.beq i 0)) f

noncomputable def set (x : Option α) (t : Tr α) : Nat → Tr α :=
  Tr.rec (motive := fun _ => Nat → Tr α) (fun i => single x (i + 1) i)
    (fun v l r ihl ihr i => Bool.rec (Bool.rec (.node v l (ihr (i / 2 - 1))) (.node v (ihl (i / 2)) r) (Nat.beq (i % 2) 1)) (.node x l r) (Nat.beq i 0)) t

theorem beq_false {a b : Nat} (h : a ≠ b) : Nat.beq a b = false := by
  cases h' : Nat.beq a b
  · rfl
  · exact absurd (Nat.eq_of_beq_eq_true h') h
theorem beq_true {a b : Nat} (h : a = b) : Nat.beq a b = true := by subst h; exact Nat.beq_refl a
theorem ite3 {γ : Type} (i : Nat) (a b c : γ) : (Bool.rec (Bool.rec c b (Nat.beq (i % 2) 1)) a (Nat.beq i 0) : γ) = if i = 0 then a else if i % 2 = 1 then b else c := by
  by_cases h0 : i = 0
  · subst h0; rfl
  · by_cases h1 : i % 2 = 1
    · rw [if_neg h0, if_pos h1, beq_false h0, beq_true h1]
    · rw [if_neg h0, if_neg h1, beq_false h0, beq_false h1]

theorem get_node (v : Option α) (l r : Tr α) (i : Nat) : (node v l r).get i = if i = 0 then v else if i % 2 = 1 then l.get (i / 2) else r.get (i / 2 - 1) := ite3 i _ _ _

theorem single_succ (x : Option α) (f i : Nat) : single x (f + 1) i = if i = 0 then .node x .nil .nil else if i % 2 = 1 then .node none (single x f (i / 2)) .nil else .node none .nil (single x f (i / 2 - 1)) := ite3 i _ _ _

theorem set_node (x v : Option α) (l r : Tr α) (i : Nat) : set x (node v l r) i = if i = 0 then .node x l r else if i % 2 = 1 then .node v (set x l (i / 2)) r else .node v l (set x r (i / 2 - 1)) := ite3 i _ _ _

theorem set_nil (x : Option α) (i : Nat) : set x nil i = single x (i + 1) i := rfl

theorem get_nil (i : Nat) : (nil : Tr α).get i = none := rfl

theorem get_single (x : Option α) : ∀ (f i j : Nat), i < f → (single x f i).get j = if j = i then x else none := by
  intro f
  induction f with
  | zero => intro i j h; omega
  | succ f ih =>
    intro i j h
    rw [single_succ]
    by_cases h0 : i = 0
    · subst h0
      rw [if_pos rfl, get_node]
      by_cases hj : j = 0
      · simp [hj]
      · simp [hj, get_nil]
    · rw [if_neg h0]
      by_cases h1 : i % 2 = 1
      · rw [if_pos h1, get_node]
        by_cases hj : j = 0
        · rw [if_pos hj, if_neg (by omega)]
        · rw [if_neg hj]
          by_cases hj1 : j % 2 = 1
          · rw [if_pos hj1, ih _ _ (by omega)]
            by_cases e : j = i
            · rw [if_pos e, if_pos (by omega)]
            · rw [if_neg e, if_neg (by omega)]
          · rw [if_neg hj1, get_nil, if_neg (by omega)]
      · rw [if_neg h1, get_node]
        by_cases hj : j = 0
        · rw [if_pos hj, if_neg (by omega)]
        · rw [if_neg hj]
          by_cases hj1 : j % 2 = 1
          · rw [if_pos hj1, get_nil, if_neg (by omega)]
          · rw [if_neg hj1, ih _ _ (by omega)]
            by_cases e : j = i
            · rw [if_pos e, if_pos (by omega)]
            · rw [if_neg e, if_neg (by omega)]

theorem get_set (x : Option α) : ∀ (t : Tr α) (i j : Nat), (set x t i).get j = if j = i then x else t.get j := by
  intro t
  induction t with
  | nil => intro i j; rw [set_nil, get_single _ _ _ _ (Nat.lt_succ_self i), get_nil]
  | node v l r ihl ihr =>
    intro i j
    rw [set_node]
    by_cases h0 : i = 0
    · subst h0
      rw [if_pos rfl, get_node, get_node]
      by_cases hj : j = 0
      · simp [hj]
      · simp [hj]
    · rw [if_neg h0]
      by_cases h1 : i % 2 = 1
      · rw [if_pos h1, get_node, get_node]
        by_cases hj : j = 0
        · rw [if_pos hj, if_pos hj, if_neg (by omega)]
        · rw [if_neg hj, if_neg hj]
          by_cases hj1 : j % 2 = 1
          · rw [if_pos hj1, if_pos hj1, ihl]
            by_cases e : j = i
            · rw [if_pos e, if_pos (by omega)]
            · rw [if_neg e, if_neg (by omega)]
          · rw [if_neg hj1, if_neg hj1, if_neg (by omega)]
      · rw [if_neg h1, get_node, get_node]
        by_cases hj : j = 0
        · rw [if_pos hj, if_pos hj, if_neg (by omega)]
        · rw [if_neg hj, if_neg hj]
          by_cases hj1 : j % 2 = 1
          · rw [if_pos hj1, if_pos hj1, if_neg (by omega)]
          · rw [if_neg hj1, if_neg hj1, ihr]
            by_cases e : j = i
            · rw [if_pos e, if_pos (by omega)]
            · rw [if_neg e, if_neg (by omega)]
end Tr

/-! ### Symbolic values -/
/-- Whole numbers that are not known. -/
inductive IE where
  | v (i : Nat)
  | k (n : Int)
  | bin (o : BinOp) (kd : IntKind) (a b : IE)
  deriving DecidableEq, Repr
/-- Tests that are not known. -/
inductive BE where
  | v (i : Nat)
  | cmp (o : BinOp) (a b : IE)
  deriving DecidableEq, Repr

/-- What the variables are. -/
structure Val where
  i : Nat → Int
  b : Nat → Bool
  x : Nat → Value

def arith (o : BinOp) (kd : IntKind) (a b : Int) : Int :=
  match o with
  | .add => kd.wrap (a + b)
  | .sub => kd.wrap (a - b)
  | .mul => kd.wrap (a * b)
  | .quo => kd.wrap (a.tdiv b)
  | .rem => a.tmod b
  | _ => 0
def IE.den (ρ : Val) : IE → Int
  | .v i => ρ.i i
  | .k n => n
  | .bin o kd a b => arith o kd (a.den ρ) (b.den ρ)
def compare (o : BinOp) (a b : Int) : Bool :=
  match o with
  | .eql => a == b
  | .neq => a != b
  | .lss => a < b
  | .leq => a ≤ b
  | .gtr => a > b
  | .geq => a ≥ b
  | _ => false
def BE.den (ρ : Val) : BE → Bool
  | .v i => ρ.b i
  | .cmp o a b => compare o (a.den ρ) (b.den ρ)

/-- What a closure has caught. -/
inductive PV where
  | cst (v : Value)
  | ptr (l off : Nat)
/-- A symbolic value of one cell. -/
inductive SV where
  /-- known -/
  | cst (v : Value)
  | num (k : IntKind) (e : IE)
  | tst (e : BE)
  /-- not known, and never looked into -/
  | opq (i : Nat)
  /-- a pointer into a logical block -/
  | ptr (l off : Nat)
  /-- a slice of a logical block, from a cell on; esz: an element's cells; cap: none: all that the block's room has -/
  | slc (l off esz len : Nat) (cap : Option Nat)
  /-- what is left of a slice from its known end on: no element; o0: where the slice began, o1: where it ends -/
  | tl (l o0 o1 esz : Nat)
  | mp (l : Nat)
  | fnv (fn : Fn) (first captured : List PV)
/-- A symbolic value: one cell, or a struct's or an array's cells. -/
inductive EV where
  | one (s : SV)
  | agg (cs : List SV)
inductive TV where
  | ev (e : EV)
  | tup (es : List EV)

/-- A logical block. -/
inductive Blk where
  | row (ty : TypeId) (cells : List SV)
  | map (es : List (Value × SV × Nat)) (clock : Nat)
  | iter (s : ByteArray) (pos : Nat)

/-- Where a logical block lies: the block, the first cell, how many cells of room. -/
structure Loc where
  blk : Nat
  off : Nat
  cap : Nat
abbrev Bind := Nat → Option Loc

/-! ### What they mean -/
inductive F2 {α β : Type} (R : α → β → Prop) : List α → List β → Prop where
  | nil : F2 R [] []
  | cons {a b l m} : R a b → F2 R l m → F2 R (a :: l) (b :: m)
namespace F2
variable {α β : Type} {R S : α → β → Prop} {l l' : List α} {m m' : List β}
theorem length (h : F2 R l m) : l.length = m.length := by induction h with | nil => rfl | cons _ _ ih => simp [ih]
theorem mono (hs : ∀ a b, R a b → S a b) (h : F2 R l m) : F2 S l m := by induction h with | nil => exact .nil | cons h _ ih => exact .cons (hs _ _ h) ih
theorem get (h : F2 R l m) : ∀ (i : Nat) a, l[i]? = some a → ∃ b, m[i]? = some b ∧ R a b := by
  induction h with
  | nil => intro i a h; simp at h
  | cons hab _ ih =>
    intro i a h
    cases i with
    | zero => simp at h; subst h; exact ⟨_, by simp, hab⟩
    | succ i => simpa using ih i a (by simpa using h)
theorem append (h : F2 R l m) (h' : F2 R l' m') : F2 R (l ++ l') (m ++ m') := by induction h with | nil => exact h' | cons h _ ih => exact .cons h ih
theorem take (h : F2 R l m) : ∀ n, F2 R (l.take n) (m.take n) := by
  induction h with
  | nil => intro n; simp; exact .nil
  | cons h _ ih => intro n; cases n with | zero => simp; exact .nil | succ n => simp; exact .cons h (ih n)
theorem drop (h : F2 R l m) : ∀ n, F2 R (l.drop n) (m.drop n) := by
  induction h with
  | nil => intro n; simp; exact .nil
  | cons h t ih => intro n; cases n with | zero => simp; exact .cons h t | succ n => simp; exact ih n
theorem of_get (hl : l.length = m.length) (h : ∀ (i : Nat) a b, l[i]? = some a → m[i]? = some b → R a b) : F2 R l m := by
  induction l generalizing m with
  | nil => cases m with | nil => exact .nil | cons _ _ => simp at hl
  | cons a l ih => cases m with
    | nil => simp at hl
    | cons b m => exact .cons (h 0 a b (by simp) (by simp)) (ih (by simpa using hl) (fun i a b h1 h2 => h (i + 1) a b (by simpa using h1) (by simpa using h2)))
theorem map_left {γ : Type} {f : γ → α} {k : List γ} (h : F2 (fun c b => R (f c) b) k m) : F2 R (k.map f) m := by induction h with | nil => exact .nil | cons h _ ih => exact .cons h ih
theorem same (f : β → α) (hf : ∀ b, R (f b) b) : ∀ m : List β, F2 R (m.map f) m
  | [] => .nil
  | b :: m => .cons (hf b) (same f hf m)
end F2

variable (β : Bind) (ρ : Val)
def PV.D : PV → Value → Prop
  | .cst v, u => u = v
  | .ptr l off, u => ∃ a, β l = some a ∧ u = .pointer (some ⟨a.blk, a.off + off, none⟩)
def SV.D : SV → Value → Prop
  | .cst v, u => u = v
  | .num k e, u => u = .int k (e.den ρ)
  | .tst e, u => u = .bool (e.den ρ)
  | .opq n, u => u = ρ.x n
  | .ptr l off, u => ∃ a, β l = some a ∧ u = .pointer (some ⟨a.blk, a.off + off, none⟩)
  | .slc l off esz len cap, u => ∃ a, β l = some a ∧ u = .slice (some ⟨a.blk, a.off + off, none⟩) len (cap.getD ((a.cap - off) / esz))
  | .tl l o0 o1 esz, u => ∃ a, β l = some a ∧ u = .slice (some ⟨a.blk, a.off + (if (a.cap - o0) / esz = (o1 - o0) / esz then o0 else o1), none⟩) 0 ((a.cap - o1) / esz)
  | .mp l, u => ∃ a, β l = some a ∧ u = .map (some a.blk)
  | .fnv fn first captured, u => ∃ xs ys, F2 (PV.D β) first xs ∧ F2 (PV.D β) captured ys ∧ u = .func fn xs.toArray ys.toArray
def EV.D : EV → Value → Prop
  | .one s, u => s.D β ρ u
  | .agg cs, u => ∃ vs, F2 (SV.D β ρ) cs vs ∧ u = .agg vs.toArray
def TV.D : TV → Value → Prop
  | .ev e, u => e.D β ρ u
  | .tup es, u => ∃ vs, F2 (EV.D β ρ) es vs ∧ u = .tuple vs.toArray

/-- More is bound. -/
def Bind.le (β β' : Bind) : Prop := ∀ l a, β l = some a → β' l = some a
theorem Bind.le_refl (β : Bind) : β.le β := fun _ _ h => h
theorem Bind.le_trans {β γ δ : Bind} (h : β.le γ) (k : γ.le δ) : β.le δ := fun l a e => k l a (h l a e)
variable {β ρ} {γ : Bind}
theorem PV.D_mono (hl : β.le γ) : ∀ (s : PV) (u : Value), s.D β u → s.D γ u
  | .cst _, _, h => h
  | .ptr _ _, _, ⟨a, h, e⟩ => ⟨a, hl _ _ h, e⟩
theorem SV.D_mono (hl : β.le γ) : ∀ (s : SV) (u : Value), s.D β ρ u → s.D γ ρ u
  | .cst _, _, h | .num _ _, _, h | .tst _, _, h | .opq _, _, h => h
  | .ptr _ _, _, ⟨a, h, e⟩ | .slc _ _ _ _ _, _, ⟨a, h, e⟩ | .tl _ _ _ _, _, ⟨a, h, e⟩ | .mp _, _, ⟨a, h, e⟩ => ⟨a, hl _ _ h, e⟩
  | .fnv _ _ _, _, ⟨xs, ys, h1, h2, e⟩ => ⟨xs, ys, h1.mono (PV.D_mono hl), h2.mono (PV.D_mono hl), e⟩
theorem EV.D_mono (hl : β.le γ) : ∀ (s : EV) (u : Value), s.D β ρ u → s.D γ ρ u
  | .one s, u, h => SV.D_mono hl s u h
  | .agg _, _, ⟨vs, h, e⟩ => ⟨vs, h.mono (SV.D_mono hl), e⟩
theorem TV.D_mono (hl : β.le γ) : ∀ (s : TV) (u : Value), s.D β ρ u → s.D γ ρ u
  | .ev s, u, h => EV.D_mono hl s u h
  | .tup _, _, ⟨vs, h, e⟩ => ⟨vs, h.mono (EV.D_mono hl), e⟩

/-- What a block holds of a world. -/
def Blk.H (β : Bind) (ρ : Val) (w : World) (a : Loc) : Blk → Prop
  | .row ty cells => ∃ arr lo hi, w.heap[a.blk]? = some (.cells arr ty (lo, hi)) ∧ a.off + a.cap ≤ arr.size ∧ cells.length ≤ a.cap ∧ (hi = 0 ∨ a.off + a.cap ≤ lo) ∧
      ∃ vs, F2 (SV.D β ρ) cells vs ∧ (arr.toList.drop a.off).take cells.length = vs
  | .map es clock => ∃ xs : List MapEntry, w.heap[a.blk]? = some (.map xs.toArray clock) ∧ F2 (fun (e : Value × SV × Nat) (x : MapEntry) => x.key = e.1 ∧ e.2.1.D β ρ x.val ∧ x.born = e.2.2) es xs
  | .iter s pos => w.heap[a.blk]? = some (.stringIter s pos)

/-- What a heap holds of a world; all of it lies from block B on. -/
structure SHf (β : Bind) (ρ : Val) (B : Nat) (h : Nat → Option Blk) (w : World) : Prop where
  at_ : ∀ l b, h l = some b → ∃ a, β l = some a ∧ b.H β ρ w a
  apart : ∀ l m b c a d, h l = some b → h m = some c → β l = some a → β m = some d → a.blk = d.blk → l = m
  base : ∀ l b a, h l = some b → β l = some a → B ≤ a.blk
  size : B ≤ w.heap.size
abbrev SH (β : Bind) (ρ : Val) (B : Nat) (H : Tr Blk) (w : World) : Prop := SHf β ρ B H.get w

theorem Blk.H_mono (hl : β.le γ) {w : World} {a : Loc} : ∀ {b : Blk}, b.H β ρ w a → b.H γ ρ w a
  | .row _ _, ⟨arr, lo, hi, h1, h2, h3, h4, vs, h5, h6⟩ => ⟨arr, lo, hi, h1, h2, h3, h4, vs, h5.mono (SV.D_mono hl), h6⟩
  | .map _ _, ⟨xs, h1, h2⟩ => ⟨xs, h1, h2.mono fun _ _ h => ⟨h.1, SV.D_mono hl _ _ h.2.1, h.2.2⟩⟩
  | .iter _ _, h => h
theorem Blk.H_block {w w' : World} {a : Loc} (h : w'.heap[a.blk]? = w.heap[a.blk]?) : ∀ {b : Blk}, b.H β ρ w a → b.H β ρ w' a
  | .row _ _, ⟨arr, lo, hi, h1, rest⟩ => ⟨arr, lo, hi, h.trans h1, rest⟩
  | .map _ _, ⟨xs, h1, rest⟩ => ⟨xs, h.trans h1, rest⟩
  | .iter _ _, h1 => h.trans h1
theorem Blk.H_lt {w : World} {a : Loc} {b : Blk} (h : b.H β ρ w a) : a.blk < w.heap.size := by
  have key : ∀ {o}, w.heap[a.blk]? = some o → a.blk < w.heap.size := fun h => (Array.getElem?_eq_some_iff.1 h).1
  cases b with
  | row _ _ => obtain ⟨_, _, _, h, _⟩ := h; exact key h
  | map _ _ => obtain ⟨_, h, _⟩ := h; exact key h
  | iter _ _ => exact key h

/-- From a state to a later one: numbers from n to n' are new; W: what was written. -/
structure Post (ρ : Val) (B : Nat) (β : Bind) (H : Tr Blk) (n : Nat) (w : World) (β' : Bind) (H' : Tr Blk) (n' : Nat) (W : List Nat) (w' : World) : Prop where
  le : n ≤ n'
  ext : ∀ l, ¬ (n ≤ l ∧ l < n') → β' l = β l
  mono : β.le β'
  sh : SH β' ρ B H' w'
  same : ∀ l, l ∉ W → H'.get l = H.get l
  size : w.heap.size ≤ w'.heap.size
  frame : ∀ k, k < w.heap.size → (∀ l b a, H.get l = some b → β l = some a → a.blk ≠ k) → w'.heap[k]? = w.heap[k]?
  live : ∀ l b a, H'.get l = some b → β' l = some a → (∃ m c d, H.get m = some c ∧ β m = some d ∧ d.blk = a.blk) ∨ w.heap.size ≤ a.blk
  os : w'.os = w.os
  tape : w'.tape = w.tape
  output : w'.output = w.output

variable {B : Nat} {H : Tr Blk} {n : Nat} {w w' : World}
theorem Post.refl (h : SH β ρ B H w) : Post ρ B β H n w β H n [] w :=
  ⟨Nat.le_refl _, fun _ _ => rfl, Bind.le_refl β, h, fun _ _ => rfl, Nat.le_refl _, fun _ _ _ => rfl, fun l b a h1 h2 => .inl ⟨l, b, a, h1, h2, rfl⟩, rfl, rfl, rfl⟩

/-- The same heap in a world whose blocks are the same up to new ones. -/
theorem SHf.later {g : Nat → Option Blk} (h : SHf β ρ B g w) (hs : w.heap.size ≤ w'.heap.size) (hb : ∀ k, k < w.heap.size → w'.heap[k]? = w.heap[k]?) : SHf β ρ B g w' where
  at_ l b hl := by
    obtain ⟨a, h1, h2⟩ := h.at_ l b hl
    exact ⟨a, h1, Blk.H_block (hb _ (Blk.H_lt h2)) h2⟩
  apart := h.apart
  base := h.base
  size := Nat.le_trans h.size hs
theorem Post.later (h : SH β ρ B H w) (hs : w.heap.size ≤ w'.heap.size) (hb : ∀ k, k < w.heap.size → w'.heap[k]? = w.heap[k]?) (h1 : w'.os = w.os) (h2 : w'.tape = w.tape) (h3 : w'.output = w.output) : Post ρ B β H n w β H n [] w' :=
  ⟨Nat.le_refl _, fun _ _ => rfl, Bind.le_refl β, h.later hs hb, fun _ _ => rfl, hs, fun k hk _ => hb k hk, fun l b a h1 h2 => .inl ⟨l, b, a, h1, h2, rfl⟩, h1, h2, h3⟩

theorem Post.trans {β1 β2 : Bind} {H1 H2 : Tr Blk} {n1 n2 : Nat} {w1 w2 : World} {W W' : List Nat}
    (h : Post ρ B β H n w β1 H1 n1 W w1) (k : Post ρ B β1 H1 n1 w1 β2 H2 n2 W' w2) : Post ρ B β H n w β2 H2 n2 (W' ++ W) w2 := by
  refine ⟨Nat.le_trans h.le k.le, fun l hl => ?_, Bind.le_trans h.mono k.mono, k.sh, fun l hl => ?_, Nat.le_trans h.size k.size, fun b hb hn => ?_, fun l b a h1 h2 => ?_, k.os.trans h.os, k.tape.trans h.tape, k.output.trans h.output⟩
  · have h1 := h.le; have h2 := k.le
    rw [k.ext l (by omega), h.ext l (by omega)]
  · rw [k.same l (fun hm => hl (List.mem_append.2 (.inl hm))), h.same l (fun hm => hl (List.mem_append.2 (.inr hm)))]
  · rw [k.frame b (Nat.lt_of_lt_of_le hb h.size) (fun l c a h1 h2 e => ?_), h.frame b hb hn]
    rcases h.live l c a h1 h2 with ⟨m, c', d, h3, h4, h5⟩ | h3
    · exact hn m c' d h3 h4 (h5.trans e)
    · omega
  · rcases k.live l b a h1 h2 with ⟨m, c, d, h3, h4, h5⟩ | h3
    · rcases h.live m c d h3 h4 with ⟨m', c', d', h6, h7, h8⟩ | h6
      · exact .inl ⟨m', c', d', h6, h7, h8.trans h5⟩
      · exact .inr (by omega)
    · exact .inr (Nat.le_trans h.size h3)

/-- One number more is bound. -/
def Bind.put (β : Bind) (n : Nat) (a : Loc) : Bind := fun l => if l = n then some a else β l
theorem Bind.put_same (β : Bind) (n : Nat) (a : Loc) : β.put n a n = some a := by simp [Bind.put]
theorem Bind.put_other {β : Bind} {n l : Nat} {a : Loc} (h : l ≠ n) : β.put n a l = β l := by simp [Bind.put, h]
theorem Bind.le_put {β : Bind} {n : Nat} {a : Loc} (h : β n = none) : β.le (β.put n a) := fun l b hl => by
  by_cases e : l = n
  · subst e; rw [h] at hl; cases hl
  · rw [Bind.put_other e]; exact hl

/-- A new block. -/
theorem post_new (h : SH β ρ B H w) (hn : β n = none) (o : Obj) (b : Blk) (cap : Nat) (hh : w'.heap = w.heap.push o) (h1 : w'.os = w.os) (h2 : w'.tape = w.tape) (h3 : w'.output = w.output)
    (hb : b.H (β.put n ⟨w.heap.size, 0, cap⟩) ρ w' ⟨w.heap.size, 0, cap⟩) : Post ρ B β H n w (β.put n ⟨w.heap.size, 0, cap⟩) (H.set (some b) n) (n + 1) [n] w' := by
  have hs : w'.heap.size = w.heap.size + 1 := by rw [hh]; simp
  have hold : ∀ k, k < w.heap.size → w'.heap[k]? = w.heap[k]? := fun k hk => by rw [hh, Array.getElem?_push, if_neg (by omega)]
  have hg : ∀ l, (H.set (some b) n).get l = if l = n then some b else H.get l := fun l => Tr.get_set _ _ _ _
  have hlive : ∀ {l c a}, H.get l = some c → β l = some a → a.blk < w.heap.size := fun hl ha => by
    obtain ⟨a', e1, e2⟩ := h.at_ _ _ hl
    rw [ha] at e1; cases e1; exact Blk.H_lt e2
  refine ⟨Nat.le_succ n, fun l hl => Bind.put_other (by omega), Bind.le_put hn, ⟨fun l c hl => ?_, fun l m c d a e hl hm ha he heq => ?_, fun l c a hl ha => ?_, by have := h.size; omega⟩, fun l hl => ?_, by omega, fun k hk _ => hold k hk, fun l c a hl ha => ?_, h1, h2, h3⟩
  · rw [hg] at hl
    by_cases e : l = n
    · subst e; rw [if_pos rfl] at hl; cases hl
      exact ⟨_, Bind.put_same _ _ _, hb⟩
    · rw [if_neg e] at hl
      obtain ⟨a, e1, e2⟩ := h.at_ l c hl
      exact ⟨a, (Bind.put_other e).trans e1, Blk.H_mono (Bind.le_put hn) (Blk.H_block (hold _ (Blk.H_lt e2)) e2)⟩
  · rw [hg] at hl hm
    by_cases el : l = n
    · by_cases em : m = n
      · rw [el, em]
      · rw [if_neg em] at hm
        rw [Bind.put_other em] at he
        have := hlive hm he
        subst el; rw [Bind.put_same] at ha; cases ha
        simp only at heq; omega
    · rw [if_neg el] at hl
      rw [Bind.put_other el] at ha
      by_cases em : m = n
      · have := hlive hl ha
        subst em; rw [Bind.put_same] at he; cases he
        simp only at heq; omega
      · rw [if_neg em] at hm
        rw [Bind.put_other em] at he
        exact h.apart l m c d a e hl hm ha he heq
  · rw [hg] at hl
    by_cases el : l = n
    · subst el; rw [Bind.put_same] at ha; cases ha; exact h.size
    · rw [if_neg el] at hl; rw [Bind.put_other el] at ha; exact h.base l c a hl ha
  · rw [hg, if_neg (by simpa using hl)]
  · rw [hg] at hl
    by_cases el : l = n
    · subst el; rw [Bind.put_same] at ha; cases ha; exact .inr (Nat.le_refl _)
    · rw [if_neg el] at hl; rw [Bind.put_other el] at ha; exact .inl ⟨l, c, a, hl, ha, rfl⟩

/-- A block that is written. -/
theorem post_upd (h : SH β ρ B H w) {l : Nat} {b b' : Blk} {a : Loc} (hl : H.get l = some b) (ha : β l = some a) (hs : w'.heap.size = w.heap.size) (ho : ∀ k, k ≠ a.blk → w'.heap[k]? = w.heap[k]?)
    (h1 : w'.os = w.os) (h2 : w'.tape = w.tape) (h3 : w'.output = w.output) (hb : b'.H β ρ w' a) : Post ρ B β H n w β (H.set (some b') l) n [l] w' := by
  have hg : ∀ m, (H.set (some b') l).get m = if m = l then some b' else H.get m := fun m => Tr.get_set _ _ _ _
  have hgs : ∀ {m c}, (H.set (some b') l).get m = some c → ∃ c', H.get m = some c' := fun {m c} hm => by
    rw [hg] at hm
    by_cases e : m = l
    · subst e; exact ⟨b, hl⟩
    · rw [if_neg e] at hm; exact ⟨c, hm⟩
  refine ⟨Nat.le_refl n, fun _ _ => rfl, Bind.le_refl β, ⟨fun m c hm => ?_, fun m k c d x y hm hk hx hy heq => ?_, fun m c x hm hx => ?_, by rw [hs]; exact h.size⟩, fun m hm => ?_, by omega, fun k hk hn => ho k (fun e => hn l b a hl ha e.symm), fun m c x hm hx => ?_, h1, h2, h3⟩
  · by_cases e : m = l
    · subst e; rw [hg, if_pos rfl] at hm; cases hm; exact ⟨a, ha, hb⟩
    · rw [hg, if_neg e] at hm
      obtain ⟨x, e1, e2⟩ := h.at_ m c hm
      exact ⟨x, e1, Blk.H_block (ho _ (fun e' => e (h.apart m l c b x a hm hl e1 ha e'))) e2⟩
  · obtain ⟨c', hc⟩ := hgs hm
    obtain ⟨d', hd⟩ := hgs hk
    exact h.apart m k c' d' x y hc hd hx hy heq
  · obtain ⟨c', hc⟩ := hgs hm
    exact h.base m c' x hc hx
  · rw [hg, if_neg (by simpa using hm)]
  · obtain ⟨c', hc⟩ := hgs hm
    exact .inl ⟨m, c', x, hc, hx, rfl⟩

/-- A block that is no more. -/
theorem post_kill (h : SH β ρ B H w) (l : Nat) : Post ρ B β H n w β (H.set none l) n [l] w := by
  have hg : ∀ m, (H.set none l).get m = if m = l then none else H.get m := fun m => Tr.get_set _ _ _ _
  have hgs : ∀ {m c}, (H.set none l).get m = some c → H.get m = some c := fun {m c} hm => by
    rw [hg] at hm
    by_cases e : m = l
    · rw [if_pos e] at hm; cases hm
    · rwa [if_neg e] at hm
  exact ⟨Nat.le_refl n, fun _ _ => rfl, Bind.le_refl β, ⟨fun m c hm => h.at_ m c (hgs hm), fun m k c d x y hm hk => h.apart m k c d x y (hgs hm) (hgs hk), fun m c x hm => h.base m c x (hgs hm), h.size⟩,
    fun m hm => by rw [hg, if_neg (by simpa using hm)], Nat.le_refl _, fun _ _ _ => rfl, fun m c x hm hx => .inl ⟨m, c, x, hgs hm, hx, rfl⟩, rfl, rfl, rfl⟩

theorem Post.W_mono {β' : Bind} {H' : Tr Blk} {n' : Nat} {W W' : List Nat} (h : Post ρ B β H n w β' H' n' W w') (hW : ∀ x, x ∈ W → x ∈ W') : Post ρ B β H n w β' H' n' W' w' :=
  { h with same := fun l hl => h.same l fun hm => hl (hW l hm) }

/-- A new block in the place of one that is no more. -/
theorem post_moved (h : SH β ρ B H w) (hn : β n = none) (l : Nat) (o : Obj) (b : Blk) (cap : Nat) (hh : w'.heap = w.heap.push o) (h1 : w'.os = w.os) (h2 : w'.tape = w.tape) (h3 : w'.output = w.output)
    (hb : b.H (β.put n ⟨w.heap.size, 0, cap⟩) ρ w' ⟨w.heap.size, 0, cap⟩) : Post ρ B β H n w (β.put n ⟨w.heap.size, 0, cap⟩) ((H.set none l).set (some b) n) (n + 1) [l, n] w' := by
  have hk := post_kill (n := n) h l
  refine (hk.trans (post_new hk.sh hn o b cap hh h1 h2 h3 hb)).W_mono fun x hx => ?_
  simp only [List.mem_append, List.mem_cons, List.mem_nil_iff, or_false] at hx ⊢
  exact hx.symm

/-- A block's room, under a new number, written. -/
theorem post_take (h : SH β ρ B H w) (hn : β n = none) {l : Nat} {b b' : Blk} {a a' : Loc} (hl : H.get l = some b) (ha : β l = some a) (hab : a'.blk = a.blk) (hs : w'.heap.size = w.heap.size) (ho : ∀ k, k ≠ a.blk → w'.heap[k]? = w.heap[k]?)
    (h1 : w'.os = w.os) (h2 : w'.tape = w.tape) (h3 : w'.output = w.output) (hb : b'.H (β.put n a') ρ w' a') : Post ρ B β H n w (β.put n a') ((H.set none l).set (some b') n) (n + 1) [l, n] w' := by
  have hln : l ≠ n := fun e => by subst e; rw [ha] at hn; cases hn
  have hg : ∀ m, ((H.set none l).set (some b') n).get m = if m = n then some b' else if m = l then none else H.get m := fun m => by rw [Tr.get_set, Tr.get_set]
  have hgs : ∀ {m c}, ((H.set none l).set (some b') n).get m = some c → m ≠ n → m ≠ l ∧ H.get m = some c := fun {m c} hm e => by
    rw [hg, if_neg e] at hm
    by_cases e' : m = l
    · rw [if_pos e'] at hm; cases hm
    · rw [if_neg e'] at hm; exact ⟨e', hm⟩
  refine ⟨Nat.le_succ n, fun m hm => Bind.put_other (by omega), Bind.le_put hn, ⟨fun m c hm => ?_, fun m k c d x y hm hk hx hy heq => ?_, fun m c x hm hx => ?_, by rw [hs]; exact h.size⟩, fun m hm => ?_, by omega, fun k hk hne => ho k (fun e => hne l b a hl ha e.symm), fun m c x hm hx => ?_, h1, h2, h3⟩
  · by_cases e : m = n
    · subst e; rw [hg, if_pos rfl] at hm; cases hm; exact ⟨a', Bind.put_same _ _ _, hb⟩
    · obtain ⟨e', hm'⟩ := hgs hm e
      obtain ⟨x, e1, e2⟩ := h.at_ m c hm'
      exact ⟨x, (Bind.put_other e).trans e1, Blk.H_mono (Bind.le_put hn) (Blk.H_block (ho _ (fun e'' => e' (h.apart m l c b x a hm' hl e1 ha e''))) e2)⟩
  · by_cases em : m = n
    · by_cases ek : k = n
      · rw [em, ek]
      · obtain ⟨e', hk'⟩ := hgs hk ek
        rw [Bind.put_other ek] at hy
        subst em; rw [Bind.put_same] at hx; cases hx
        exact absurd (h.apart k l d b y a hk' hl hy ha (heq.symm.trans hab)) e'
    · obtain ⟨e', hm'⟩ := hgs hm em
      rw [Bind.put_other em] at hx
      by_cases ek : k = n
      · subst ek; rw [Bind.put_same] at hy; cases hy
        exact absurd (h.apart m l c b x a hm' hl hx ha (heq.trans hab)) e'
      · obtain ⟨_, hk'⟩ := hgs hk ek
        rw [Bind.put_other ek] at hy
        exact h.apart m k c d x y hm' hk' hx hy heq
  · by_cases em : m = n
    · subst em; rw [Bind.put_same] at hx; cases hx; rw [hab]; exact h.base l b a hl ha
    · obtain ⟨_, hm'⟩ := hgs hm em
      rw [Bind.put_other em] at hx
      exact h.base m c x hm' hx
  · rw [hg, if_neg (fun e => hm (by simp [e])), if_neg (fun e => hm (by simp [e]))]
  · by_cases em : m = n
    · subst em; rw [Bind.put_same] at hx; cases hx; exact .inl ⟨l, b, a, hl, ha, hab.symm⟩
    · obtain ⟨_, hm'⟩ := hgs hm em
      rw [Bind.put_other em] at hx
      exact .inl ⟨m, c, x, hm', hx, rfl⟩
end Go.Sx

/- The symbolic evaluator: what one operation does to a symbolic state; the run. Definitions alone. -/
noncomputable section
namespace Go.Sx

/-- What a run is over: the program; tables whose cells are known; functions without a body (or taken as a whole) on known values. -/
structure Env where
  P : Program
  glob : Nat → Option (List Value)
  ext : Nat → Option (List Value → Option Value)
  /-- how long a slice is that is not looked into -/
  olen : Nat → Option IE
  /-- calls that look at the heap, whose answer is known -/
  exth : Nat → Option (List EV → (Nat → Option Blk) → Option TV)

/-- A program of the model that looks at no memory. -/
def pureRun {α : Type} (P : Program) : Sem α → Option α
  | .pure a => some a
  | .program k => pureRun P (k P)
  | .mark _ k => pureRun P k
  | _ => none

def SV.val? : SV → Option Value
  | .cst v => some v
  | .fnv fn [] [] => some (.func fn #[] #[])
  | _ => none
def svals? : List SV → Option (List Value)
  | [] => some []
  | s :: r => match s.val? with
    | some v => match svals? r with
      | some l => some (v :: l)
      | none => none
    | none => none
def EV.val? : EV → Option Value
  | .one s => s.val?
  | .agg cs => match svals? cs with | some l => some (.agg l.toArray) | none => none
def evals? : List EV → Option (List Value)
  | [] => some []
  | s :: r => match s.val? with
    | some v => match evals? r with
      | some l => some (v :: l)
      | none => none
    | none => none
def TV.val? : TV → Option Value
  | .ev e => e.val?
  | .tup es => match evals? es with | some l => some (.tuple l.toArray) | none => none

def EV.ofV : Value → EV
  | .agg cs => .agg (cs.toList.map .cst)
  | v => .one (.cst v)
def TV.ofV : Value → TV
  | .tuple vs => .tup (vs.toList.map EV.ofV)
  | .func fn ⟨[]⟩ ⟨[]⟩ => .ev (.one (.fnv fn [] []))
  | v => .ev (EV.ofV v)

def EV.cells : EV → List SV
  | .one s => [s]
  | .agg cs => cs

/-- May it be stored in a cell? -/
def SV.okCell : SV → Bool
  | .cst v => v.oneCell'
  | _ => true

abbrev Tmps := Tr TV
def evalT (T : Tmps) : Operand → Option TV
  | .tmp t => T.get t
  | .const v => some (TV.ofV v)
  | .global g => some (.ev (.one (.cst (.pointer (some ⟨g, 0, none⟩)))))
  | .func f => some (.ev (.one (.fnv (.func f) [] [])))

def closedAll (T : Tmps) : List Operand → Bool
  | [] => true
  | x :: r => match evalT T x with
    | some t => match t.val? with
      | some _ => closedAll T r
      | none => false
    | none => false
def closedVal (T : Tmps) (x : Operand) : Value :=
  match evalT T x with
  | some t => match t.val? with
    | some v => v
    | none => undef
  | none => undef

/-- What an operation comes to. -/
inductive OR where
  | val (v : TV) (H : Tr Blk) (n : Nat) (W : List Nat)
  | call (f : Nat) (args : List EV)
  | fork (b : BE)
  | fail

def pureOp (E : Env) (T : Tmps) (H : Tr Blk) (n : Nat) (o : Oper) : OR :=
  match closedAll T o.op.operands.toList with
  | true => match pureRun E.P (execOp (closedVal T) o) with
    | some (.value v) => .val (TV.ofV v) H n []
    | some .skip => .val (.tup []) H n []
    | _ => .fail
  | false => .fail

def isAggB (P : Program) (t : TypeId) : Option Bool :=
  match P.underlying t with
  | some (.struct _) => some true
  | some (.array _ _) => some true
  | some _ => some false
  | none => none
def sizeOfB (P : Program) (t : TypeId) : Option Nat := (P.info? t).map (·.size)

/-- A part of a row. -/
def takeAt (P : Program) (t : TypeId) (cells : List SV) (off : Nat) : Option EV :=
  match isAggB P t with
  | some true => match sizeOfB P t with
    | some k => let l := (cells.drop off).take k
      bif Nat.beq l.length k then some (.agg l) else none
    | none => none
  | some false => match cells[off]? with
    | some s => some (.one s)
    | none => none
  | none => none

def putAt (cells : List SV) (off : Nat) (cs : List SV) : Option (List SV) :=
  bif Nat.ble (off + cs.length) cells.length then some (cells.take off ++ cs ++ cells.drop (off + cs.length)) else none

def loadOp (E : Env) (H : Tr Blk) (n : Nat) (t : TypeId) (a : TV) : OR :=
  match a with
  | .ev (.one (.ptr l off)) => match H.get l with
    | some (.row _ cells) => match takeAt E.P t cells off with
      | some e => .val (.ev e) H n []
      | none => .fail
    | _ => .fail
  | .ev (.one (.cst (.pointer (some ⟨g, off, none⟩)))) => match E.glob g with
    | some vs => match takeAt E.P t (vs.map .cst) off with
      | some e => .val (.ev e) H n []
      | none => .fail
    | none => .fail
  | _ => .fail

def storeOp (E : Env) (H : Tr Blk) (n : Nat) (t : TypeId) (a x : TV) : OR :=
  match a, x with
  | .ev (.one (.ptr l off)), .ev e => match H.get l with
    | some (.row ty cells) =>
      match sizeOfB E.P t with
      | some k => bif Nat.beq e.cells.length k && e.cells.all SV.okCell then
          match putAt cells off e.cells with
          | some cells' => .val (.tup []) (H.set (some (.row ty cells')) l) n [l]
          | none => .fail
        else .fail
      | none => .fail
    | _ => .fail
  | _, _ => .fail

def allocOp (E : Env) (H : Tr Blk) (n : Nat) (t : TypeId) : OR :=
  match E.P.info? t with
  | some i => match i.zero with
    | some z => .val (.ev (.one (.ptr n 0))) (H.set (some (.row t (z.cells.toList.map .cst))) n) (n + 1) [n]
    | none => .fail
  | none => .fail

def boxOp (H : Tr Blk) (n : Nat) (t : TypeId) (x : TV) : OR :=
  match x with
  | .ev e => match e.cells.all SV.okCell with
    | true => .val (.ev (.one (.ptr n 0))) (H.set (some (.row t e.cells)) n) (n + 1) [n]
    | false => .fail
  | _ => .fail

/-- The parts of a literal, put into the zero value's cells. -/
def fillB (T : Tmps) (place : Nat → Option (Nat × Nat)) (cells : List SV) : List (Nat × Operand) → Option (List SV)
  | [] => some cells
  | (i, x) :: rest => match place i with
    | none => none
    | some (off, size) => match evalT T x with
      | some (.ev e) => bif Nat.beq e.cells.length size && e.cells.all SV.okCell then
          match putAt cells off e.cells with
          | some cells' => fillB T place cells' rest
          | none => none
        else none
      | _ => none

def fieldPlaces (P : Program) : List Field → Option (List (Nat × Nat))
  | [] => some []
  | f :: r => match sizeOfB P f.type with
    | some k => match fieldPlaces P r with
      | some l => some ((f.offset, k) :: l)
      | none => none
    | none => none

def buildOp (E : Env) (T : Tmps) (H : Tr Blk) (n : Nat) (t : TypeId) (parts : Array (Nat × Operand)) : OR :=
  match E.P.info? t with
  | some i => match i.zero with
    | some z => match E.P.underlying t with
      | some (.struct fields) => match fieldPlaces E.P fields.toList with
        | some places => match fillB T (fun i => places[i]?) (z.cells.toList.map .cst) parts.toList with
          | some cells => .val (.ev (.agg cells)) H n []
          | none => .fail
        | none => .fail
      | some (.array _ elem) => match sizeOfB E.P elem with
        | some size => match fillB T (fun i => some (i * size, size)) (z.cells.toList.map .cst) parts.toList with
          | some cells => .val (.ev (.agg cells)) H n []
          | none => .fail
        | none => .fail
      | _ => .fail
    | none => .fail
  | none => .fail

/-- So many zeros. -/
def zeros (z : Value) (n : Nat) : List SV := (List.replicate n (z.cells.toList.map SV.cst)).flatten

def buildSliceOp (E : Env) (T : Tmps) (H : Tr Blk) (n : Nat) (t : TypeId) (len : Nat) (parts : Array (Nat × Operand)) : OR :=
  match E.P.underlying t with
  | some (.slice elem) => match E.P.info? elem with
    | some i => match i.zero with
      | some z => bif Nat.ble (len * i.size) 16777216 && Nat.beq z.cells.size i.size && Nat.ble 1 i.size then
          match fillB T (fun k => some (k * i.size, i.size)) (zeros z len) parts.toList with
          | some cells => .val (.ev (.one (.slc n 0 i.size len (some len)))) (H.set (some (.row elem cells)) n) (n + 1) [n]
          | none => .fail
        else .fail
      | none => .fail
    | none => .fail
  | _ => .fail

/-- A known number. -/
def numOf : TV → Option Int
  | .ev (.one (.cst (.int _ i))) => some i
  | _ => none

def fieldAddrOp (E : Env) (H : Tr Blk) (n : Nat) (s : TypeId) (x : TV) (f : Nat) : OR :=
  match x with
  | .ev (.one (.ptr l off)) => match E.P.underlying s with
    | some (.struct fields) => match fields[f]? with
      | some fd => match sizeOfB E.P fd.type with
        | some (_ + 1) => .val (.ev (.one (.ptr l (off + fd.offset)))) H n []
        | _ => .fail
      | none => .fail
    | _ => .fail
  | _ => .fail

/-- A place within so many. -/
def inside (i : Int) (len : Nat) : Option Nat :=
  match i with
  | .ofNat k => bif Nat.blt k len then some k else none
  | _ => none

def indexAddrOp (E : Env) (H : Tr Blk) (n : Nat) (t : TypeId) (x ix : TV) : OR :=
  match numOf ix with
  | some i => match x with
    | .ev (.one (.ptr l off)) => match E.P.underlying t with
      | some (.array len elem) => match inside i len with
        | some k => match sizeOfB E.P elem with
          | some size => .val (.ev (.one (.ptr l (off + k * size)))) H n []
          | none => .fail
        | none => .fail
      | _ => .fail
    | .ev (.one (.slc l off _ len _)) => match E.P.underlying t with
      | some (.slice elem) => match inside i len with
        | some k => match sizeOfB E.P elem with
          | some size => .val (.ev (.one (.ptr l (off + k * size)))) H n []
          | none => .fail
        | none => .fail
      | _ => .fail
    | _ => .fail
  | none => .fail

def fieldOp (E : Env) (H : Tr Blk) (n : Nat) (t : TypeId) (x : TV) (f : Nat) : OR :=
  match x with
  | .ev (.agg cs) => match E.P.underlying t with
    | some (.struct fields) => match fields[f]? with
      | some fd => match takeAt E.P fd.type cs fd.offset with
        | some e => .val (.ev e) H n []
        | none => .fail
      | none => .fail
    | _ => .fail
  | _ => .fail

def indexOp (E : Env) (H : Tr Blk) (n : Nat) (t : TypeId) (x ix : TV) : OR :=
  match numOf ix, x with
  | some i, .ev (.agg cs) => match E.P.underlying t with
    | some (.array len elem) => match inside i len with
      | some k => match sizeOfB E.P elem with
        | some size => match takeAt E.P elem cs (k * size) with
          | some e => .val (.ev e) H n []
          | none => .fail
        | none => .fail
      | none => .fail
    | _ => .fail
  | _, _ => .fail

/-- A bound of a slice. -/
def boundOf (T : Tmps) : Option Operand → Option (Option Nat)
  | none => some none
  | some x => match evalT T x with
    | some t => match numOf t with
      | some (.ofNat k) => some (some k)
      | _ => none
    | none => none

/-- What a slice's bounds come to, of one whose length is len, which may surely be cut up to 'most', and whose room is cap (none: not known, but at least most): from, to, room. -/
def cutOf (len most : Nat) (cap : Option Nat) (lo hi mx : Option Nat) : Option (Nat × Nat × Option Nat) :=
  let l := lo.getD 0
  match hi, mx with
  | none, none => bif Nat.ble l len then some (l, len, cap) else none
  | some h, none => bif Nat.ble l h && Nat.ble h most then some (l, h, cap) else none
  | some h, some m => bif Nat.ble l h && Nat.ble h m && Nat.ble m most then some (l, h, some m) else none
  | none, some _ => none

/-- Up to where a slice may surely be cut. -/
def mostOf (H : Tr Blk) (l off esz : Nat) : Option Nat → Nat
  | some c => c
  | none => match H.get l with
    | some (.row _ cells) => (cells.length - off) / esz
    | _ => 0
def isNone' : Option Nat → Bool
  | none => true
  | some _ => false

def sliceOp (E : Env) (T : Tmps) (H : Tr Blk) (n : Nat) (t : TypeId) (x : TV) (lo hi mx : Option Operand) : OR :=
  match boundOf T lo, boundOf T hi, boundOf T mx with
  | some lo, some hi, some mx => match x with
    | .ev (.one (.cst (.string b))) => match E.P.underlying t, mx with
      | some .string, none =>
        let l := lo.getD 0
        let h := hi.getD b.data.toList.length
        bif Nat.ble l h && Nat.ble h b.data.toList.length then .val (.ev (.one (.cst (.string ⟨⟨(b.data.toList.drop l).take (h - l)⟩⟩)))) H n [] else .fail
      | _, _ => .fail
    | .ev (.one (.slc l off esz len cap)) => match E.P.underlying t with
      | some (.slice elem) => match sizeOfB E.P elem with
        | some size => bif Nat.beq size esz && Nat.ble 1 esz then
            match cutOf len (mostOf H l off esz cap) cap lo hi mx with
            | some (a, h, some m) => .val (.ev (.one (.slc l (bif Nat.beq m a then off else off + a * esz) esz (h - a) (some (m - a))))) H n []
            | some (a, h, none) =>
              bif Nat.beq a 0 then .val (.ev (.one (.slc l off esz h none))) H n []
              else bif Nat.blt a (mostOf H l off esz cap) then .val (.ev (.one (.slc l (off + a * esz) esz (h - a) none))) H n []
              else bif Nat.beq a h then .val (.ev (.one (.tl l off (off + a * esz) esz))) H n []
              else .fail
            | none => .fail
          else .fail
        | none => .fail
      | _ => .fail
    | .ev (.one (.tl l o0 o1 esz)) => match E.P.underlying t with
      | some (.slice elem) => match sizeOfB E.P elem with
        | some _ => bif Nat.beq (lo.getD 0) 0 && Nat.beq (hi.getD 0) 0 && isNone' mx then .val (.ev (.one (.tl l o0 o1 esz))) H n [] else .fail
        | none => .fail
      | _ => .fail
    | .ev (.one (.ptr l off)) => match E.P.underlying t with
      | some (.array len elem) => match sizeOfB E.P elem with
        | some size => match cutOf len len (some len) lo hi mx with
          | some (a, h, some m) => .val (.ev (.one (.slc l (bif Nat.beq m a then off else off + a * size) size (h - a) (some (m - a))))) H n []
          | _ => .fail
        | none => .fail
      | some (.pointer arr) => match E.P.underlying arr with
        | some (.array len elem) => match sizeOfB E.P elem with
          | some size => match cutOf len len (some len) lo hi mx with
            | some (a, h, some m) => .val (.ev (.one (.slc l (bif Nat.beq m a then off else off + a * size) size (h - a) (some (m - a))))) H n []
            | _ => .fail
          | none => .fail
        | _ => .fail
      | _ => .fail
    | _ => .fail
  | _, _, _ => .fail

def makeSliceOp (E : Env) (H : Tr Blk) (n : Nat) (t : TypeId) (len cap : TV) : OR :=
  match numOf len, numOf cap with
  | some (.ofNat l), some (.ofNat c) => match E.P.underlying t with
    | some (.slice elem) => match E.P.info? elem with
      | some i => match i.zero with
        | some z => bif Nat.ble l c && Nat.ble (c * i.bytes) 281474976710656 && Nat.ble c 281474976710656 && Nat.beq z.cells.size i.size && Nat.ble 1 i.size then
            .val (.ev (.one (.slc n 0 i.size l (some c)))) (H.set (some (.row elem (zeros z c))) n) (n + 1) [n]
          else .fail
        | none => .fail
      | none => .fail
    | _ => .fail
  | _, _ => .fail

def pvOf : TV → Option PV
  | .ev (.one (.cst v)) => some (.cst v)
  | .ev (.one (.ptr l off)) => some (.ptr l off)
  | _ => none
def pvsOf (T : Tmps) : List Operand → Option (List PV)
  | [] => some []
  | x :: r => match evalT T x with
    | some t => match pvOf t with
      | some p => match pvsOf T r with
        | some l => some (p :: l)
        | none => none
      | none => none
    | none => none
def makeFuncOp (T : Tmps) (H : Tr Blk) (n : Nat) (fn : Fn) (first captured : Array Operand) : OR :=
  match pvsOf T first.toList, pvsOf T captured.toList with
  | some a, some b => .val (.ev (.one (.fnv fn a b))) H n []
  | _, _ => .fail
def PV.sv : PV → SV
  | .cst v => .cst v
  | .ptr l off => .ptr l off

def evsOf (T : Tmps) : List Operand → Option (List EV)
  | [] => some []
  | x :: r => match evalT T x with
    | some (.ev e) => match evsOf T r with
      | some l => some (e :: l)
      | none => none
    | _ => none

def extractOp (H : Tr Blk) (n : Nat) (t : TV) (k : Nat) : OR :=
  match t with
  | .tup es => match es[k]? with
    | some e => .val (.ev e) H n []
    | none => .fail
  | _ => .fail

/-- The cells of what is appended or copied: so many elements of so many cells. -/
def srcCells (H : Tr Blk) (x : TV) (esz : Nat) : Option (Nat × List SV) :=
  match x with
  | .ev (.one (.slc l off _ len _)) => match len with
    | 0 => some (0, [])
    | _ => match H.get l with
      | some (.row _ cells) => let seg := (cells.drop off).take (len * esz)
        bif Nat.beq seg.length (len * esz) then some (len, seg) else none
      | _ => none
  | .ev (.one (.cst (.slice none 0 0))) => some (0, [])
  | .ev (.one (.tl _ _ _ _)) => some (0, [])
  | .ev (.one (.cst (.string b))) => some (b.size, b.data.toList.map fun x => .cst (.int .u8 x.toNat))
  | _ => none

/-- What is appended: elements of a slice, a string's bytes, or so many zeros. -/
def appSrc (P : Program) (H : Tr Blk) (xT : TypeId) (x : TV) (size : Nat) (z : Value) : Option (Nat × List SV) :=
  match P.underlying xT with
  | some (.slice _) => match x with
    | .ev (.one (.cst (.string _))) => none
    | x => srcCells H x size
  | some .string => match x with
    | .ev (.one (.cst (.string b))) => bif Nat.beq size 1 then srcCells H (.ev (.one (.cst (.string b)))) size else none
    | _ => none
  | some (.int _) => match x with
    | .ev (.one (.cst (.int .i64 (.ofNat k)))) => bif Nat.ble k 4611686018427387904 then some (k, zeros z k) else none
    | _ => none
  | _ => none

/-- Is there surely room? -/
def fitsB (m off len k esz : Nat) : Option Nat → Bool
  | some c => Nat.ble (len + k) c
  | none => Nat.ble (off + (len + k) * esz) m

def appendOp (E : Env) (H : Tr Blk) (n : Nat) (sT xT : TypeId) (s x : TV) : OR :=
  match E.P.underlying sT with
  | some (.slice elem) => match E.P.info? elem with
    | some i => match i.zero with
      | some z => match Nat.beq z.cells.size i.size && Nat.ble 1 i.size with
        | true => match appSrc E.P H xT x i.size z with
          | some (k, news) => match news.all SV.okCell with
            | true => match s with
              | .ev (.one (.cst (.slice none 0 0))) => match k with
                | 0 => .val s H n []
                | _ => bif Nat.ble (k * i.bytes) 140737488355328 && Nat.ble k 4611686018427387904 then
                    .val (.ev (.one (.slc n 0 i.size k none))) (H.set (some (.row elem news)) n) (n + 1) [n] else .fail
              | .ev (.one (.slc l off esz len cap)) => match H.get l with
                | some (.row ty cells) => bif Nat.beq esz i.size && Nat.beq ty elem && Nat.ble (off + len * esz) cells.length && Nat.ble ((len + k) * i.bytes) 140737488355328 && Nat.ble (len + k) 4611686018427387904 then
                    match fitsB cells.length off len k esz cap with
                    | true => match putAt cells (off + len * esz) news with
                      | some cells' => .val (.ev (.one (.slc l off esz (len + k) cap))) (H.set (some (.row ty cells')) l) n [l]
                      | none => .fail
                    | false => match cap with
                      | some _ => .val (.ev (.one (.slc n 0 esz (len + k) none))) (H.set (some (.row elem ((cells.drop off).take (len * esz) ++ news))) n) (n + 1) [n]
                      | none => .val (.ev (.one (.slc n 0 esz (len + k) none))) ((H.set none l).set (some (.row elem ((cells.drop off).take (len * esz) ++ news))) n) (n + 1) [l, n]
                  else .fail
                | _ => .fail
              | .ev (.one (.tl l o0 o1 esz)) => match k with
                | 0 => .val s H n []
                | _ => match H.get l with
                  | some (.row ty cells) => bif Nat.beq esz i.size && Nat.beq ty elem && Nat.ble o1 cells.length && Nat.ble o0 o1 && Nat.beq ((o1 - o0) % esz) 0 && Nat.ble (k * i.bytes) 140737488355328 && Nat.ble k 4611686018427387904 then
                      .val (.ev (.one (.slc n 0 esz k none))) ((H.set none l).set (some (.row elem news)) n) (n + 1) [l, n]
                    else .fail
                  | _ => .fail
              | _ => .fail
            | false => .fail
          | none => .fail
        | false => .fail
      | none => .fail
    | none => .fail
  | _ => .fail

def notStr : TV → Bool
  | .ev (.one (.cst (.string _))) => false
  | _ => true

def copyOp (E : Env) (H : Tr Blk) (n : Nat) (dT : TypeId) (d x : TV) : OR :=
  match E.P.underlying dT with
  | some (.slice elem) => match sizeOfB E.P elem with
    | some size => match srcCells H x size with
      | some (k, news) => match d with
        | .ev (.one (.slc l off esz len _)) => match H.get l with
          | some (.row ty cells) => bif Nat.beq esz size && news.all SV.okCell && Nat.ble k len && (Nat.beq size 1 || notStr x) then
              match putAt cells off news with
              | some cells' => .val (.ev (.one (.cst (.int .i64 k)))) (H.set (some (.row ty cells')) l) n [l]
              | none => .fail
            else .fail
          | _ => .fail
        | _ => .fail
      | none => .fail
    | none => .fail
  | _ => .fail

def lenOp (E : Env) (H : Tr Blk) (n : Nat) (t : TypeId) (x : TV) : OR :=
  match x with
  | .ev (.one (.slc _ _ _ len _)) => match E.P.underlying t with
    | some (.slice _) => .val (.ev (.one (.cst (.int .i64 len)))) H n []
    | _ => .fail
  | .ev (.one (.tl _ _ _ _)) => match E.P.underlying t with
    | some (.slice _) => .val (.ev (.one (.cst (.int .i64 0)))) H n []
    | _ => .fail
  | .ev (.one (.opq i)) => match E.P.underlying t with
    | some (.slice _) => match E.olen i with
      | some e => .val (.ev (.one (.num .i64 e))) H n []
      | none => .fail
    | _ => .fail
  | .ev (.one (.mp l)) => match E.P.underlying t with
    | some (.map _ _) => match H.get l with
      | some (.map es _) => .val (.ev (.one (.cst (.int .i64 es.length)))) H n []
      | _ => .fail
    | _ => .fail
  | .ev (.agg _) => match E.P.underlying t with
    | some (.array k _) => .val (.ev (.one (.cst (.int .i64 k)))) H n []
    | _ => .fail
  | _ => .fail

def capOp (E : Env) (H : Tr Blk) (n : Nat) (t : TypeId) (x : TV) : OR :=
  match x with
  | .ev (.one (.slc _ _ _ _ (some c))) => match E.P.underlying t with
    | some (.slice _) => .val (.ev (.one (.cst (.int .i64 c)))) H n []
    | _ => .fail
  | _ => .fail

def bytesOf : List SV → Option (List UInt8)
  | [] => some []
  | .cst (.int .u8 (.ofNat k)) :: r => bif Nat.blt k 256 then match bytesOf r with
      | some l => some (UInt8.ofNat k :: l)
      | none => none
    else none
  | _ => none

def convertOp (E : Env) (H : Tr Blk) (n : Nat) (src dst : TypeId) (x : TV) : OR :=
  match E.P.underlying src, E.P.underlying dst with
  | some .string, some (.slice e) => match x with
    | .ev (.one (.cst (.string b))) => match E.P.underlying e with
      | some (.int .u8) => .val (.ev (.one (.slc n 0 1 b.size none))) (H.set (some (.row e (b.data.toList.map fun x => .cst (.int .u8 x.toNat)))) n) (n + 1) [n]
      | _ => .fail
    | _ => .fail
  | some (.slice e), some .string => match x with
    | .ev (.one (.slc l off _ len _)) => match E.P.underlying e with
      | some (.int .u8) => match srcCells H (.ev (.one (.slc l off 1 len none))) 1 with
        | some (_, seg) => match bytesOf seg with
          | some bs => .val (.ev (.one (.cst (.string ⟨bs.toArray⟩)))) H n []
          | none => .fail
        | none => .fail
      | _ => .fail
    | .ev (.one (.tl _ _ _ _)) => match E.P.underlying e with
      | some (.int .u8) => .val (.ev (.one (.cst (.string ⟨⟨[]⟩⟩)))) H n []
      | _ => .fail
    | _ => .fail
  | _, _ => .fail

/-- A number, known or not. -/
def ieOf : TV → Option (IntKind × IE)
  | .ev (.one (.cst (.int k i))) => some (k, .k i)
  | .ev (.one (.num k e)) => some (k, e)
  | _ => none
def beOf (asm : List (BE × Bool)) (e : BE) : Option Bool :=
  match asm with
  | [] => none
  | (x, b) :: r => bif decide (x = e) then some b else beOf r e
def ieFact (fs : List (IE × Int)) (e : IE) : Option Int :=
  match fs with
  | [] => none
  | (x, n) :: r => bif decide (x = e) then some n else ieFact r e
/-- A number held against itself. -/
def reflB : BinOp → Bool
  | .eql | .leq | .geq => true
  | _ => false

def openBin (fs : List (IE × Int)) (H : Tr Blk) (n : Nat) (o : BinOp) (x y : TV) : OR :=
  match ieOf x, ieOf y with
  | some (k, a), some (k', b) => bif decide (k = k') then
      match o with
      | .add | .sub | .mul => let e := IE.bin o k a b
        match ieFact fs e with
        | some i => .val (.ev (.one (.cst (.int k i)))) H n []
        | none => .val (.ev (.one (.num k e))) H n []
      | .rem => match b with
        | .k (.ofNat (_ + 1)) => let e := IE.bin o k a b
          match ieFact fs e with
          | some i => .val (.ev (.one (.cst (.int k i)))) H n []
          | none => .val (.ev (.one (.num k e))) H n []
        | _ => .fail
      | .eql | .neq | .lss | .leq | .gtr | .geq => bif decide (a = b) then .val (.ev (.one (.cst (.bool (reflB o))))) H n []
          else .val (.ev (.one (.tst (.cmp o a b)))) H n []
      | _ => .fail
    else .fail
  | _, _ => .fail

/-- A slice, a pointer or a map held against nil. -/
def nilBin (E : Env) (H : Tr Blk) (n : Nat) (o : BinOp) (t : TypeId) (x y : TV) : OR :=
  match o with
  | .eql => nilSide E H n false t x y
  | .neq => nilSide E H n true t x y
  | _ => .fail
  where
  nilSide (E : Env) (H : Tr Blk) (n : Nat) (b : Bool) (t : TypeId) (x y : TV) : OR :=
    match E.P.underlying t with
    | some (.slice _) => match x, y with
      | .ev (.one (.slc _ _ _ _ _)), .ev (.one (.cst (.slice none _ _))) => .val (.ev (.one (.cst (.bool b)))) H n []
      | .ev (.one (.tl _ _ _ _)), .ev (.one (.cst (.slice none _ _))) => .val (.ev (.one (.cst (.bool b)))) H n []
      | _, _ => .fail
    | some (.pointer _) => match x, y with
      | .ev (.one (.ptr _ _)), .ev (.one (.cst (.pointer none))) => .val (.ev (.one (.cst (.bool b)))) H n []
      | _, _ => .fail
    | some (.map _ _) => match x, y with
      | .ev (.one (.mp _)), .ev (.one (.cst (.map none))) => .val (.ev (.one (.cst (.bool b)))) H n []
      | _, _ => .fail
    | _ => .fail

def makeMapOp (H : Tr Blk) (n : Nat) (r : Option Operand) : OR :=
  match r with
  | none => .val (.ev (.one (.mp n))) (H.set (some (.map [] 0)) n) (n + 1) [n]
  | some _ => .fail

/-- A key of whole numbers. -/
def intKeyB (P : Program) (t : TypeId) : Bool :=
  match P.underlying t with
  | some (.int _) => true
  | _ => false
/-- What is found in a map of known whole numbers; none: not known. -/
def findB (k : IntKind) (i : Int) : List (Value × SV × Nat) → Option (Option SV)
  | [] => some none
  | (.int k' j, v, _) :: r => bif decide (k = k') then (bif decide (i = j) then some (some v) else findB k i r) else none
  | _ => none

def mapEs (H : Tr Blk) : TV → Option (List (Value × SV × Nat))
  | .ev (.one (.cst (.map none))) => some []
  | .ev (.one (.mp l)) => match H.get l with
    | some (.map es _) => some es
    | _ => none
  | _ => none
def foundB (P : Program) (kt : TypeId) (es : List (Value × SV × Nat)) (key : TV) : Option (Option SV) :=
  match ieOf key with
  | some (_, .k _) => match key with
    | .ev (.one (.cst (.int k i))) => bif intKeyB P kt then findB k i es else none
    | _ => none
  | some _ => match es with
    | [] => bif intKeyB P kt then some none else none
    | _ => none
  | none => match es, key.val? with
    | [], some kv => match pureRun P (Instr.checkKey true 10000 kt kv), pureRun P (Instr.findKey kt kv []) with
      | some _, some none => some none
      | _, _ => none
    | _, _ => none

def lookupOp (E : Env) (H : Tr Blk) (n : Nat) (t : TypeId) (x key : TV) (commaOk : Bool) : OR :=
  match E.P.underlying t with
  | some (.map kt elem) => match E.P.info? elem with
    | some i => match i.zero with
      | some z => match mapEs H x with
        | some es => match foundB E.P kt es key with
          | some none => .val (bif commaOk then .tup [EV.ofV z, .one (.cst (.bool false))] else .ev (EV.ofV z)) H n []
          | some (some v) => .val (bif commaOk then .tup [.one v, .one (.cst (.bool true))] else .ev (.one v)) H n []
          | none => .fail
        | none => .fail
      | none => .fail
    | none => .fail
  | _ => .fail

def OR.or (a : OR) (b : Unit → OR) : OR :=
  match a with
  | .fail => b ()
  | r => r

end Go.Sx
end

/- The symbolic evaluator: the run. Definitions alone. -/
noncomputable section
namespace Go.Sx

def openCmp (asm : List (BE × Bool)) (H : Tr Blk) (n : Nat) (W : List Nat) (e : BE) : OR :=
  match beOf asm e with
  | some b => .val (.ev (.one (.cst (.bool b)))) H n W
  | none => .fork e

def evVals? : List EV → Option (List Value)
  | [] => some []
  | e :: r => match e.val? with
    | some v => match evVals? r with
      | some l => some (v :: l)
      | none => none
    | none => none

/-- Two known numbers. -/
def fastInt (op : BinOp) (k : IntKind) (a b : Int) : Option Value :=
  match op with
  | .add => some (.int k (k.wrap (a + b)))
  | .sub => some (.int k (k.wrap (a - b)))
  | .mul => some (.int k (k.wrap (a * b)))
  | .eql => some (.bool (decide (a = b)))
  | .neq => some (.bool (!decide (a = b)))
  | .lss => some (.bool (decide (a < b)))
  | .leq => some (.bool (decide (a ≤ b)))
  | .gtr => some (.bool (decide (a > b)))
  | .geq => some (.bool (decide (a ≥ b)))
  | _ => none
def fastBin (op : BinOp) (x y : Option TV) : Option Value :=
  match x, y with
  | some (.ev (.one (.cst (.int k a)))), some (.ev (.one (.cst (.int k' b)))) => bif decide (k = k') then fastInt op k a b else none
  | _, _ => none
def binStep (E : Env) (fs : List (IE × Int)) (asm : List (BE × Bool)) (T : Tmps) (H : Tr Blk) (n : Nat) (o : Oper) (op : BinOp) (t : TypeId) (x y : Operand) : OR :=
  match fastBin op (evalT T x) (evalT T y) with
  | some v => .val (.ev (.one (.cst v))) H n []
  | none => match closedAll T [x, y] with
  | true => pureOp E T H n o
  | false => match evalT T x, evalT T y with
    | some a, some b => match openBin fs H n op a b with
      | .val (.ev (.one (.tst e))) H' n' W => openCmp asm H' n' W e
      | .val v H' n' W => .val v H' n' W
      | _ => nilBin E H n op t a b
    | _, _ => .fail

def builtinStep (E : Env) (T : Tmps) (H : Tr Blk) (n : Nat) (o : Oper) (b : Builtin) (c : Call) : OR :=
  match b, c.args.toList, c.argTypes.toList with
  | .append, [s, x], sT :: xT :: _ => match evalT T s, evalT T x with
    | some s, some x => appendOp E H n sT xT s x
    | _, _ => .fail
  | .copy, [d, x], dT :: _ => match evalT T d, evalT T x with
    | some d, some x => copyOp E H n dT d x
    | _, _ => .fail
  | .len, [x], t :: _ => match closedAll T [x] with
    | true => pureOp E T H n o
    | false => match evalT T x with
      | some x => lenOp E H n t x
      | none => .fail
  | .cap, [x], t :: _ => match closedAll T [x] with
    | true => pureOp E T H n o
    | false => match evalT T x with
      | some x => capOp E H n t x
      | none => .fail
  | _, _, _ => pureOp E T H n o

def callStep (E : Env) (T : Tmps) (H : Tr Blk) (n : Nat) (o : Oper) (c : Call) : OR :=
  match c.callee with
  | .value f => match evalT T f with
    | some (.ev (.one (.fnv (.func g) first captured))) => match evsOf T c.args.toList with
      | some es => .call g (first.map (fun p => EV.one p.sv) ++ es ++ captured.map (fun p => EV.one p.sv))
      | none => .fail
    | _ => .fail
  | .builtin b => builtinStep E T H n o b c
  | _ => .fail

def ev1 (T : Tmps) (x : Operand) (k : TV → OR) : OR :=
  match evalT T x with
  | some a => k a
  | none => .fail

/- The operation comes first: so the kernel need not copy the other arms. -/
def opK (op : Op) : Env → List (IE × Int) → List (BE × Bool) → Tmps → Tr Blk → Nat → Oper → OR :=
  match op with
  | .move x => fun _ _ _ T H n _ => ev1 T x fun a => .val a H n []
  | .assign x => fun _ _ _ T H n _ => ev1 T x fun a => .val a H n []
  | .pick c a b => fun _ _ _ T H n _ => ev1 T c fun
    | .ev (.one (.cst (.bool true))) => ev1 T a fun v => .val v H n []
    | .ev (.one (.cst (.bool false))) => ev1 T b fun v => .val v H n []
    | _ => .fail
  | .alloc t => fun E _ _ _ H n _ => allocOp E H n t
  | .box t x => fun _ _ _ T H n _ => ev1 T x fun a => boxOp H n t a
  | .build t parts => fun E _ _ T H n _ => buildOp E T H n t parts
  | .buildSlice t len parts => fun E _ _ T H n _ => buildSliceOp E T H n t len parts
  | .load t x => fun E _ _ T H n _ => ev1 T x fun a => loadOp E H n t a
  | .store t a x => fun E _ _ T H n _ => ev1 T a fun a => ev1 T x fun x => storeOp E H n t a x
  | .nilCheck x => fun E _ _ T H n o => ev1 T x fun
    | .ev (.one (.ptr l off)) => .val (.ev (.one (.ptr l off))) H n []
    | .ev (.one (.fnv (.func g) a b)) => .val (.ev (.one (.fnv (.func g) a b))) H n []
    | _ => pureOp E T H n o
  | .binOp op t x y _ => fun E fs asm T H n o => binStep E fs asm T H n o op t x y
  | .convert src dst x => fun E _ _ T H n o => (pureOp E T H n o).or fun _ => ev1 T x fun a => convertOp E H n src dst a
  | .makeSlice t l c => fun E _ _ T H n _ => ev1 T l fun l => ev1 T c fun c => makeSliceOp E H n t l c
  | .slice t x lo hi mx => fun E _ _ T H n o => (ev1 T x fun a => sliceOp E T H n t a lo hi mx).or fun _ => pureOp E T H n o
  | .fieldAddr s x f => fun E _ _ T H n o => match closedAll T [x] with
    | true => pureOp E T H n o
    | false => ev1 T x fun a => fieldAddrOp E H n s a f
  | .field t x f => fun E _ _ T H n o => ev1 T x fun a => (fieldOp E H n t a f).or fun _ => pureOp E T H n o
  | .indexAddr t x i => fun E _ _ T H n o => match closedAll T [x, i] with
    | true => pureOp E T H n o
    | false => ev1 T x fun a => ev1 T i fun i => indexAddrOp E H n t a i
  | .index t x i => fun E _ _ T H n o => match closedAll T [x, i] with
    | true => pureOp E T H n o
    | false => ev1 T x fun a => ev1 T i fun i => indexOp E H n t a i
  | .makeFunc fn first captured => fun _ _ _ T H n _ => makeFuncOp T H n fn first captured
  | .extract t k => fun _ _ _ T H n _ => ev1 T t fun a => extractOp H n a k
  | .call c => fun E _ _ T H n o => callStep E T H n o c
  | .unOp .. => fun E _ _ T H n o => pureOp E T H n o
  | .makeInterface .. => fun E _ _ T H n o => pureOp E T H n o
  | .typeAssert .. => fun E _ _ T H n o => pureOp E T H n o
  | .lookup t x k ok => fun E _ _ T H n _ => ev1 T x fun x => ev1 T k fun k => lookupOp E H n t x k ok
  | .makeMap _ r => fun _ _ _ _ H n _ => makeMapOp H n r
  | _ => fun _ _ _ _ _ _ _ => .fail
def opStep (E : Env) (fs : List (IE × Int)) (asm : List (BE × Bool)) (T : Tmps) (H : Tr Blk) (n : Nat) (o : Oper) : OR := opK o.op E fs asm T H n o

structure St where
  /-- how many temporaries there are -/
  N : Nat
  T : Tmps
  H : Tr Blk
  n : Nat
  W : List Nat

def putT (T : Tmps) (dst : Option Nat) (v : TV) : Tmps :=
  match dst with
  | some d => T.set (some v) d
  | none => T
def dstOk (N : Nat) (dst : Option Nat) : Bool :=
  match dst with
  | some d => Nat.blt d N
  | none => true

/-- Is an operation wanted? none: not known. -/
def wantedB (ops : Array Oper) (T : Tmps) (o : Oper) : Option Bool :=
  match o.guard with
  | none => some true
  | some (j, want) => match (ops[j]?).bind (·.dst) with
    | some d => match T.get d with
      | some (.ev (.one (.cst (.bool b)))) => some (b == want)
      | some (.tup []) => some false
      | _ => none
    | none => none

def initT : Nat → List EV → Tmps → Tmps
  | _, [], T => T
  | i, e :: r, T => initT (i + 1) r (T.set (some (.ev e)) i)

def resultVar (E : Env) (T : Tmps) (H : Tr Blk) : ResultVar → Option EV
  | .tmp t => match T.get t with
    | some (.ev e) => some e
    | _ => none
  | .cell a t => match T.get a with
    | some (.ev (.one (.ptr l off))) => match H.get l with
      | some (.row _ cells) => takeAt E.P t cells off
      | _ => none
    | _ => none
def resultVars (E : Env) (T : Tmps) (H : Tr Blk) : List ResultVar → Option (List EV)
  | [] => some []
  | r :: rs => match resultVar E T H r with
    | some e => match resultVars E T H rs with
      | some l => some (e :: l)
      | none => none
    | none => none
def resultsB (E : Env) (fn : Func) (T : Tmps) (H : Tr Blk) : Option TV :=
  match resultVars E T H fn.results.toList with
  | some [e] => some (.ev e)
  | some l => some (.tup l)
  | none => none

def extB (E : Env) (f : Nat) (args : List EV) (H : Tr Blk) : Option TV :=
  match E.ext f with
  | some h => match evVals? args with
    | some vs => match h vs with
      | some v => some (TV.ofV v)
      | none => none
    | none => none
  | none => match E.exth f with
    | some h => h args H.get
    | none => none

def isRt (fn : Func) : Bool := fn.name == "runtime.NumGoroutine"

def calleeB (E : Env) (ih : List Item → St → Option St) (f : Nat) (args : List EV) (H : Tr Blk) (n : Nat) : Option (TV × St) :=
  match extB E f args H with
  | some v => some (v, ⟨0, .nil, H, n, []⟩)
  | none => match E.P.funcs[f]? with
    | some fn => match fn.body with
      | some c => match isRt fn, Nat.ble args.length fn.ntmps with
        | false, true => match ih [.code c] ⟨fn.ntmps, initT 0 args .nil, H, n, []⟩ with
          | some o => match resultsB E fn o.T o.H with
            | some v => some (v, o)
            | none => none
          | none => none
        | _, _ => none
      | none => none
    | none => none

/-! ### Regions whose order is drawn -/
def PV.lids : PV → List Nat
  | .ptr l _ => [l]
  | _ => []
def SV.lids : SV → List Nat
  | .ptr l _ => [l]
  | .slc l _ _ _ _ => [l]
  | .tl l _ _ _ => [l]
  | .mp l => [l]
  | .fnv _ a b => a.flatMap PV.lids ++ b.flatMap PV.lids
  | _ => []
def EV.lids (e : EV) : List Nat := e.cells.flatMap SV.lids
def TV.lids : TV → List Nat
  | .ev e => e.lids
  | .tup es => es.flatMap EV.lids
def Blk.lids : Blk → List Nat
  | .row _ cells => cells.flatMap SV.lids
  | .map es _ => es.flatMap fun e => e.2.1.lids
  | .iter _ _ => []
def memB (x : Nat) : List Nat → Bool
  | [] => false
  | y :: r => bif Nat.beq x y then true else memB x r
def reach (H : Tr Blk) : Nat → List Nat → List Nat → List Nat
  | 0, _, seen => seen
  | _ + 1, [], seen => seen
  | f + 1, l :: r, seen => bif memB l seen then reach H f r seen else
      match H.get l with
      | some b => reach H f (b.lids ++ r) (l :: seen)
      | none => reach H f r (l :: seen)
def tmpLids (T : Tmps) : List Operand → List Nat
  | [] => []
  | x :: r => match evalT T x with
    | some t => t.lids ++ tmpLids T r
    | none => tmpLids T r
def foot (T : Tmps) (H : Tr Blk) (o : Oper) : List Nat :=
  match o.op with
  | .load _ x => tmpLids T [x]
  | .store _ a _ => tmpLids T [a]
  | .call { callee := .builtin _, args, .. } => tmpLids T args.toList
  | .call c => reach H 100000 (tmpLids T c.operands.toList) []
  | .convert _ _ x => tmpLids T [x]
  | .slice _ x _ _ _ => tmpLids T [x]
  | .lookup _ x _ _ => tmpLids T [x]
  | _ => []
def restrict {α : Type} (H : Tr α) : List Nat → Tr α → Tr α
  | [], A => A
  | l :: r, A => restrict H r (A.set (H.get l) l)
def merge (A : Tr Blk) : List Nat → Tr Blk → Tr Blk
  | [], H => H
  | l :: r, H => merge A r (H.set (A.get l) l)

/-- The temporaries that an operation looks at. -/
def usesOf (ops : Array Oper) (o : Oper) : List Nat :=
  (o.op.operands.toList.filterMap fun | .tmp t => some t | _ => none) ++ match o.guard with
    | some (j, _) => match (ops[j]?).bind (·.dst) with
      | some d => [d]
      | none => []
    | none => []

/-- What was looked at and written by an operation. -/
structure Rec where
  F : List Nat
  W : List Nat

def drawOps (E : Env) (fs : List (IE × Int)) (asm : List (BE × Bool)) (ih : List Item → St → Option St) (N : Nat) (ops : Array Oper) : List Oper → Tmps → Tr Blk → Nat → Option (Tmps × Tr Blk × Nat × List Nat × List Rec)
  | [], T, H, n => some (T, H, n, [], [])
  | o :: rest, T, H, n =>
    let Tr := restrict T (usesOf ops o) .nil
    match dstOk N o.dst, wantedB ops Tr o with
    | true, some false => match drawOps E fs asm ih N ops rest (putT T o.dst (.tup [])) H n with
      | some (T', H', n', W, rs) => some (T', H', n', W, ⟨[], []⟩ :: rs)
      | none => none
    | true, some true =>
      let F := foot Tr H o
      match opStep E fs asm Tr (restrict H F .nil) n o with
      | .val v A' n1 W1 => match Nat.ble n n1 with
        | true => match drawOps E fs asm ih N ops rest (putT T o.dst v) (merge A' W1 H) n1 with
          | some (T', H', n', W, rs) => some (T', H', n', W ++ W1, ⟨F, W1⟩ :: rs)
          | none => none
        | false => none
      | .call f args => match calleeB E ih f args (restrict H F .nil) n with
        | some (v, σ) => match drawOps E fs asm ih N ops rest (putT T o.dst v) (merge σ.H σ.W H) σ.n with
          | some (T', H', n', W, rs) => some (T', H', n', W ++ σ.W, ⟨F, σ.W⟩ :: rs)
          | none => none
        | none => none
      | _ => none
    | _, _ => none

/-- Which operations surely come ahead of one, by its edges: a set, as a number; none: an edge leads on. -/
def edgesB (i : Nat) (acc : List Nat) : List Edge → Nat → Option Nat
  | [], s => some s
  | e :: r, s => bif Region.binds .any e then (match acc[e.on]? with
      | some t => edgesB i acc r (s ||| ((1 <<< e.on) ||| t))
      | none => none)
    else edgesB i acc r s
/-- The same of all operations, in the text's order. -/
def aheads (acc : List Nat) : List Oper → Option (List Nat)
  | [] => some acc
  | o :: r => match edgesB acc.length acc o.after.toList 0 with
    | some s => aheads (acc ++ [s]) r
    | none => none
def meets (a b : List Nat) : Bool :=
  match a with
  | [] => false
  | x :: r => bif memB x b then true else meets r b
def dstIn (d : Option Nat) (l : List Nat) : Bool :=
  match d with
  | some d => memB d l
  | none => false
def conflictB (ops : Array Oper) (a b : Oper) (x y : Rec) : Bool :=
  meets x.W y.F || meets x.W y.W || meets y.W x.F || dstIn a.dst (usesOf ops b) || dstIn b.dst (usesOf ops a) || dstIn a.dst b.dst.toList
/-- The bit, by what the kernel works out at once. -/
def bitB (s i : Nat) : Bool := Nat.beq (Nat.land (Nat.shiftRight s i) 1) 1
def orderedB (ops : Array Oper) (a : Oper) (x : Rec) (i : Nat) : List Oper → List Rec → List Nat → Bool
  | b :: os, y :: ys, s :: ss => bif bitB s i then orderedB ops a x i os ys ss else bif conflictB ops a b x y then false else orderedB ops a x i os ys ss
  | _, _, _ => true
def allOrderedB (ops : Array Oper) (i : Nat) : List Oper → List Rec → List Nat → Bool
  | a :: os, x :: xs, _ :: ss => bif orderedB ops a x i os xs ss then allOrderedB ops (i + 1) os xs ss else false
  | _, _, _ => true
def orderB (ops : Array Oper) (rs : List Rec) : Bool :=
  match aheads [] ops.toList with
  | some ss => allOrderedB ops 0 ops.toList rs ss
  | none => false

/-! ### Forcing: the same value, worked out (for the kernel's sake) -/
def forceNat {α : Type} (n : Nat) : (Nat → α) → α :=
  match n with
  | 0 => fun k => k 0
  | m + 1 => fun k => k (m + 1)
def forceInt {α : Type} (n : Int) : (Int → α) → α :=
  match n with
  | .ofNat m => fun k => forceNat m fun m => k (.ofNat m)
  | .negSucc m => fun k => forceNat m fun m => k (.negSucc m)
def forceList {α γ : Type} : List γ → (List γ → α) → α
  | [], k => k []
  | x :: r, k => forceList r fun r => k (x :: r)
def forceStr {α : Type} (s : ByteArray) (k : ByteArray → α) : α := forceList s.data.toList fun l => k ⟨⟨l⟩⟩
def forceVal {α : Type} (v : Value) : (Value → α) → α :=
  match v with
  | .int kd n => fun k => forceInt n fun n => k (.int kd n)
  | .string s => fun k => forceStr s fun s => k (.string s)
  | .bool true => fun k => k (.bool true)
  | .bool false => fun k => k (.bool false)
  | v => fun k => k v
def forceSV {α : Type} (s : SV) : (SV → α) → α :=
  match s with
  | .cst v => fun k => forceVal v fun v => k (.cst v)
  | .ptr l off => fun k => forceNat l fun l => forceNat off fun off => k (.ptr l off)
  | s => fun k => k s
def forceSVs {α : Type} : List SV → (List SV → α) → α
  | [], k => k []
  | x :: r, k => forceSV x fun x => forceSVs r fun r => k (x :: r)
def forceEV {α : Type} (e : EV) : (EV → α) → α :=
  match e with
  | .one s => fun k => forceSV s fun s => k (.one s)
  | .agg cs => fun k => forceSVs cs fun cs => k (.agg cs)
def forceTV {α : Type} (t : TV) : (TV → α) → α :=
  match t with
  | .ev e => fun k => forceEV e fun e => k (.ev e)
  | .tup es => fun k => forceList es fun es => k (.tup es)

/-- A state's parts, worked out. -/
def unSt {α : Type} (σ : St) (k : Nat → Tmps → Tr Blk → Nat → List Nat → α) : α :=
  match σ with
  | ⟨N, T, H, n, W⟩ => k N T H n W
theorem unSt_eq {α : Type} (σ : St) (k : Nat → Tmps → Tr Blk → Nat → List Nat → α) : unSt σ k = k σ.N σ.T σ.H σ.n σ.W := rfl
/-- A region in the text's order: what comes behind one operation's outcome. -/
def seqV (r : OR) : Env → (List Item → St → Option St) → (St → Option St) → Option Nat → St → Option St :=
  match r with
  | .val v H n W => fun _ _ next dst σ => match Nat.ble σ.n n with
    | true => forceTV v fun v => forceNat n fun n => unSt σ fun N T _ _ W' => next ⟨N, putT T dst v, H, n, W ++ W'⟩
    | false => none
  | .call f args => fun E ih next dst σ => match calleeB E ih f args σ.H σ.n with
    | some (v, r) => forceTV v fun v => unSt σ fun N T _ _ W' => unSt r fun _ _ H n W => next ⟨N, putT T dst v, H, n, W ++ W'⟩
    | none => none
  | _ => fun _ _ _ _ _ => none
def seqW (b : Option Bool) : Env → List (IE × Int) → List (BE × Bool) → (List Item → St → Option St) → (St → Option St) → Oper → St → Option St :=
  match b with
  | some true => fun E fs asm ih next o σ => seqV (opStep E fs asm σ.T σ.H σ.n o) E ih next o.dst σ
  | some false => fun _ _ _ _ next o σ => unSt σ fun N T H n W => next ⟨N, putT T o.dst (.tup []), H, n, W⟩
  | none => fun _ _ _ _ _ _ _ => none
def seqK (E : Env) (fs : List (IE × Int)) (asm : List (BE × Bool)) (ih : List Item → St → Option St) (ops : Array Oper) (o : Oper) (next : St → Option St) (σ : St) : Option St :=
  bif dstOk σ.N o.dst then seqW (wantedB ops σ.T o) E fs asm ih next o σ else none
noncomputable def seqOps (E : Env) (fs : List (IE × Int)) (asm : List (BE × Bool)) (ih : List Item → St → Option St) (ops : Array Oper) (l : List Oper) : St → Option St :=
  List.rec (motive := fun _ => St → Option St) (fun σ => some σ) (fun o _ next => seqK E fs asm ih ops o next) l
theorem seqOps_nil (E : Env) (fs : List (IE × Int)) (asm : List (BE × Bool)) (ih : List Item → St → Option St) (ops : Array Oper) (σ : St) : seqOps E fs asm ih ops [] σ = some σ := rfl
theorem seqOps_cons (E : Env) (fs : List (IE × Int)) (asm : List (BE × Bool)) (ih : List Item → St → Option St) (ops : Array Oper) (o : Oper) (r : List Oper) (σ : St) : seqOps E fs asm ih ops (o :: r) σ = seqK E fs asm ih ops o (seqOps E fs asm ih ops r) σ := rfl

def condK (v : Option TV) : Code → Code → Option Code :=
  match v with
  | some (.ev (.one (.cst (.bool true)))) => fun a _ => some a
  | some (.ev (.one (.cst (.bool false)))) => fun _ b => some b
  | _ => fun _ _ => none
def thenSt (s : Option St) (f : St → Option St) : Option St :=
  match s with
  | some σ => f σ
  | none => none
def thenItems (s : Option (List Item)) (f : List Item → Option St) : Option St :=
  match s with
  | some k => f k
  | none => none
def drawK (E : Env) (fs : List (IE × Int)) (asm : List (BE × Bool)) (ih : List Item → St → Option St) (ops : Array Oper) (k : List Item) (σ : St) : Option St :=
  match drawOps E fs asm ih σ.N ops ops.toList σ.T σ.H σ.n with
  | some (T', H', n', W, rs) => match orderB ops rs with
    | true => unSt σ fun N _ _ _ W0 => ih k ⟨N, T', H', n', W ++ W0⟩
    | false => none
  | none => none
def codeK (c : Code) : Env → List (IE × Int) → List (BE × Bool) → (List Item → St → Option St) → List Item → St → Option St :=
  match c with
  | .skip => fun _ _ _ ih k σ => ih k σ
  | .label _ => fun _ _ _ ih k σ => ih k σ
  | .ret => fun _ _ _ _ _ σ => some σ
  | .seq a b => fun _ _ _ ih k σ => ih (.code a :: .code b :: k) σ
  | .cond x a b => fun _ _ _ ih k σ => match condK (evalT σ.T x) a b with
    | some c => ih (.code c :: k) σ
    | none => none
  | .block id b => fun _ _ _ ih k σ => ih (.code b :: .inBlock id :: k) σ
  | .loop b => fun _ _ _ ih k σ => ih (.code b :: .inLoop b :: k) σ
  | .scope b => fun _ _ _ ih k σ => ih (.code b :: .inScope b :: k) σ
  | .exit id => fun _ _ _ ih k σ => thenItems (exitTo id k) fun k' => ih k' σ
  | .goto l => fun _ _ _ ih k σ => thenItems (gotoIn l k) fun k' => ih k' σ
  | .region _ ops false => fun E fs asm ih k σ => thenSt (seqOps E fs asm ih ops ops.toList σ) fun σ' => ih k σ'
  | .region _ ops true => fun E fs asm ih k σ => drawK E fs asm ih ops k σ
  | _ => fun _ _ _ _ _ _ => none
def itemK (x : Item) : Env → List (IE × Int) → List (BE × Bool) → (List Item → St → Option St) → List Item → St → Option St :=
  match x with
  | .code c => codeK c
  | .inLoop b => fun _ _ _ ih k σ => ih (.code b :: .inLoop b :: k) σ
  | .inBlock _ => fun _ _ _ ih k σ => ih k σ
  | .inScope _ => fun _ _ _ ih k σ => ih k σ
  | _ => fun _ _ _ _ _ _ => none
def todoK (todo : List Item) : Env → List (IE × Int) → List (BE × Bool) → (List Item → St → Option St) → St → Option St :=
  match todo with
  | [] => fun _ _ _ _ σ => some σ
  | x :: k => fun E fs asm ih σ => itemK x E fs asm ih k σ
noncomputable def run (E : Env) (fs : List (IE × Int)) (asm : List (BE × Bool)) (fu : Nat) : List Item → St → Option St :=
  Nat.rec (motive := fun _ => List Item → St → Option St) (fun _ _ => none) (fun _ ih todo σ => todoK todo E fs asm ih σ) fu
theorem run_zero (E : Env) (fs : List (IE × Int)) (asm : List (BE × Bool)) (todo : List Item) (σ : St) : run E fs asm 0 todo σ = none := rfl
theorem run_succ (E : Env) (fs : List (IE × Int)) (asm : List (BE × Bool)) (fu : Nat) (todo : List Item) (σ : St) : run E fs asm (fu + 1) todo σ = todoK todo E fs asm (run E fs asm fu) σ := rfl

end Go.Sx
end
