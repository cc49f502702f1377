/- InjectBreaks: the walk: whatever the numbers are, the statement's function returns true. -/
import Derived.Test.YtmggogbpepghkacGreatDoorCases
import Derived.Test.YtmggogbpepghkacGreatDoorMemoA
import Derived.Test.YtmggogbpepghkacGreatDoorMemoB
import Derived.Test.YtmggogbpepghkacGreatDoorMemoC
import Derived.Test.YtmggogbpepghkacGreatDoorMemoD
import Derived.Test.YtmggogbpepghkacGreatDoorMemoE
import Derived.Test.YtmggogbpepghkacGreatDoorMemoF
import Derived.Test.YtmggogbpepghkacGreatDoorMemoG
import Derived.Test.YtmggogbpepghkacGreatDoorRun1
import Derived.Test.YtmggogbpepghkacGreatDoorRun2
import Derived.Test.YtmggogbpepghkacGreatDoorRun3
import Derived.Test.YtmggogbpepghkacGreatDoorRun4
import Derived.Test.YtmggogbpepghkacGreatDoorRun5
import Derived.Test.YtmggogbpepghkacGreatDoorRun6
import Derived.Test.YtmggogbpepghkacGreatDoorRun7
import Derived.Test.YtmggogbpepghkacGreatDoorRun8
import Derived.Test.YtmggogbpepghkacGreatDoorRun9
import Derived.Test.YtmggogbpepghkacGreatDoorRun10
import Derived.Test.YtmggogbpepghkacGreatDoorRun11
import Derived.Test.YtmggogbpepghkacGreatDoorRun12
import Derived.Test.YtmggogbpepghkacGreatDoorRun13
import Derived.Test.YtmggogbpepghkacGreatDoorRun14
import Derived.Test.YtmggogbpepghkacGreatDoorRun15
import Derived.Test.YtmggogbpepghkacGreatDoorRun16
import Derived.Test.YtmggogbpepghkacGreatDoorRun17
import Derived.Test.YtmggogbpepghkacGreatDoorRun18
import Derived.Test.YtmggogbpepghkacGreatDoorRun19
import Derived.Test.YtmggogbpepghkacGreatDoorRun20
import Derived.Test.YtmggogbpepghkacGreatDoorRun21
import Derived.Test.YtmggogbpepghkacGreatDoorRun22
import Derived.Test.YtmggogbpepghkacGreatDoorRun23
import Derived.Test.YtmggogbpepghkacGreatDoorRun24
import Derived.Test.YtmggogbpepghkacGreatDoorRun25
import Derived.Test.YtmggogbpepghkacGreatDoorRun26

namespace Go.Proofs.YtmggogbpepghkacGreatDoor
open Go.Sx Go.RowKit

theorem pr (a b : Nat) : (a == b) = true → a = b := by simp

/-- What is unknown. -/
def val (k s d : Int) : Val := { i := fun | 0 => s | 1 => k | _ => d, b := fun _ => true, x := fun _ => .bool true }

theorem ext0_ok (vs : List Value) (u : Value) (f : Nat) (h : List Value → Option Value) (hf : ext0 f = some h) (hu : h vs = some u) (w : World) : (callFunc f vs.toArray).run Tryz.prog w = .ok (.value u) w := by
  unfold ext0 at hf
  cases h1 : Nat.beq f 163 with
  | true =>
    rw [h1, cond_true] at hf
    cases hf
    have := Nat.eq_of_beq_eq_true h1
    subst this
    exact run_extern (fn := Tryz.f163) (e := Extern.BytealgCount.count) Tryz.func163 (by kernel_rfl) (by kernel_rfl) (by kernel_rfl) (by kernel_rfl) (fun w => pureRun_ok _ _ hu w) w
  | false =>
    rw [h1, cond_false] at hf
    cases h2 : Nat.beq f 254 with
    | true =>
      rw [h2, cond_true] at hf
      cases hf
      have := Nat.eq_of_beq_eq_true h2
      subst this
      exact run_extern (fn := Tryz.f254) (e := Extern.BytealgIndexByte.indexByte) Tryz.func254 (by kernel_rfl) (by kernel_rfl) (by kernel_rfl) (by kernel_rfl) (fun w => pureRun_ok _ _ hu w) w
    | false => rw [h2] at hf; cases hf

theorem law0 {ρ : Val} {fs : List (IE × Int)} {asm : List (BE × Bool)} (hx : ∀ i, (ρ.x i).oneCell' = true) (hfs : factsOK ρ fs) (hasm : asmOK ρ asm) : LawA E0 ρ fs asm :=
  ⟨⟨hx, fun i e h => (by cases h), hfs⟩, hasm, fun B => ⟨fun f h hf vs u hu w _ _ => .inl (ext0_ok vs u f h hf hu w), fun f h hf => by cases hf⟩, by kernel_rfl⟩
theorem memo2_ok : memoB E1 memo2 = true := memoB_append memo2a_ok (memoB_append memo2b_ok (memoB_append memo2c_ok (memoB_append memo2d_ok memo2e_ok)))
theorem memo4_ok : memoB E3 memo4 = true := memoB_append memo4a_ok memo4b_ok
theorem law4 {k s d : Int} {fs : List (IE × Int)} {asm : List (BE × Bool)} (hfs : factsOK (val k s d) fs) (hasm : asmOK (val k s d) asm) : LawA E4 (val k s d) fs asm :=
  ((((law0 (fun _ => rfl) hfs hasm).memo memo1_ok).memo memo2_ok).memo memo3_ok).memo memo4_ok

theorem goes {k s d : Int} {fs : List (IE × Int)} {asm : List (BE × Bool)} {args : List EV} (h : good fs asm args = true) {W : World} (hG : GlobOK E4 W.heap.size W) (hfs : factsOK (val k s d) fs) (hasm : asmOK (val k s d) asm)
    (ha : F2 (EV.D (fun _ => none) (val k s d)) args [.int .i64 k, .int .i64 s, .int .i64 d]) :
    Calls Tryz.prog 3 #[.int .i64 k, .int .i64 s, .int .i64 d] W fun e w' => e = .returned (.bool true) ∧ Below W.heap.size W w' :=
  (law4 hfs hasm).true_ hG h ha
theorem nil_facts {ρ : Val} : factsOK ρ [] := fun _ h => by cases h

theorem bnds_ok {k s d : Int} (h : 1 ≤ s ∧ s ≤ 2147483647) : asmOK (val k s d) bnds := by
  simp only [asmOK, bnds, List.forall_mem_cons, List.not_mem_nil, false_implies, implies_true, and_true, BE.den, Go.Sx.compare, IE.den, val]
  simp only [decide_eq_true_eq, decide_eq_false_iff_not, beq_eq_false_iff_ne, bne_iff_ne, ne_eq]
  omega
theorem par_ok {k s d p : Int} (h : s.tmod 2 = p) (hp : p = 0 ∨ p = 1) : factsOK (val k s d) (par p) := by
  simp only [factsOK, par, List.forall_mem_cons, List.not_mem_nil, false_implies, implies_true, and_true, IE.den, arith, val, h]
  rcases hp with rfl | rfl <;> exact ⟨trivial, by decide⟩

theorem sLow_ok {k s d : Int} (hk : 1 ≤ k ∧ k ≤ 26) (h : s < 1) : asmOK (val k s d) (kIn ++ sLow) := by
  simp only [asmOK, kIn, sLow, List.cons_append, List.nil_append, List.forall_mem_cons, List.not_mem_nil, false_implies, implies_true, and_true, BE.den, Go.Sx.compare, IE.den, val]
  simp only [decide_eq_true_eq, decide_eq_false_iff_not, beq_eq_false_iff_ne, bne_iff_ne, ne_eq]
  omega

theorem sHigh_ok {k s d : Int} (hk : 1 ≤ k ∧ k ≤ 26) (h : 2147483647 < s) : asmOK (val k s d) (kIn ++ sHigh) := by
  simp only [asmOK, kIn, sHigh, List.cons_append, List.nil_append, List.forall_mem_cons, List.not_mem_nil, false_implies, implies_true, and_true, BE.den, Go.Sx.compare, IE.den, val]
  simp only [decide_eq_true_eq, decide_eq_false_iff_not, beq_eq_false_iff_ne, bne_iff_ne, ne_eq]
  omega

theorem kLow_ok {k s d : Int} (h : k < 0) : asmOK (val k s d) kLow := by
  simp only [asmOK, kLow, List.forall_mem_cons, List.not_mem_nil, false_implies, implies_true, and_true, BE.den, Go.Sx.compare, IE.den, val]
  simp only [decide_eq_true_eq, decide_eq_false_iff_not, beq_eq_false_iff_ne, bne_iff_ne, ne_eq]
  omega

theorem kHigh_ok {k s d : Int} (h : 26 < k) : asmOK (val k s d) kHigh := by
  simp only [asmOK, kHigh, List.forall_mem_cons, List.not_mem_nil, false_implies, implies_true, and_true, BE.den, Go.Sx.compare, IE.den, val]
  simp only [decide_eq_true_eq, decide_eq_false_iff_not, beq_eq_false_iff_ne, bne_iff_ne, ne_eq]
  omega

theorem sideBad_ok {k s d : Int} (h : ¬ (d = 0 ∨ d = 1)) : asmOK (val k s d) sideBad := by
  simp only [asmOK, sideBad, List.forall_mem_cons, List.not_mem_nil, false_implies, implies_true, and_true, BE.den, Go.Sx.compare, IE.den, val]
  simp only [beq_eq_false_iff_ne, bne_iff_ne, ne_eq]
  omega

theorem nil_asm {ρ : Val} : asmOK ρ [] := fun _ h => by cases h

theorem walk (k s d : Int) (W : World) (hG : GlobOK E4 W.heap.size W) : Calls Tryz.prog 3 #[.int .i64 k, .int .i64 s, .int .i64 d] W fun e w' => e = .returned (.bool true) ∧ Below W.heap.size W w' := by
  have asm_ : ∀ {asm : List (BE × Bool)}, asmOK (val k s d) asm → asmOK (val k s d) asm := fun h => h
  have closed : ∀ (x : Int), (int x).D (fun _ => none) (val k s d) (.int .i64 x) := fun _ => rfl
  have vs : (v 0).D (fun _ => none) (val k s d) (.int .i64 s) := rfl
  have vk : (v 1).D (fun _ => none) (val k s d) (.int .i64 k) := rfl
  have vd : (v 2).D (fun _ => none) (val k s d) (.int .i64 d) := rfl
  by_cases hd : d = 0 ∨ d = 1
  · by_cases hk : 1 ≤ k ∧ k ≤ 26
    · by_cases hs : 1 ≤ s ∧ s ≤ 2147483647
      · have hb := bnds_ok (k := k) (d := d) hs
        have hp : s.tmod 2 = 0 ∨ s.tmod 2 = 1 := by
          have h1 := Int.tmod_eq_emod_of_nonneg (a := s) (b := 2) (by omega)
          omega
        have hks : k = 1 ∨ k = 2 ∨ k = 3 ∨ k = 4 ∨ k = 5 ∨ k = 6 ∨ k = 7 ∨ k = 8 ∨ k = 9 ∨ k = 10 ∨ k = 11 ∨ k = 12 ∨ k = 13 ∨ k = 14 ∨ k = 15 ∨ k = 16 ∨ k = 17 ∨ k = 18 ∨ k = 19 ∨ k = 20 ∨ k = 21 ∨ k = 22 ∨ k = 23 ∨ k = 24 ∨ k = 25 ∨ k = 26 := by omega
        rcases hd with rfl | rfl
        · rcases hks with rfl | rfl | rfl | rfl | rfl | rfl | rfl | rfl | rfl | rfl | rfl | rfl | rfl | rfl | rfl | rfl | rfl | rfl | rfl | rfl | rfl | rfl | rfl | rfl | rfl | rfl
          · rcases hp with hp | hp
            · exact goes run_1_0_0 hG (par_ok hp (.inl rfl)) hb (.cons (closed _) (.cons vs (.cons (closed _) .nil)))
            · exact goes run_1_0_1 hG (par_ok hp (.inr rfl)) hb (.cons (closed _) (.cons vs (.cons (closed _) .nil)))
          · exact goes run_2_0 hG nil_facts hb (.cons (closed _) (.cons vs (.cons (closed _) .nil)))
          · rcases hp with hp | hp
            · exact goes run_3_0_0 hG (par_ok hp (.inl rfl)) hb (.cons (closed _) (.cons vs (.cons (closed _) .nil)))
            · exact goes run_3_0_1 hG (par_ok hp (.inr rfl)) hb (.cons (closed _) (.cons vs (.cons (closed _) .nil)))
          · rcases hp with hp | hp
            · exact goes run_4_0_0 hG (par_ok hp (.inl rfl)) hb (.cons (closed _) (.cons vs (.cons (closed _) .nil)))
            · exact goes run_4_0_1 hG (par_ok hp (.inr rfl)) hb (.cons (closed _) (.cons vs (.cons (closed _) .nil)))
          · exact goes run_5_0 hG nil_facts hb (.cons (closed _) (.cons vs (.cons (closed _) .nil)))
          · exact goes run_6_0 hG nil_facts hb (.cons (closed _) (.cons vs (.cons (closed _) .nil)))
          · exact goes run_7_0 hG nil_facts hb (.cons (closed _) (.cons vs (.cons (closed _) .nil)))
          · exact goes run_8_0 hG nil_facts hb (.cons (closed _) (.cons vs (.cons (closed _) .nil)))
          · rcases hp with hp | hp
            · exact goes run_9_0_0 hG (par_ok hp (.inl rfl)) hb (.cons (closed _) (.cons vs (.cons (closed _) .nil)))
            · exact goes run_9_0_1 hG (par_ok hp (.inr rfl)) hb (.cons (closed _) (.cons vs (.cons (closed _) .nil)))
          · rcases hp with hp | hp
            · exact goes run_10_0_0 hG (par_ok hp (.inl rfl)) hb (.cons (closed _) (.cons vs (.cons (closed _) .nil)))
            · exact goes run_10_0_1 hG (par_ok hp (.inr rfl)) hb (.cons (closed _) (.cons vs (.cons (closed _) .nil)))
          · rcases hp with hp | hp
            · exact goes run_11_0_0 hG (par_ok hp (.inl rfl)) hb (.cons (closed _) (.cons vs (.cons (closed _) .nil)))
            · exact goes run_11_0_1 hG (par_ok hp (.inr rfl)) hb (.cons (closed _) (.cons vs (.cons (closed _) .nil)))
          · rcases hp with hp | hp
            · exact goes run_12_0_0 hG (par_ok hp (.inl rfl)) hb (.cons (closed _) (.cons vs (.cons (closed _) .nil)))
            · exact goes run_12_0_1 hG (par_ok hp (.inr rfl)) hb (.cons (closed _) (.cons vs (.cons (closed _) .nil)))
          · exact goes run_13_0 hG nil_facts hb (.cons (closed _) (.cons vs (.cons (closed _) .nil)))
          · rcases hp with hp | hp
            · exact goes run_14_0_0 hG (par_ok hp (.inl rfl)) hb (.cons (closed _) (.cons vs (.cons (closed _) .nil)))
            · exact goes run_14_0_1 hG (par_ok hp (.inr rfl)) hb (.cons (closed _) (.cons vs (.cons (closed _) .nil)))
          · exact goes run_15_0 hG nil_facts hb (.cons (closed _) (.cons vs (.cons (closed _) .nil)))
          · rcases hp with hp | hp
            · exact goes run_16_0_0 hG (par_ok hp (.inl rfl)) hb (.cons (closed _) (.cons vs (.cons (closed _) .nil)))
            · exact goes run_16_0_1 hG (par_ok hp (.inr rfl)) hb (.cons (closed _) (.cons vs (.cons (closed _) .nil)))
          · rcases hp with hp | hp
            · exact goes run_17_0_0 hG (par_ok hp (.inl rfl)) hb (.cons (closed _) (.cons vs (.cons (closed _) .nil)))
            · exact goes run_17_0_1 hG (par_ok hp (.inr rfl)) hb (.cons (closed _) (.cons vs (.cons (closed _) .nil)))
          · rcases hp with hp | hp
            · exact goes run_18_0_0 hG (par_ok hp (.inl rfl)) hb (.cons (closed _) (.cons vs (.cons (closed _) .nil)))
            · exact goes run_18_0_1 hG (par_ok hp (.inr rfl)) hb (.cons (closed _) (.cons vs (.cons (closed _) .nil)))
          · rcases hp with hp | hp
            · exact goes run_19_0_0 hG (par_ok hp (.inl rfl)) hb (.cons (closed _) (.cons vs (.cons (closed _) .nil)))
            · exact goes run_19_0_1 hG (par_ok hp (.inr rfl)) hb (.cons (closed _) (.cons vs (.cons (closed _) .nil)))
          · rcases hp with hp | hp
            · exact goes run_20_0_0 hG (par_ok hp (.inl rfl)) hb (.cons (closed _) (.cons vs (.cons (closed _) .nil)))
            · exact goes run_20_0_1 hG (par_ok hp (.inr rfl)) hb (.cons (closed _) (.cons vs (.cons (closed _) .nil)))
          · rcases hp with hp | hp
            · exact goes run_21_0_0 hG (par_ok hp (.inl rfl)) hb (.cons (closed _) (.cons vs (.cons (closed _) .nil)))
            · exact goes run_21_0_1 hG (par_ok hp (.inr rfl)) hb (.cons (closed _) (.cons vs (.cons (closed _) .nil)))
          · exact goes run_22_0 hG nil_facts hb (.cons (closed _) (.cons vs (.cons (closed _) .nil)))
          · exact goes run_23_0 hG nil_facts hb (.cons (closed _) (.cons vs (.cons (closed _) .nil)))
          · exact goes run_24_0 hG nil_facts hb (.cons (closed _) (.cons vs (.cons (closed _) .nil)))
          · exact goes run_25_0 hG nil_facts hb (.cons (closed _) (.cons vs (.cons (closed _) .nil)))
          · exact goes run_26_0 hG nil_facts hb (.cons (closed _) (.cons vs (.cons (closed _) .nil)))
        · rcases hks with rfl | rfl | rfl | rfl | rfl | rfl | rfl | rfl | rfl | rfl | rfl | rfl | rfl | rfl | rfl | rfl | rfl | rfl | rfl | rfl | rfl | rfl | rfl | rfl | rfl | rfl
          · rcases hp with hp | hp
            · exact goes run_1_1_0 hG (par_ok hp (.inl rfl)) hb (.cons (closed _) (.cons vs (.cons (closed _) .nil)))
            · exact goes run_1_1_1 hG (par_ok hp (.inr rfl)) hb (.cons (closed _) (.cons vs (.cons (closed _) .nil)))
          · exact goes run_2_1 hG nil_facts hb (.cons (closed _) (.cons vs (.cons (closed _) .nil)))
          · rcases hp with hp | hp
            · exact goes run_3_1_0 hG (par_ok hp (.inl rfl)) hb (.cons (closed _) (.cons vs (.cons (closed _) .nil)))
            · exact goes run_3_1_1 hG (par_ok hp (.inr rfl)) hb (.cons (closed _) (.cons vs (.cons (closed _) .nil)))
          · rcases hp with hp | hp
            · exact goes run_4_1_0 hG (par_ok hp (.inl rfl)) hb (.cons (closed _) (.cons vs (.cons (closed _) .nil)))
            · exact goes run_4_1_1 hG (par_ok hp (.inr rfl)) hb (.cons (closed _) (.cons vs (.cons (closed _) .nil)))
          · exact goes run_5_1 hG nil_facts hb (.cons (closed _) (.cons vs (.cons (closed _) .nil)))
          · exact goes run_6_1 hG nil_facts hb (.cons (closed _) (.cons vs (.cons (closed _) .nil)))
          · exact goes run_7_1 hG nil_facts hb (.cons (closed _) (.cons vs (.cons (closed _) .nil)))
          · exact goes run_8_1 hG nil_facts hb (.cons (closed _) (.cons vs (.cons (closed _) .nil)))
          · rcases hp with hp | hp
            · exact goes run_9_1_0 hG (par_ok hp (.inl rfl)) hb (.cons (closed _) (.cons vs (.cons (closed _) .nil)))
            · exact goes run_9_1_1 hG (par_ok hp (.inr rfl)) hb (.cons (closed _) (.cons vs (.cons (closed _) .nil)))
          · rcases hp with hp | hp
            · exact goes run_10_1_0 hG (par_ok hp (.inl rfl)) hb (.cons (closed _) (.cons vs (.cons (closed _) .nil)))
            · exact goes run_10_1_1 hG (par_ok hp (.inr rfl)) hb (.cons (closed _) (.cons vs (.cons (closed _) .nil)))
          · rcases hp with hp | hp
            · exact goes run_11_1_0 hG (par_ok hp (.inl rfl)) hb (.cons (closed _) (.cons vs (.cons (closed _) .nil)))
            · exact goes run_11_1_1 hG (par_ok hp (.inr rfl)) hb (.cons (closed _) (.cons vs (.cons (closed _) .nil)))
          · rcases hp with hp | hp
            · exact goes run_12_1_0 hG (par_ok hp (.inl rfl)) hb (.cons (closed _) (.cons vs (.cons (closed _) .nil)))
            · exact goes run_12_1_1 hG (par_ok hp (.inr rfl)) hb (.cons (closed _) (.cons vs (.cons (closed _) .nil)))
          · exact goes run_13_1 hG nil_facts hb (.cons (closed _) (.cons vs (.cons (closed _) .nil)))
          · rcases hp with hp | hp
            · exact goes run_14_1_0 hG (par_ok hp (.inl rfl)) hb (.cons (closed _) (.cons vs (.cons (closed _) .nil)))
            · exact goes run_14_1_1 hG (par_ok hp (.inr rfl)) hb (.cons (closed _) (.cons vs (.cons (closed _) .nil)))
          · exact goes run_15_1 hG nil_facts hb (.cons (closed _) (.cons vs (.cons (closed _) .nil)))
          · rcases hp with hp | hp
            · exact goes run_16_1_0 hG (par_ok hp (.inl rfl)) hb (.cons (closed _) (.cons vs (.cons (closed _) .nil)))
            · exact goes run_16_1_1 hG (par_ok hp (.inr rfl)) hb (.cons (closed _) (.cons vs (.cons (closed _) .nil)))
          · rcases hp with hp | hp
            · exact goes run_17_1_0 hG (par_ok hp (.inl rfl)) hb (.cons (closed _) (.cons vs (.cons (closed _) .nil)))
            · exact goes run_17_1_1 hG (par_ok hp (.inr rfl)) hb (.cons (closed _) (.cons vs (.cons (closed _) .nil)))
          · rcases hp with hp | hp
            · exact goes run_18_1_0 hG (par_ok hp (.inl rfl)) hb (.cons (closed _) (.cons vs (.cons (closed _) .nil)))
            · exact goes run_18_1_1 hG (par_ok hp (.inr rfl)) hb (.cons (closed _) (.cons vs (.cons (closed _) .nil)))
          · rcases hp with hp | hp
            · exact goes run_19_1_0 hG (par_ok hp (.inl rfl)) hb (.cons (closed _) (.cons vs (.cons (closed _) .nil)))
            · exact goes run_19_1_1 hG (par_ok hp (.inr rfl)) hb (.cons (closed _) (.cons vs (.cons (closed _) .nil)))
          · rcases hp with hp | hp
            · exact goes run_20_1_0 hG (par_ok hp (.inl rfl)) hb (.cons (closed _) (.cons vs (.cons (closed _) .nil)))
            · exact goes run_20_1_1 hG (par_ok hp (.inr rfl)) hb (.cons (closed _) (.cons vs (.cons (closed _) .nil)))
          · rcases hp with hp | hp
            · exact goes run_21_1_0 hG (par_ok hp (.inl rfl)) hb (.cons (closed _) (.cons vs (.cons (closed _) .nil)))
            · exact goes run_21_1_1 hG (par_ok hp (.inr rfl)) hb (.cons (closed _) (.cons vs (.cons (closed _) .nil)))
          · exact goes run_22_1 hG nil_facts hb (.cons (closed _) (.cons vs (.cons (closed _) .nil)))
          · exact goes run_23_1 hG nil_facts hb (.cons (closed _) (.cons vs (.cons (closed _) .nil)))
          · exact goes run_24_1 hG nil_facts hb (.cons (closed _) (.cons vs (.cons (closed _) .nil)))
          · exact goes run_25_1 hG nil_facts hb (.cons (closed _) (.cons vs (.cons (closed _) .nil)))
          · exact goes run_26_1 hG nil_facts hb (.cons (closed _) (.cons vs (.cons (closed _) .nil)))
      · by_cases hl : s < 1
        · rcases hd with rfl | rfl
          · exact goes bad_slow0 hG nil_facts (sLow_ok hk hl) (.cons vk (.cons vs (.cons (closed _) .nil)))
          · exact goes bad_slow1 hG nil_facts (sLow_ok hk hl) (.cons vk (.cons vs (.cons (closed _) .nil)))
        · have hh : 2147483647 < s := by omega
          rcases hd with rfl | rfl
          · exact goes bad_shigh0 hG nil_facts (sHigh_ok hk hh) (.cons vk (.cons vs (.cons (closed _) .nil)))
          · exact goes bad_shigh1 hG nil_facts (sHigh_ok hk hh) (.cons vk (.cons vs (.cons (closed _) .nil)))
    · have h3 : k = 0 ∨ k < 0 ∨ 26 < k := by omega
      rcases h3 with rfl | h3 | h3
      · rcases hd with rfl | rfl
        · exact goes bad_zero0 hG nil_facts nil_asm (.cons (closed _) (.cons vs (.cons (closed _) .nil)))
        · exact goes bad_zero1 hG nil_facts nil_asm (.cons (closed _) (.cons vs (.cons (closed _) .nil)))
      · rcases hd with rfl | rfl
        · exact goes bad_low0 hG nil_facts (kLow_ok h3) (.cons vk (.cons vs (.cons (closed _) .nil)))
        · exact goes bad_low1 hG nil_facts (kLow_ok h3) (.cons vk (.cons vs (.cons (closed _) .nil)))
      · rcases hd with rfl | rfl
        · exact goes bad_high0 hG nil_facts (kHigh_ok h3) (.cons vk (.cons vs (.cons (closed _) .nil)))
        · exact goes bad_high1 hG nil_facts (kHigh_ok h3) (.cons vk (.cons vs (.cons (closed _) .nil)))
  · exact goes bad_side hG nil_facts (sideBad_ok hd) (.cons vk (.cons vs (.cons vd .nil)))
end Go.Proofs.YtmggogbpepghkacGreatDoor
