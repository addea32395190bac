/- FateFault of the reference: the fault's code as one Lean function of the four fields; no conditions. -/
import Derived.Test.YtknhjeabldlimaaDoorFate1
namespace Go.Proofs.YtknhjeabldlimaaDoor.Fate
open Go.RowKit Go.Proofs.YtknhjeabldlimaaDoorW.PrintWords Go.Proofs.YtknhjeabldlimaaDoorW.PrintLast Go.Proofs.YtknhjeabldlimaaDoorW.PrintMore Go.Proofs.YtknhjeabldlimaaDoor.QD Go.Proofs.YtknhjeabldlimaaDoor.Big
set_option linter.unusedVariables false
set_option linter.unusedSimpArgs false
def inb (x lo hi : Int) : Bool := decide (lo ≤ x ∧ x ≤ hi)
theorem inb_true {x lo hi : Int} (h : lo ≤ x ∧ x ≤ hi) : inb x lo hi = true := decide_eq_true h
theorem inb_false {x lo hi : Int} (h : ¬ (lo ≤ x ∧ x ≤ hi)) : inb x lo hi = false := decide_eq_false h
theorem l1In_pure (x lo hi : Int) (w : World) : Calls Tryd.prog 37 #[.int .i64 x, .int .i64 lo, .int .i64 hi] w fun e w' => e = .returned (.bool (inb x lo hi)) ∧ w = w' := by
  by_cases h : lo ≤ x
  · have h1 : decide (lo ≤ x) = true := decide_eq_true h
    have h2 : inb x lo hi = decide (x ≤ hi) := by unfold inb; simp [h]
    rw [h2]
    clear h2
    go_enter Tryd.func37, Tryd.ntmps37
    go_wp2
    go_ret
    exact ⟨rfl, rfl⟩
  · have h1 : decide (lo ≤ x) = false := decide_eq_false h
    have h2 : inb x lo hi = false := by unfold inb; simp [h]
    rw [h2]
    clear h2
    go_enter Tryd.func37, Tryd.ntmps37
    go_wp2
    go_ret
    exact ⟨rfl, rfl⟩
def ff (k d a b : Int) : Int := if ¬ (0 ≤ k ∧ k ≤ 3) ∨ (k = 0 ∧ d ≠ 0) ∨ (k ≠ 3 ∧ (a ≠ 0 ∨ b ≠ 0)) then 1 else if ¬ (0 ≤ d ∧ d ≤ 6) ∨ (k = 3 ∧ (¬ (0 ≤ a ∧ a ≤ 1279) ∨ ¬ (1 ≤ b ∧ b ≤ 65535))) then 3 else 0
theorem blk_one {W : World} {g t i : Nat} {cs : List Value} {u : Value} (hb : W.heap[g]? = some (.cells cs.toArray t (0, 0))) (hs : cs[i]? = some u) : W.cell? ⟨g, i, none⟩ = some u := by
  rw [blk_cell hb i]
  simpa using hs
theorem size27 : (Tryd.prog.info? 27).map (·.size) = some 4 := by kernel_rfl

set_option maxHeartbeats 1000000 in
set_option maxRecDepth 100000 in
theorem ff_case1 (k : Int) (d : Int) (a : Int) (b : Int) (w : World) (h1 : inb k 0 3 = false) (h2 : (k == 3) = false) : Calls Tryd.prog 22 #[.agg #[.int .i64 k, .int .i64 d, .int .i64 a, .int .i64 b]] w fun e w' => e = .returned (.int .i64 1) ∧ Below w.heap.size w w' := by
  go_enter Tryd.func22, Tryd.ntmps22
  go_wp2_with (go_at_call 37; (refine (l1In_pure _ _ _ _).mono ?_); rintro e w' ⟨rfl, rfl⟩)
  go_ret
  exact ⟨rfl, (Below.refl _ _).alloc (Nat.le_refl _) _⟩

set_option maxHeartbeats 1000000 in
set_option maxRecDepth 100000 in
theorem ff_case2 (d : Int) (a : Int) (b : Int) (w : World) (h1 : inb 0 0 3 = true) (h2 : (d != 0) = true) : Calls Tryd.prog 22 #[.agg #[.int .i64 0, .int .i64 d, .int .i64 a, .int .i64 b]] w fun e w' => e = .returned (.int .i64 1) ∧ Below w.heap.size w w' := by
  go_enter Tryd.func22, Tryd.ntmps22
  go_wp2_with (go_at_call 37; (refine (l1In_pure _ _ _ _).mono ?_); rintro e w' ⟨rfl, rfl⟩)
  go_ret
  exact ⟨rfl, (Below.refl _ _).alloc (Nat.le_refl _) _⟩

set_option maxHeartbeats 1000000 in
set_option maxRecDepth 100000 in
theorem ff_case3 (a : Int) (b : Int) (w : World) (h1 : inb 0 0 3 = true) (h2 : (a != 0) = true) : Calls Tryd.prog 22 #[.agg #[.int .i64 0, .int .i64 0, .int .i64 a, .int .i64 b]] w fun e w' => e = .returned (.int .i64 1) ∧ Below w.heap.size w w' := by
  go_enter Tryd.func22, Tryd.ntmps22
  go_wp2_with (go_at_call 37; (refine (l1In_pure _ _ _ _).mono ?_); rintro e w' ⟨rfl, rfl⟩)
  go_ret
  exact ⟨rfl, (Below.refl _ _).alloc (Nat.le_refl _) _⟩

set_option maxHeartbeats 1000000 in
set_option maxRecDepth 100000 in
theorem ff_case4 (b : Int) (w : World) (h1 : inb 0 0 3 = true) (h2 : (b != 0) = true) : Calls Tryd.prog 22 #[.agg #[.int .i64 0, .int .i64 0, .int .i64 0, .int .i64 b]] w fun e w' => e = .returned (.int .i64 1) ∧ Below w.heap.size w w' := by
  go_enter Tryd.func22, Tryd.ntmps22
  go_wp2_with (go_at_call 37; (refine (l1In_pure _ _ _ _).mono ?_); rintro e w' ⟨rfl, rfl⟩)
  go_ret
  exact ⟨rfl, (Below.refl _ _).alloc (Nat.le_refl _) _⟩

set_option maxHeartbeats 1000000 in
set_option maxRecDepth 100000 in
theorem ff_case5 (w : World) (h1 : inb 0 0 3 = true) (h2 : inb 0 0 6 = true) : Calls Tryd.prog 22 #[.agg #[.int .i64 0, .int .i64 0, .int .i64 0, .int .i64 0]] w fun e w' => e = .returned (.int .i64 0) ∧ Below w.heap.size w w' := by
  go_enter Tryd.func22, Tryd.ntmps22
  go_wp2_with (go_at_call 37; (refine (l1In_pure _ _ _ _).mono ?_); rintro e w' ⟨rfl, rfl⟩)
  go_ret
  exact ⟨rfl, (Below.refl _ _).alloc (Nat.le_refl _) _⟩

set_option maxHeartbeats 1000000 in
set_option maxRecDepth 100000 in
theorem ff_case6 (d : Int) (a : Int) (b : Int) (w : World) (h1 : inb 1 0 3 = true) (h2 : (a != 0) = true) : Calls Tryd.prog 22 #[.agg #[.int .i64 1, .int .i64 d, .int .i64 a, .int .i64 b]] w fun e w' => e = .returned (.int .i64 1) ∧ Below w.heap.size w w' := by
  go_enter Tryd.func22, Tryd.ntmps22
  go_wp2_with (go_at_call 37; (refine (l1In_pure _ _ _ _).mono ?_); rintro e w' ⟨rfl, rfl⟩)
  go_ret
  exact ⟨rfl, (Below.refl _ _).alloc (Nat.le_refl _) _⟩

set_option maxHeartbeats 1000000 in
set_option maxRecDepth 100000 in
theorem ff_case7 (d : Int) (b : Int) (w : World) (h1 : inb 1 0 3 = true) (h2 : (b != 0) = true) : Calls Tryd.prog 22 #[.agg #[.int .i64 1, .int .i64 d, .int .i64 0, .int .i64 b]] w fun e w' => e = .returned (.int .i64 1) ∧ Below w.heap.size w w' := by
  go_enter Tryd.func22, Tryd.ntmps22
  go_wp2_with (go_at_call 37; (refine (l1In_pure _ _ _ _).mono ?_); rintro e w' ⟨rfl, rfl⟩)
  go_ret
  exact ⟨rfl, (Below.refl _ _).alloc (Nat.le_refl _) _⟩

set_option maxHeartbeats 1000000 in
set_option maxRecDepth 100000 in
theorem ff_case8 (d : Int) (w : World) (h1 : inb 1 0 3 = true) (h2 : inb d 0 6 = true) : Calls Tryd.prog 22 #[.agg #[.int .i64 1, .int .i64 d, .int .i64 0, .int .i64 0]] w fun e w' => e = .returned (.int .i64 0) ∧ Below w.heap.size w w' := by
  go_enter Tryd.func22, Tryd.ntmps22
  go_wp2_with (go_at_call 37; (refine (l1In_pure _ _ _ _).mono ?_); rintro e w' ⟨rfl, rfl⟩)
  go_ret
  exact ⟨rfl, (Below.refl _ _).alloc (Nat.le_refl _) _⟩

set_option maxHeartbeats 1000000 in
set_option maxRecDepth 100000 in
theorem ff_case9 (d : Int) (w : World) (h1 : inb 1 0 3 = true) (h2 : inb d 0 6 = false) : Calls Tryd.prog 22 #[.agg #[.int .i64 1, .int .i64 d, .int .i64 0, .int .i64 0]] w fun e w' => e = .returned (.int .i64 3) ∧ Below w.heap.size w w' := by
  go_enter Tryd.func22, Tryd.ntmps22
  go_wp2_with (go_at_call 37; (refine (l1In_pure _ _ _ _).mono ?_); rintro e w' ⟨rfl, rfl⟩)
  go_ret
  exact ⟨rfl, (Below.refl _ _).alloc (Nat.le_refl _) _⟩

set_option maxHeartbeats 1000000 in
set_option maxRecDepth 100000 in
theorem ff_case10 (d : Int) (a : Int) (b : Int) (w : World) (h1 : inb 2 0 3 = true) (h2 : (a != 0) = true) : Calls Tryd.prog 22 #[.agg #[.int .i64 2, .int .i64 d, .int .i64 a, .int .i64 b]] w fun e w' => e = .returned (.int .i64 1) ∧ Below w.heap.size w w' := by
  go_enter Tryd.func22, Tryd.ntmps22
  go_wp2_with (go_at_call 37; (refine (l1In_pure _ _ _ _).mono ?_); rintro e w' ⟨rfl, rfl⟩)
  go_ret
  exact ⟨rfl, (Below.refl _ _).alloc (Nat.le_refl _) _⟩

set_option maxHeartbeats 1000000 in
set_option maxRecDepth 100000 in
theorem ff_case11 (d : Int) (b : Int) (w : World) (h1 : inb 2 0 3 = true) (h2 : (b != 0) = true) : Calls Tryd.prog 22 #[.agg #[.int .i64 2, .int .i64 d, .int .i64 0, .int .i64 b]] w fun e w' => e = .returned (.int .i64 1) ∧ Below w.heap.size w w' := by
  go_enter Tryd.func22, Tryd.ntmps22
  go_wp2_with (go_at_call 37; (refine (l1In_pure _ _ _ _).mono ?_); rintro e w' ⟨rfl, rfl⟩)
  go_ret
  exact ⟨rfl, (Below.refl _ _).alloc (Nat.le_refl _) _⟩

set_option maxHeartbeats 1000000 in
set_option maxRecDepth 100000 in
theorem ff_case12 (d : Int) (w : World) (h1 : inb 2 0 3 = true) (h2 : inb d 0 6 = true) : Calls Tryd.prog 22 #[.agg #[.int .i64 2, .int .i64 d, .int .i64 0, .int .i64 0]] w fun e w' => e = .returned (.int .i64 0) ∧ Below w.heap.size w w' := by
  go_enter Tryd.func22, Tryd.ntmps22
  go_wp2_with (go_at_call 37; (refine (l1In_pure _ _ _ _).mono ?_); rintro e w' ⟨rfl, rfl⟩)
  go_ret
  exact ⟨rfl, (Below.refl _ _).alloc (Nat.le_refl _) _⟩

set_option maxHeartbeats 1000000 in
set_option maxRecDepth 100000 in
theorem ff_case13 (d : Int) (w : World) (h1 : inb 2 0 3 = true) (h2 : inb d 0 6 = false) : Calls Tryd.prog 22 #[.agg #[.int .i64 2, .int .i64 d, .int .i64 0, .int .i64 0]] w fun e w' => e = .returned (.int .i64 3) ∧ Below w.heap.size w w' := by
  go_enter Tryd.func22, Tryd.ntmps22
  go_wp2_with (go_at_call 37; (refine (l1In_pure _ _ _ _).mono ?_); rintro e w' ⟨rfl, rfl⟩)
  go_ret
  exact ⟨rfl, (Below.refl _ _).alloc (Nat.le_refl _) _⟩

set_option maxHeartbeats 1000000 in
set_option maxRecDepth 100000 in
theorem ff_case14 (d : Int) (a : Int) (b : Int) (w : World) (h1 : inb 3 0 3 = true) (h2 : inb d 0 6 = false) : Calls Tryd.prog 22 #[.agg #[.int .i64 3, .int .i64 d, .int .i64 a, .int .i64 b]] w fun e w' => e = .returned (.int .i64 3) ∧ Below w.heap.size w w' := by
  go_enter Tryd.func22, Tryd.ntmps22
  go_wp2_with (go_at_call 37; (refine (l1In_pure _ _ _ _).mono ?_); rintro e w' ⟨rfl, rfl⟩)
  go_ret
  exact ⟨rfl, (Below.refl _ _).alloc (Nat.le_refl _) _⟩

set_option maxHeartbeats 1000000 in
set_option maxRecDepth 100000 in
theorem ff_case15 (d : Int) (a : Int) (b : Int) (w : World) (h1 : inb 3 0 3 = true) (h2 : inb d 0 6 = true) (h3 : inb a 0 1279 = false) : Calls Tryd.prog 22 #[.agg #[.int .i64 3, .int .i64 d, .int .i64 a, .int .i64 b]] w fun e w' => e = .returned (.int .i64 3) ∧ Below w.heap.size w w' := by
  go_enter Tryd.func22, Tryd.ntmps22
  go_wp2_with (go_at_call 37; (refine (l1In_pure _ _ _ _).mono ?_); rintro e w' ⟨rfl, rfl⟩)
  go_ret
  exact ⟨rfl, (Below.refl _ _).alloc (Nat.le_refl _) _⟩

set_option maxHeartbeats 1000000 in
set_option maxRecDepth 100000 in
theorem ff_case16 (d : Int) (a : Int) (b : Int) (w : World) (h1 : inb 3 0 3 = true) (h2 : inb d 0 6 = true) (h3 : inb a 0 1279 = true) (h4 : inb b 1 65535 = false) : Calls Tryd.prog 22 #[.agg #[.int .i64 3, .int .i64 d, .int .i64 a, .int .i64 b]] w fun e w' => e = .returned (.int .i64 3) ∧ Below w.heap.size w w' := by
  go_enter Tryd.func22, Tryd.ntmps22
  go_wp2_with (go_at_call 37; (refine (l1In_pure _ _ _ _).mono ?_); rintro e w' ⟨rfl, rfl⟩)
  go_ret
  exact ⟨rfl, (Below.refl _ _).alloc (Nat.le_refl _) _⟩

set_option maxHeartbeats 1000000 in
set_option maxRecDepth 100000 in
theorem ff_case17 (d : Int) (a : Int) (b : Int) (w : World) (h1 : inb 3 0 3 = true) (h2 : inb d 0 6 = true) (h3 : inb a 0 1279 = true) (h4 : inb b 1 65535 = true) : Calls Tryd.prog 22 #[.agg #[.int .i64 3, .int .i64 d, .int .i64 a, .int .i64 b]] w fun e w' => e = .returned (.int .i64 0) ∧ Below w.heap.size w w' := by
  go_enter Tryd.func22, Tryd.ntmps22
  go_wp2_with (go_at_call 37; (refine (l1In_pure _ _ _ _).mono ?_); rintro e w' ⟨rfl, rfl⟩)
  go_ret
  exact ⟨rfl, (Below.refl _ _).alloc (Nat.le_refl _) _⟩

end Go.Proofs.YtknhjeabldlimaaDoor.Fate
