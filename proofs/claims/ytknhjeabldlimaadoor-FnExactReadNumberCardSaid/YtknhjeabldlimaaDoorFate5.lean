/- The fault of a fate, program and reference, at all four numbers: one Lean function; no conditions. -/
import Derived.Test.YtknhjeabldlimaaDoorFate4
import Derived.Test.YtknhjeabldlimaaDoorQFx1
namespace Go.Proofs.YtknhjeabldlimaaDoor.Fate
open Go.RowKit Go.Proofs.YtknhjeabldlimaaDoorW.PrintWords Go.Proofs.YtknhjeabldlimaaDoorW.PrintLast Go.Proofs.YtknhjeabldlimaaDoorW.PrintMore Go.Proofs.YtknhjeabldlimaaDoor.QF Go.Proofs.YtknhjeabldlimaaDoor.Big
set_option linter.unusedVariables false
set_option linter.unusedSimpArgs false
theorem inR (a lo hi : Int) : QF.impl_inRange.f a lo hi = some (inb a lo hi) := by
  unfold QF.impl_inRange.f inb
  by_cases h : lo ≤ a <;> simp [h]
theorem codeIf_f (b : Bool) (c : Int) : QF.impl_codeIf.f b c = some (if b = true then c else 0) := by
  unfold QF.impl_codeIf.f
  cases b <;> rfl
theorem first2 (a b : Int) : QF.impl_first.f 3 [a, b] = some (if a = 0 then b else a) := by
  unfold QF.impl_first.f
  simp only [List.length_cons, List.length_nil]
  by_cases h : a = 0
  · subst h
    by_cases h2 : b = 0
    · subst h2; simp [impl_first.l0, rd, wrap64]
    · simp [impl_first.l0, rd, wrap64, h2]
  · simp [impl_first.l0, rd, wrap64, h]
theorem j1_eq (x3 x4 : Bool) (k d a b : Int) : impl_FateFault.j1 4 x3 x4 k d a b = some (if x3 = true ∨ ¬ (0 ≤ k ∧ k ≤ 3) then 1 else if x4 = true then 3 else 0) := by
  unfold impl_FateFault.j1
  simp only [inR, Option.bind_some, codeIf_f, first2]
  by_cases h : 0 ≤ k ∧ k ≤ 3
  · rw [inb_true h]
    cases x3 <;> cases x4 <;> simp [h]
  · rw [inb_false h]
    cases x3 <;> cases x4 <;> simp [h]
theorem j0_eq (x3 : Bool) (k d a b : Int) : impl_FateFault.j0 5 x3 k d a b = some (if x3 = true ∨ ¬ (0 ≤ k ∧ k ≤ 3) then 1 else if ¬ (0 ≤ d ∧ d ≤ 6) ∨ (k = 3 ∧ (¬ (0 ≤ a ∧ a ≤ 1279) ∨ ¬ (1 ≤ b ∧ b ≤ 65535))) then 3 else 0) := by
  unfold impl_FateFault.j0
  simp only [inR, Option.bind_some, j1_eq]
  by_cases h : 0 ≤ d ∧ d ≤ 6
  · rw [inb_true h, if_pos rfl]
    by_cases h3 : k = 3
    · rw [if_pos h3]
      by_cases ha : 0 ≤ a ∧ a ≤ 1279
      · rw [inb_true ha, if_pos rfl]
        by_cases hb : 1 ≤ b ∧ b ≤ 65535
        · rw [inb_true hb]; simp [h, h3, ha, hb]
        · rw [inb_false hb]; simp [h, h3, ha, hb]
      · rw [inb_false ha, if_neg (by decide)]; simp [h, h3, ha]
    · rw [if_neg h3]; simp [h, h3]
  · rw [inb_false h, if_neg (by decide)]; simp [h]
theorem implFault_eq (k d a b : Int) : impl_FateFault.f 5 k d a b = some (ff k d a b) := by
  unfold impl_FateFault.f ff
  simp only [j0_eq]
  by_cases h3 : k = 3
  · subst h3
    simp
  · by_cases ha : a = 0
    · by_cases hb : b = 0
      · by_cases hk : k = 0
        · subst hk ha hb
          by_cases hd : d = 0 <;> simp [hd]
        · simp [h3, ha, hb, hk]
      · simp [h3, ha, hb]
    · simp [h3, ha]
/-- FateFault of the program. -/
theorem implFault_any (k d a b : Int) (w : World) : Calls Tryd.prog 24 #[.agg #[.int .i64 k, .int .i64 d, .int .i64 a, .int .i64 b]] w fun e w' => e = .returned (.int .i64 (ff k d a b)) ∧ Below w.heap.size w w' :=
  impl_FateFault.calls 5 k d a b _ w (implFault_eq k d a b)
theorem eqB {x y : Int} (h : x = y) : (x == y) = true := by simp [h]
theorem neB {x y : Int} (h : x ≠ y) : (x != y) = true := by simp [h]
theorem neF {x y : Int} (h : x ≠ y) : (x == y) = false := by simp [h]
/-- FateFault of the reference. -/
theorem specFault_any (k d a b : Int) (w : World) : Calls Tryd.prog 22 #[.agg #[.int .i64 k, .int .i64 d, .int .i64 a, .int .i64 b]] w fun e w' => e = .returned (.int .i64 (ff k d a b)) ∧ Below w.heap.size w w' := by
  by_cases hk : 0 ≤ k ∧ k ≤ 3
  · obtain rfl | rfl | rfl | rfl : k = 0 ∨ k = 1 ∨ k = 2 ∨ k = 3 := by omega
    · by_cases hd : d = 0
      · subst hd
        by_cases ha : a = 0
        · subst ha
          by_cases hb : b = 0
          · subst hb
            have : ff 0 0 0 0 = 0 := by decide
            rw [this]; exact ff_case5 w (inb_true (by omega)) (inb_true (by omega))
          · have : ff 0 0 0 b = 1 := by unfold ff; simp [hb]
            rw [this]; exact ff_case4 b w (inb_true (by omega)) (neB hb)
        · have : ff 0 0 a b = 1 := by unfold ff; simp [ha]
          rw [this]; exact ff_case3 a b w (inb_true (by omega)) (neB ha)
      · have : ff 0 d a b = 1 := by unfold ff; simp [hd]
        rw [this]; exact ff_case2 d a b w (inb_true (by omega)) (neB hd)
    · by_cases ha : a = 0
      · subst ha
        by_cases hb : b = 0
        · subst hb
          by_cases hd : 0 ≤ d ∧ d ≤ 6
          · have : ff 1 d 0 0 = 0 := by unfold ff; simp [hd]
            rw [this]; exact ff_case8 d w (inb_true (by omega)) (inb_true hd)
          · have : ff 1 d 0 0 = 3 := by unfold ff; simp [hd]
            rw [this]; exact ff_case9 d w (inb_true (by omega)) (inb_false hd)
        · have : ff 1 d 0 b = 1 := by unfold ff; simp [hb]
          rw [this]; exact ff_case7 d b w (inb_true (by omega)) (neB hb)
      · have : ff 1 d a b = 1 := by unfold ff; simp [ha]
        rw [this]; exact ff_case6 d a b w (inb_true (by omega)) (neB ha)
    · by_cases ha : a = 0
      · subst ha
        by_cases hb : b = 0
        · subst hb
          by_cases hd : 0 ≤ d ∧ d ≤ 6
          · have : ff 2 d 0 0 = 0 := by unfold ff; simp [hd]
            rw [this]; exact ff_case12 d w (inb_true (by omega)) (inb_true hd)
          · have : ff 2 d 0 0 = 3 := by unfold ff; simp [hd]
            rw [this]; exact ff_case13 d w (inb_true (by omega)) (inb_false hd)
        · have : ff 2 d 0 b = 1 := by unfold ff; simp [hb]
          rw [this]; exact ff_case11 d b w (inb_true (by omega)) (neB hb)
      · have : ff 2 d a b = 1 := by unfold ff; simp [ha]
        rw [this]; exact ff_case10 d a b w (inb_true (by omega)) (neB ha)
    · by_cases hd : 0 ≤ d ∧ d ≤ 6
      · by_cases ha : 0 ≤ a ∧ a ≤ 1279
        · by_cases hb : 1 ≤ b ∧ b ≤ 65535
          · have : ff 3 d a b = 0 := by unfold ff; simp [hd, ha, hb]
            rw [this]; exact ff_case17 d a b w (inb_true (by omega)) (inb_true hd) (inb_true ha) (inb_true hb)
          · have : ff 3 d a b = 3 := by unfold ff; simp [hd, ha, hb]
            rw [this]; exact ff_case16 d a b w (inb_true (by omega)) (inb_true hd) (inb_true ha) (inb_false hb)
        · have : ff 3 d a b = 3 := by unfold ff; simp [hd, ha]
          rw [this]; exact ff_case15 d a b w (inb_true (by omega)) (inb_true hd) (inb_false ha)
      · have : ff 3 d a b = 3 := by unfold ff; simp [hd]
        rw [this]; exact ff_case14 d a b w (inb_true (by omega)) (inb_false hd)
  · have : ff k d a b = 1 := by unfold ff; rw [if_pos (Or.inl hk)]
    rw [this]; exact ff_case1 k d a b w (inb_false hk) (neF (by omega))
/-- The text of a fate. -/
def fateStr (k d a b : Int) : ByteArray := if k = 0 then sLost else if k = 1 then sComes ++ dec d else if k = 2 then sTwice ++ dec d else sTurned ++ dec d ++ sColon ++ dec a ++ sColon ++ dec b
theorem ff_zero {k d a b : Int} (h : ff k d a b = 0) : (0 ≤ k ∧ k ≤ 3) ∧ (0 ≤ d ∧ d ≤ 6) ∧ (k = 0 → d = 0) ∧ (k ≠ 3 → a = 0 ∧ b = 0) ∧ (k = 3 → 0 ≤ a ∧ a ≤ 1279 ∧ 1 ≤ b ∧ b ≤ 65535) := by
  unfold ff at h
  split at h
  · omega
  · split at h
    · omega
    · omega
theorem specText_any (k d a b : Int) (h : ff k d a b = 0) (w : World) : Calls Tryd.prog 23 #[.agg #[.int .i64 k, .int .i64 d, .int .i64 a, .int .i64 b]] w fun e w' => e = .returned (.string (fateStr k d a b)) ∧ Below w.heap.size w w' := by
  obtain ⟨hk, hd, h0, h1, h3⟩ := ff_zero h
  obtain ⟨dn, rfl⟩ : ∃ n : Nat, d = n := ⟨d.toNat, by omega⟩
  obtain rfl | rfl | rfl | rfl : k = 0 ∨ k = 1 ∨ k = 2 ∨ k = 3 := by omega
  · exact l22_lost _ _ _ w
  · exact l22_comes dn a b (by omega) w
  · exact l22_twice dn a b (by omega) w
  · obtain ⟨an, rfl⟩ : ∃ n : Nat, a = n := ⟨a.toNat, by omega⟩
    obtain ⟨bn, rfl⟩ : ∃ n : Nat, b = n := ⟨b.toNat, by omega⟩
    exact l22_turned dn an bn (by omega) (by omega) (by omega) w
theorem app_assoc (a b c : ByteArray) : a ++ (b ++ c) = a ++ b ++ c := by
  apply ByteArray.ext
  simp
theorem implText_any (k d a b : Int) (h : ff k d a b = 0) (w : World) (hw : WordsIn w) (ht : Tab w) : Calls Tryd.prog 25 #[.agg #[.int .i64 k, .int .i64 d, .int .i64 a, .int .i64 b]] w fun e w' => e = .returned (.string (fateStr k d a b)) ∧ Below w.heap.size w w' := by
  obtain ⟨hk, hd, h0, h1, h3⟩ := ff_zero h
  obtain ⟨dn, rfl⟩ : ∃ n : Nat, d = n := ⟨d.toNat, by omega⟩
  obtain rfl | rfl | rfl | rfl : k = 0 ∨ k = 1 ∨ k = 2 ∨ k = 3 := by omega
  · exact ft_lost _ _ _ w hw
  · have e : fateStr 1 dn a b = wComes ++ (sColon ++ dec dn) := by
      rw [app_assoc]; rfl
    rw [e]; exact ft_comes dn a b (by omega) w hw ht
  · have e : fateStr 2 dn a b = wTwice ++ (sColon ++ dec dn) := by
      rw [app_assoc]; rfl
    rw [e]; exact ft_twice dn a b (by omega) w hw ht
  · obtain ⟨an, rfl⟩ : ∃ n : Nat, a = n := ⟨a.toNat, by omega⟩
    obtain ⟨bn, rfl⟩ : ∃ n : Nat, b = n := ⟨b.toNat, by omega⟩
    have e : fateStr 3 dn an bn = wTurned ++ (sColon ++ dec dn ++ sColon ++ dec an ++ sColon ++ dec bn) := by
      rw [app_assoc, app_assoc, app_assoc, app_assoc, app_assoc]; rfl
    rw [e]; exact ft_turned dn an bn (by omega) (by omega) (by omega) w hw ht
end Go.Proofs.YtknhjeabldlimaaDoor.Fate
