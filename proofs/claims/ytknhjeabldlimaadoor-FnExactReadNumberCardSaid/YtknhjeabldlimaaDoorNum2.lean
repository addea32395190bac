/- Plain law: a text is a number of at most seven digits just where it is that number's numeral; no program in sight. -/
import Derived.Test.YtknhjeabldlimaaDoorNum1
import Derived.Test.YtknhjeabldlimaaDoorFate1
import Derived.Lib.AtoiTie
import Derived.Lib.ParseIntBTie
namespace Go.Proofs.YtknhjeabldlimaaDoor.Num
open Go.RowKit Go.Proofs.YtknhjeabldlimaaDoorW.PrintWords Go.Proofs.YtknhjeabldlimaaDoorW.PrintLast Go.Proofs.YtknhjeabldlimaaDoorW.PrintMore Go.Proofs.YtknhjeabldlimaaDoor.Fate
set_option linter.unusedVariables false
set_option linter.unusedSimpArgs false
open Go.Lib (decFrom digitVal decDigits itoa)
theorem digitVal_of {d : Nat} (h : d < 10) : digitVal (UInt8.ofNat (48 + d)) = some d := by
  unfold digitVal
  have e : (UInt8.ofNat (48 + d)).toNat = 48 + d := by simp; omega
  rw [e, if_pos (by omega)]
  congr 1; omega
theorem decFrom_snoc : ∀ (l : List UInt8) (acc m d : Nat) (c : UInt8), decFrom acc l = some m → digitVal c = some d → decFrom acc (l ++ [c]) = some (m * 10 + d)
  | [], acc, m, d, c, h, hc => by
    simp only [decFrom, Option.some.injEq] at h
    subst h
    simp [decFrom, hc]
  | b :: r, acc, m, d, c, h, hc => by
    simp only [decFrom, List.cons_append] at h ⊢
    cases hb : digitVal b with
    | none => rw [hb] at h; cases h
    | some x =>
      rw [hb] at h
      simp only at h ⊢
      exact decFrom_snoc r _ m d c h hc
theorem decFrom_dec (u : Nat) : decFrom 0 (decDigits u) = some u := by
  induction u using Nat.strongRecOn with
  | _ u ih =>
    rw [decDigits]
    split
    · rename_i h
      simp only [decFrom, digitVal_of h]
      congr 1; omega
    · rename_i h
      rw [decFrom_snoc _ 0 (u / 10) (u % 10) _ (ih (u / 10) (by omega)) (digitVal_of (by omega))]
      congr 1; omega
theorem dec_pos (u : Nat) : 0 < (decDigits u).length := by
  rw [decDigits]
  split
  · simp
  · simp
theorem dec_ge (k u : Nat) (h : 10 ^ k ≤ u) : k + 1 ≤ (decDigits u).length := by
  induction k generalizing u with
  | zero => have := dec_pos u; omega
  | succ k ih =>
    rw [decDigits]
    have h10 : 10 ^ k * 10 ≤ u := by rw [Nat.pow_succ] at h; exact h
    have hp : 0 < 10 ^ k := Nat.pow_pos (by decide)
    split
    · omega
    · have := ih (u / 10) (by omega)
      simp only [List.length_append, List.length_cons, List.length_nil]; omega
theorem dec_head (u : Nat) : ∃ b r, decDigits u = b :: r ∧ 48 ≤ b.toNat ∧ b.toNat ≤ 57 := by
  cases h : decDigits u with
  | nil => have := dec_pos u; rw [h] at this; simp at this
  | cons b r =>
    have hd := decFrom_dec u
    rw [h] at hd
    simp only [decFrom] at hd
    refine ⟨b, r, rfl, ?_⟩
    cases hb : digitVal b with
    | none => rw [hb] at hd; cases hd
    | some x =>
      unfold digitVal at hb
      split at hb
      · assumption
      · cases hb
theorem atoi_itoa (n : Int) : Go.Lib.atoi (itoa n) = some n := by
  unfold itoa
  split
  · rename_i h
    simp only [Go.Lib.atoi, Go.Lib.decNat]
    have : (decDigits n.natAbs).isEmpty = false := by
      obtain ⟨b, r, e, _⟩ := dec_head n.natAbs
      rw [e]; rfl
    rw [if_pos (by decide), this]
    simp only [Bool.false_eq_true, if_false, decFrom_dec, Option.map_some]
    congr 1; omega
  · rename_i h
    obtain ⟨b, r, e, h1, h2⟩ := dec_head n.toNat
    have hd := decFrom_dec n.toNat
    rw [e] at hd ⊢
    have h45 : (b == 45) = false := by
      apply beq_false_of_ne; intro hh; subst hh; simp at h1
    have h43 : (b == 43) = false := by
      apply beq_false_of_ne; intro hh; subst hh; simp at h1
    simp only [Go.Lib.atoi, Go.Lib.decNat, h45, h43]
    simp only [Bool.false_eq_true, if_false, List.isEmpty_cons, hd, Option.map_some]
    congr 1; omega
/-- The text is the numeral of n, which has at most seven digits. -/
def Good (s : ByteArray) (n : Int) : Prop := s.data.toList = itoa n ∧ -9999999 ≤ n ∧ n ≤ 9999999
theorem toList_eq (s : ByteArray) : s.toList = s.data.toList := ByteArray.toList_eq s
theorem dec_toList (n : Int) : (dec n).toList = itoa n := by
  rw [toList_eq]; unfold dec; simp
theorem len7 (u : Nat) (h : u < 10 ^ 7) : (decDigits u).length ≤ 7 := Fate.dec_len 6 u h
theorem itoa_len (n : Int) (h0 : -9999999 ≤ n) (h1 : n ≤ 9999999) : (itoa n).length ≤ 8 := by
  unfold itoa
  split
  · have := len7 n.natAbs (by omega); simp; omega
  · have := len7 n.toNat (by omega); omega
theorem trim_itoa (n : Int) : Go.Lib.trimPrefix (itoa n) [45] = if n < 0 then decDigits n.natAbs else decDigits n.toNat := by
  unfold itoa
  split
  · simp [Go.Lib.trimPrefix, Go.Lib.hasPrefix]
  · obtain ⟨b, r, e, h1, h2⟩ := dec_head n.toNat
    rw [e]
    have h45 : ¬ (45 : UInt8) = b := by intro hh; subst hh; simp at h1
    simp [Go.Lib.trimPrefix, Go.Lib.hasPrefix, h45]
theorem parse_good {s : ByteArray} {n : Int} (h : Good s n) : Go.Lib.parseIntB 64 s.data.toList = .ok n := by
  rw [Go.Lib.parseIntB_64, h.1, Go.Lib.atoiAll_short _ (by have := itoa_len n h.2.1 h.2.2; omega), atoi_itoa]
  rfl
theorem numV_good {s : ByteArray} {n : Int} (h : Good s n) : numV s = n := by
  unfold numV; rw [parse_good h]
theorem okV_good {s : ByteArray} {n : Int} (h : Good s n) : okV s = true := by
  unfold okV
  rw [parse_good h]
  have e1 : ((dec n).toList == s.toList) = true := by rw [dec_toList, toList_eq, h.1]; simp
  have e2 : (trimmed s).size ≤ 7 := by
    rw [trimmed_len, h.1, trim_itoa]
    have h0 := h.2.1
    have h1 := h.2.2
    split
    · exact len7 _ (by omega)
    · exact len7 _ (by omega)
  simp only [e1, Bool.true_and, decide_eq_true_eq]
  omega
theorem good_of_okV {s : ByteArray} (h : okV s = true) : Good s (numV s) := by
  unfold okV at h
  unfold numV
  rcases hp : Go.Lib.parseIntB 64 s.data.toList with v | _ | _
  rotate_left
  · rw [hp] at h; cases h
  · rw [hp] at h; cases h
  · rw [hp] at h
    simp only [Bool.and_eq_true, beq_iff_eq, decide_eq_true_eq] at h
    obtain ⟨h1, h2⟩ := h
    rw [dec_toList, toList_eq] at h1
    rw [trimmed_len, ← h1, trim_itoa] at h2
    refine ⟨h1.symm, ?_⟩
    split at h2
    · have : v.natAbs < 10 ^ 7 := by
        apply Nat.lt_of_not_le
        intro hh
        have := dec_ge 7 _ hh
        omega
      show -9999999 ≤ v ∧ v ≤ 9999999
      omega
    · have : v.toNat < 10 ^ 7 := by
        apply Nat.lt_of_not_le
        intro hh
        have := dec_ge 7 _ hh
        omega
      show -9999999 ≤ v ∧ v ≤ 9999999
      omega
/-- What ReadNumber returns. -/
def rn (s : ByteArray) : Int × Int := if okV s = true then (0, numV s) else (5, 0)
end Go.Proofs.YtknhjeabldlimaaDoor.Num
