/- The reference's digits are the numeral: whole numbers from 0 to 2^62. -/
import Derived.Test.YtknhjeabldlimaaDoorFate0
import Derived.Test.YtknhjeabldlimaaDoorQDx1
namespace Go.Proofs.YtknhjeabldlimaaDoor.Fate
open Go.RowKit Go.Proofs.YtknhjeabldlimaaDoorW.PrintWords Go.Proofs.YtknhjeabldlimaaDoorW.PrintLast Go.Proofs.YtknhjeabldlimaaDoorW.PrintMore Go.Proofs.YtknhjeabldlimaaDoor.QD
set_option linter.unusedVariables false
theorem one_digit {d : Nat} (h : d < 10) : strOfNums [(wrap64 (48 + (d : Int))) % 256] = ⟨#[UInt8.ofNat (48 + d)]⟩ := by
  have h1 : (wrap64 (48 + (d : Int))) % 256 = ((48 + d : Nat) : Int) := by unfold wrap64; omega
  rw [h1]
  unfold strOfNums
  rw [List.map_cons, List.map_nil, Int.toNat_natCast]
theorem dec_len (k n : Nat) (h : n < 10 ^ (k + 1)) : (Lib.decDigits n).length ≤ k + 1 := by
  induction k generalizing n with
  | zero => rw [Lib.decDigits_one (by simpa using h)]; simp
  | succ k ih =>
    unfold Lib.decDigits
    split
    · simp
    · have := ih (n / 10) (by rw [Nat.pow_succ] at h; omega)
      simp only [List.length_append, List.length_cons, List.length_nil]
      omega
theorem digits_eq (k n : Nat) (h : n < 10 ^ (k + 1)) (h62 : n ≤ 4611686018427387904) (hk : k ≤ 100) : spec_l1Digits.f (k + 1) (n : Int) = some (dec n) := by
  induction k generalizing n with
  | zero =>
    have h1 : n < 10 := by simpa using h
    unfold spec_l1Digits.f
    rw [if_neg (by omega), if_pos (by omega), one_digit h1]
    unfold dec Lib.itoa
    rw [if_neg (by omega), Int.toNat_natCast, Lib.decDigits_one h1]
  | succ k ih =>
    unfold spec_l1Digits.f
    rw [if_neg (by omega)]
    by_cases h1 : n < 10
    · rw [if_pos (by omega), one_digit h1]
      unfold dec Lib.itoa
      rw [if_neg (by omega), Int.toNat_natCast, Lib.decDigits_one h1]
    · rw [if_neg (by omega)]
      have h2 : wrap64 (Int.tdiv (n : Int) 10) = ((n / 10 : Nat) : Int) := by
        rw [Int.tdiv_eq_ediv_of_nonneg (by omega)]
        unfold wrap64
        omega
      have h3 : Int.tmod (n : Int) 10 = ((n % 10 : Nat) : Int) := by
        rw [Int.tmod_eq_emod_of_nonneg (by omega)]
        omega
      rw [h2, h3, ih (n / 10) (by rw [Nat.pow_succ] at h; omega) (by omega) (by omega)]
      have h4 := dec_len (k) (n / 10) (by rw [Nat.pow_succ] at h; omega)
      simp only [Option.bind_some]
      rw [one_digit (by omega : n % 10 < 10)]
      have h5 : (dec ((n / 10 : Nat) : Int)).size = (Lib.decDigits (n / 10)).length := by
        unfold dec Lib.itoa
        rw [if_neg (by omega), Int.toNat_natCast]
        simp [ByteArray.size]
      rw [if_pos (by rw [h5]; show _ + 1 ≤ _; omega)]
      congr 1
      unfold dec Lib.itoa
      rw [if_neg (by omega), if_neg (by omega), Int.toNat_natCast, Int.toNat_natCast]
      conv => rhs; rw [Lib.decDigits, dif_neg h1]
      apply ByteArray.ext
      simp
end Go.Proofs.YtknhjeabldlimaaDoor.Fate
