/- Plain law: what the reference's ReadNumber computes is what the program's computes; texts of at most 2^20 bytes. -/
import Derived.Test.YtknhjeabldlimaaDoorNum2
import Derived.Test.YtknhjeabldlimaaDoorQSx1
namespace Go.Proofs.YtknhjeabldlimaaDoor.Num
open Go.RowKit Go.Proofs.YtknhjeabldlimaaDoorW.PrintWords Go.Proofs.YtknhjeabldlimaaDoorW.PrintLast Go.Proofs.YtknhjeabldlimaaDoorW.PrintMore Go.Proofs.YtknhjeabldlimaaDoor.Fate
set_option linter.unusedVariables false
set_option linter.unusedSimpArgs false
open Go.Lib (decFrom digitVal decDigits itoa)
open Go.Proofs.YtknhjeabldlimaaDoor.QS
theorem digits_qs : ∀ (k : Nat) (n : Int), QS.spec_l1Digits.f k n = QD.spec_l1Digits.f k n
  | 0, n => by unfold QS.spec_l1Digits.f QD.spec_l1Digits.f; rfl
  | k + 1, n => by
    unfold QS.spec_l1Digits.f QD.spec_l1Digits.f
    simp only [digits_qs k]
/-- The reference's digits: the numeral, of at most seven digits, of either sign. -/
theorem digits_small (k : Nat) (n : Int) (h0 : -9999999 ≤ n) (h1 : n ≤ 9999999) (hk : 9 ≤ k) (hk2 : k ≤ 100) : QS.spec_l1Digits.f k n = some (dec n) := by
  obtain ⟨j, rfl⟩ : ∃ j, k = j + 2 := ⟨k - 2, by omega⟩
  rw [digits_qs]
  by_cases hn : n < 0
  · unfold QD.spec_l1Digits.f
    rw [if_pos hn]
    have hw : wrap64 (-n) = ((n.natAbs : Nat) : Int) := by unfold wrap64; omega
    have hp : n.natAbs < 10 ^ (j + 1) := Nat.lt_of_lt_of_le (show n.natAbs < 10 ^ 7 by omega) (Nat.pow_le_pow_right (by decide) (by omega))
    rw [hw, digits_eq j n.natAbs hp (by omega) (by omega)]
    simp only [Option.bind_some]
    have hl := Fate.dec_len 6 n.natAbs (by omega)
    have hs : (dec ((n.natAbs : Nat) : Int)).size = (decDigits n.natAbs).length := by
      unfold dec itoa; rw [if_neg (by omega), Int.toNat_natCast]; simp [ByteArray.size]
    rw [if_pos (by rw [hs]; omega)]
    congr 1
    unfold dec itoa
    rw [if_pos hn, if_neg (by omega), Int.toNat_natCast]
    apply ByteArray.ext
    simp
  · obtain ⟨m, rfl⟩ : ∃ m : Nat, n = m := ⟨n.toNat, by omega⟩
    have hp : m < 10 ^ (j + 2) := Nat.lt_of_lt_of_le (show m < 10 ^ 7 by omega) (Nat.pow_le_pow_right (by decide) (by omega))
    exact digits_eq (j + 1) m hp (by omega) (by omega)
/-- What is told of a number v that was read in a text s. -/
def fin (s : ByteArray) (v : Int) : Int × Int := if (dec v).toList = s.toList then (0, v) else (5, 0)
theorem bt_get (s : ByteArray) (i : Nat) (c : UInt8) (h : s.data.toList[i]? = some c) : bt s (i : Int) = (c.toNat : Int) := by
  obtain ⟨hl, hc⟩ := List.getElem?_eq_some_iff.1 h
  have hi : i < s.size := by rw [Go.Lib.size_eq]; exact hl
  unfold bt
  rw [dif_pos (by simpa using hi)]
  congr 2
theorem l0_nil (s : ByteArray) (fr : Int) (acc i : Int) (k : Nat) (h : ¬ i < (s.size : Int)) : spec_ReadNumber.l0 (k + 1) s fr acc i 5 0 = (if fr = 1 then ((QS.spec_l1Digits.f k (wrap64 (-acc))).bind fun t111 => (if t111.toList = s.toList then (some (0, wrap64 (-acc))) else (some (5, 0)))) else ((QS.spec_l1Digits.f k acc).bind fun t112 => (if t112.toList = s.toList then (some (0, acc)) else (some (5, 0))))) := by
  rw [spec_ReadNumber.l0, if_neg h]
theorem l0_cons (s : ByteArray) (fr : Int) (acc i : Int) (k : Nat) (c : Int) (h : i < (s.size : Int)) (h0 : 0 ≤ i) (hb : bt s i = c) : spec_ReadNumber.l0 (k + 1) s fr acc i 5 0 = (if c < 48 then some (5, 0) else if c > 57 then some (5, 0) else spec_ReadNumber.l0 k s fr (wrap64 ((wrap64 (acc * 10)) + ((c - 48) % 256))) (wrap64 (i + 1)) 5 0) := by
  rw [spec_ReadNumber.l0, if_pos h, if_pos h0, hb]
theorem pow_room (a d n : Nat) (h : a < 10 ^ n) (hd : d < 10) : a * 10 + d < 10 ^ (n + 1) := by
  rw [Nat.pow_succ]; omega
theorem acc_small (a n : Nat) (h : a < 10 ^ n) (hn : n ≤ 6) : a < 1000000 :=
  Nat.lt_of_lt_of_le h (Nat.le_trans (Nat.pow_le_pow_right (by decide) hn) (by decide))
def ofDec (s : ByteArray) (fr : Nat) : Option Nat → Int × Int
  | some v => fin s (if fr = 1 then -(v : Int) else v)
  | none => (5, 0)
theorem wrap_step (a c : Nat) (h : a < 1000000) (h1 : 48 ≤ c) (h2 : c ≤ 57) : wrap64 (wrap64 ((a : Int) * 10) + ((c : Int) - 48) % 256) = ((a * 10 + (c - 48) : Nat) : Int) := by
  unfold wrap64; omega
theorem wrap_next (i : Nat) (h : i ≤ 1048576) : wrap64 ((i : Int) + 1) = ((i + 1 : Nat) : Int) := by
  unfold wrap64; omega
theorem wrap_neg (a : Nat) (h : a < 10000000) : wrap64 (-(a : Int)) = -(a : Int) := by
  unfold wrap64; omega
/-- The loop over the digits. -/
theorem loop_eq (s : ByteArray) (fr : Nat) (hfr : fr = 0 ∨ fr = 1) (hs : s.size ≤ 1048576) (rest : List UInt8) : ∀ (acc i k n : Nat), s.data.toList.drop i = rest → n + rest.length = 7 → acc < 10 ^ n → i + rest.length = s.size → rest.length + 20 ≤ k → k ≤ 60 →
    spec_ReadNumber.l0 k s (fr : Int) (acc : Int) (i : Int) 5 0 = some (ofDec s fr (decFrom acc rest)) := by
  induction rest with
  | nil =>
    intro acc i k n hr h7 ha hi hk hk2
    obtain ⟨k, rfl⟩ : ∃ m, k = m + 1 := ⟨k - 1, by omega⟩
    simp only [List.length_nil] at h7 hi hk
    have e7 : n = 7 := by omega
    subst e7
    have ha' : acc < 10000000 := ha
    clear ha
    rw [l0_nil _ _ _ _ _ (by omega)]
    simp only [decFrom, ofDec]
    unfold fin
    rcases hfr with rfl | rfl
    · rw [if_neg (by decide), digits_small k acc (by omega) (by omega) (by omega) (by omega)]
      simp only [Option.bind_some]
      by_cases h : (dec (acc : Int)).toList = s.toList <;> simp [h]
    · rw [if_pos (by decide), wrap_neg acc ha', digits_small k _ (by omega) (by omega) (by omega) (by omega)]
      simp only [Option.bind_some]
      by_cases h : (dec (-(acc : Int))).toList = s.toList <;> simp [h]
  | cons c rest ih =>
    intro acc i k n hr h7 ha hi hk hk2
    obtain ⟨k, rfl⟩ : ∃ m, k = m + 1 := ⟨k - 1, by omega⟩
    simp only [List.length_cons] at h7 hi hk
    have hc : s.data.toList[i]? = some c := by
      have := congrArg (·[0]?) hr
      simpa using this
    have hrest : s.data.toList.drop (i + 1) = rest := by
      have := congrArg List.tail hr
      simpa using this
    have hacc := acc_small acc n ha (by omega)
    rw [l0_cons s _ _ _ _ _ (by omega) (by omega) (bt_get s i c hc)]
    by_cases h1 : c.toNat < 48
    · rw [if_pos (by omega)]
      have : digitVal c = none := by unfold digitVal; rw [if_neg (by omega)]
      simp only [decFrom, this, ofDec]
    · rw [if_neg (by omega)]
      by_cases h2 : 57 < c.toNat
      · rw [if_pos (by omega)]
        have : digitVal c = none := by unfold digitVal; rw [if_neg (by omega)]
        simp only [decFrom, this, ofDec]
      · rw [if_neg (by omega)]
        have hd : digitVal c = some (c.toNat - 48) := by unfold digitVal; rw [if_pos (by omega)]
        have hp := pow_room acc (c.toNat - 48) n ha (by omega)
        clear ha
        rw [wrap_step acc c.toNat hacc (by omega) (by omega), wrap_next i (by omega), ih _ (i + 1) k (n + 1) hrest (by omega) hp (by omega) (by omega) (by omega)]
        simp only [decFrom, hd]
theorem decFrom_lt (rest : List UInt8) : ∀ (acc n v : Nat), acc < 10 ^ n → decFrom acc rest = some v → v < 10 ^ (n + rest.length) := by
  induction rest with
  | nil =>
    intro acc n v h hv
    simp only [decFrom, Option.some.injEq] at hv
    subst hv
    exact h
  | cons c rest ih =>
    intro acc n v h hv
    simp only [decFrom] at hv
    cases hd : digitVal c with
    | none => rw [hd] at hv; cases hv
    | some d =>
      rw [hd] at hv
      simp only at hv
      have h10 : d < 10 := by
        unfold digitVal at hd
        split at hd
        · have := Option.some.inj hd; omega
        · cases hd
      have := ih _ (n + 1) v (pow_room acc d n h h10) hv
      rw [List.length_cons, show n + (rest.length + 1) = n + 1 + rest.length by omega]
      exact this
theorem j2_stop (k : Nat) (s : ByteArray) (fr : Int) : spec_ReadNumber.j2 (k + 1) s fr true 5 0 = some (5, 0) := by
  rw [spec_ReadNumber.j2, if_pos rfl]
theorem j2_go (k : Nat) (s : ByteArray) (fr : Int) : spec_ReadNumber.j2 (k + 1) s fr false 5 0 = spec_ReadNumber.l0 k s fr 0 fr 5 0 := by
  rw [spec_ReadNumber.j2, if_neg (by decide)]
theorem wrap_len (a b : Nat) (h : a ≤ 1048576) (hb : b ≤ 1) : wrap64 ((a : Int) - (b : Int)) = (a : Int) - b := by
  unfold wrap64; omega
/-- The text from a place on. -/
def at_ (s : ByteArray) (fr : Nat) : Int × Int := if 1 ≤ s.size - fr ∧ s.size - fr ≤ 7 ∧ fr ≤ s.size then ofDec s fr (decFrom 0 (s.data.toList.drop fr)) else (5, 0)
theorem j1_eq (s : ByteArray) (hs : s.size ≤ 1048576) (fr : Nat) (hfr : fr = 0 ∨ fr = 1) : spec_ReadNumber.j1 40 s (fr : Int) 5 0 = some (at_ s fr) := by
  rw [spec_ReadNumber.j1, wrap_len s.size fr hs (by omega)]
  unfold at_
  by_cases h1 : (s.size : Int) - fr < 1
  · rw [if_pos h1, j2_stop, if_neg (by omega)]
  · rw [if_neg h1]
    by_cases h2 : (s.size : Int) - fr > 7
    · rw [decide_eq_true h2, j2_stop, if_neg (by omega)]
    · rw [decide_eq_false h2, j2_go, if_pos (by omega)]
      have hl : (s.data.toList.drop fr).length = s.size - fr := by rw [List.length_drop, ← Go.Lib.size_eq]
      have := loop_eq s fr hfr hs (s.data.toList.drop fr) 0 fr 38 (7 - (s.data.toList.drop fr).length) rfl (by omega) (Nat.pow_pos (by decide)) (by omega) (by omega) (by omega)
      exact this
theorem f_eq (s : ByteArray) (hs : s.size ≤ 1048576) : spec_ReadNumber.f 41 s = some (at_ s (if s.data.toList.head? = some 45 then 1 else 0)) := by
  unfold spec_ReadNumber.f
  have hz : s.size = s.data.toList.length := Go.Lib.size_eq s
  cases hl : s.data.toList with
  | nil =>
    rw [hl] at hz
    simp only [List.length_nil] at hz
    rw [if_neg (by omega), spec_ReadNumber.j0, if_neg (by decide)]
    exact j1_eq s hs 0 (Or.inl rfl)
  | cons c r =>
    rw [hl] at hz
    simp only [List.length_cons] at hz
    rw [if_pos (by omega), if_pos (by omega), spec_ReadNumber.j0]
    have hb : bt s 0 = (c.toNat : Int) := bt_get s 0 c (by rw [hl]; rfl)
    rw [hb]
    by_cases h : c = 45
    · subst h
      rw [if_pos (by decide), List.head?_cons, if_pos rfl]
      exact j1_eq s hs 1 (Or.inr rfl)
    · have hn : c.toNat ≠ 45 := fun e => h (UInt8.toNat_inj.1 e)
      have hn2 : ((c.toNat : Int) == 45) = false := by
        apply beq_false_of_ne; omega
      rw [hn2, if_neg (by decide), List.head?_cons, if_neg (by simpa using h)]
      exact j1_eq s hs 0 (Or.inl rfl)
theorem fin_good {s : ByteArray} {n : Int} (h : Good s n) : fin s n = (0, n) := by
  unfold fin
  rw [if_pos (by rw [dec_toList, toList_eq, h.1])]
theorem ofDec_bad (s : ByteArray) (fr : Nat) (rest : List UInt8) (h7 : rest.length ≤ 7) (hb : ∀ n, ¬ Good s n) : ofDec s fr (decFrom 0 rest) = (5, 0) := by
  cases hd : decFrom 0 rest with
  | none => rfl
  | some v =>
    have hv := decFrom_lt rest 0 0 v (by decide) hd
    have hv2 : v < 10000000 := Nat.lt_of_lt_of_le hv (Nat.le_trans (Nat.pow_le_pow_right (by decide) (show 0 + rest.length ≤ 7 by omega)) (by decide))
    simp only [ofDec]
    obtain ⟨x, hx⟩ : ∃ x, (if fr = 1 then -(v : Int) else v) = x := ⟨_, rfl⟩
    have hx2 : -9999999 ≤ x ∧ x ≤ 9999999 := by
      rw [← hx]
      by_cases e : fr = 1
      · rw [if_pos e]; omega
      · rw [if_neg e]; omega
    rw [hx]
    unfold fin
    by_cases hh : (dec x).toList = s.toList
    · rw [dec_toList, toList_eq] at hh
      exact absurd ⟨hh.symm, hx2⟩ (hb x)
    · rw [if_neg hh]
theorem at_bad (s : ByteArray) (fr : Nat) (hb : ∀ n, ¬ Good s n) : at_ s fr = (5, 0) := by
  unfold at_
  by_cases hh : 1 ≤ s.size - fr ∧ s.size - fr ≤ 7 ∧ fr ≤ s.size
  · rw [if_pos hh]
    refine ofDec_bad s _ _ ?_ hb
    rw [List.length_drop, ← Go.Lib.size_eq]
    omega
  · rw [if_neg hh]
/-- What the reference reads is what the program reads. -/
theorem readNumber_eq (s : ByteArray) (hs : s.size ≤ 1048576) : spec_ReadNumber.f 41 s = some (rn s) := by
  rw [f_eq s hs]
  congr 1
  unfold rn
  by_cases ho : okV s = true
  · rw [if_pos ho]
    have hg := good_of_okV ho
    obtain ⟨n, hn⟩ : ∃ n, numV s = n := ⟨_, rfl⟩
    rw [hn] at hg ⊢
    have hl := hg.1
    have h0 := hg.2.1
    have h1 := hg.2.2
    have hz : s.size = s.data.toList.length := Go.Lib.size_eq s
    by_cases hneg : n < 0
    · have hi : itoa n = 45 :: decDigits n.natAbs := by unfold itoa; rw [if_pos hneg]
      rw [hi] at hl
      have h7 := len7 n.natAbs (by omega)
      have hp := dec_pos n.natAbs
      have hz2 : s.size = (decDigits n.natAbs).length + 1 := by rw [hz, hl, List.length_cons]
      rw [hl, List.head?_cons, if_pos rfl]
      unfold at_
      rw [if_pos (by omega), hl]
      simp only [List.drop_succ_cons, List.drop_zero, decFrom_dec, ofDec, if_pos]
      have : -((n.natAbs : Nat) : Int) = n := by omega
      rw [this]
      exact fin_good hg
    · have hi : itoa n = decDigits n.toNat := by unfold itoa; rw [if_neg hneg]
      rw [hi] at hl
      have h7 := len7 n.toNat (by omega)
      have hp := dec_pos n.toNat
      have hz2 : s.size = (decDigits n.toNat).length := by rw [hz, hl]
      obtain ⟨b, r, e, hb1, hb2⟩ := dec_head n.toNat
      have h45 : ¬ b = 45 := by intro hh; subst hh; simp at hb1
      have hh : ¬ s.data.toList.head? = some 45 := by rw [hl, e]; simpa using h45
      rw [if_neg hh]
      unfold at_
      rw [if_pos (by omega), hl]
      simp only [List.drop_zero, decFrom_dec, ofDec]
      rw [if_neg (by decide)]
      have : ((n.toNat : Nat) : Int) = n := by omega
      rw [this]
      exact fin_good hg
  · rw [if_neg ho]
    exact at_bad s _ fun n h => ho (okV_good h)
end Go.Proofs.YtknhjeabldlimaaDoor.Num
