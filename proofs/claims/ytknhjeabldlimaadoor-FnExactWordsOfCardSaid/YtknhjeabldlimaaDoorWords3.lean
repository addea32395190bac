/- Plain law: the reference cuts a line into the words that the program finds; a text cut at one byte; no program in sight. -/
import Derived.Test.YtknhjeabldlimaaDoorQVLx2
import Derived.Lib.IndexLaws
import Derived.Lib.IndexBytes
import Derived.Lib.Strings
namespace Go.Proofs.YtknhjeabldlimaaDoor.Words
open Go.RowKit Go.Proofs.YtknhjeabldlimaaDoorW.PrintWords Go.Proofs.YtknhjeabldlimaaDoorW.PrintLast Go.Proofs.YtknhjeabldlimaaDoorW.PrintMore Go.Proofs.YtknhjeabldlimaaDoor.QVL
set_option linter.unusedVariables false
set_option linter.unusedSimpArgs false
theorem bytes_ext {a b : ByteArray} (h : a.data.toList = b.data.toList) : a = b := ByteArray.ext (Array.toList_inj.1 h)
/-- A text cut at the byte c, from a place on: 'fr' is where the piece began, n bytes are left from i on. -/
def cutF (s : ByteArray) (c : UInt8) : Nat → Nat → Nat → List ByteArray
  | 0, fr, i => [s.extract fr i]
  | n + 1, fr, i => if s.data.toList[i]? = some c then s.extract fr i :: cutF s c n (i + 1) (i + 1) else cutF s c n fr (i + 1)
theorem sub_get (s : ByteArray) (fr k : Nat) : (s.extract fr s.size).data.toList[k]? = s.data.toList[fr + k]? := by
  rw [Go.Lib.extract_data, List.getElem?_take, List.getElem?_drop]
  by_cases h : k < s.size - fr
  · rw [if_pos h]
  · rw [if_neg h, Go.Lib.size_eq] at *
    rw [List.getElem?_eq_none (by omega)]
theorem index_of (s : ByteArray) (c : UInt8) (sep : ByteArray) (hsep : sep = ⟨#[c]⟩) : Go.Lib.indexB s sep = Go.Lib.indexByte s.data.toList c := by
  subst hsep
  rw [Go.Lib.one s ⟨#[c]⟩ rfl]
  congr 1
  show (((c.toNat : Nat) : Int)).toNat.toUInt8 = c
  simp
theorem cut_eq (s : ByteArray) (c : UInt8) (sep : ByteArray) (hsep : sep = ⟨#[c]⟩) : ∀ (n fr i : Nat), i + n = s.size → fr ≤ i → (∀ j, fr ≤ j → j < i → s.data.toList[j]? ≠ some c) →
    cutF s c n fr i = Go.Lib.splitB sep 0 (Go.Lib.countB (s.extract fr s.size) sep) (s.extract fr s.size)
  | 0, fr, i, hn, hfr, hno => by
    have hi : i = s.size := by omega
    subst hi
    have hix : Go.Lib.indexB (s.extract fr s.size) sep = -1 := by
      rcases Go.Lib.indexB_cases (s.extract fr s.size) sep with h | ⟨o, ho, hroom⟩
      · exact h
      · exfalso
        rw [index_of _ c sep hsep] at ho
        have h1 := (Go.Lib.indexByte_some ho).1
        rw [sub_get] at h1
        have hl := (List.getElem?_eq_some_iff.1 h1).1
        rw [← Go.Lib.size_eq] at hl
        exact hno (fr + o) (by omega) (by omega) h1
    rw [Go.Lib.splitB_miss _ _ _ _ hix]
    rfl
  | n + 1, fr, i, hn, hfr, hno => by
    unfold cutF
    by_cases hc : s.data.toList[i]? = some c
    · rw [if_pos hc]
      have hsz1 : sep.size = 1 := by subst hsep; rfl
      have hix : Go.Lib.indexB (s.extract fr s.size) sep = ((i - fr : Nat) : Int) := by
        rcases Go.Lib.indexB_cases (s.extract fr s.size) sep with h | ⟨o, ho, hroom⟩
        · exfalso
          rw [index_of _ c sep hsep] at h
          have := Go.Lib.indexByte_none h (i - fr)
          rw [sub_get, show fr + (i - fr) = i by omega] at this
          exact this hc
        · rw [ho]
          rw [index_of _ c sep hsep] at ho
          obtain ⟨h1, h2⟩ := Go.Lib.indexByte_some ho
          rw [sub_get] at h1
          have hle : ¬ o < i - fr := fun hlt => hno (fr + o) (by omega) (by omega) h1
          have hge : ¬ i - fr < o := fun hlt => by
            have := h2 (i - fr) hlt
            rw [sub_get, show fr + (i - fr) = i by omega] at this
            exact this hc
          congr 1; omega
      have hcount := Go.Lib.countB_hit (s.extract fr s.size) sep (i - fr) (by omega) hix
      rw [hcount, Nat.add_comm 1, Go.Lib.splitB_hit sep 0 _ _ _ hix, hsz1]
      have hsz : (s.extract fr s.size).size = s.size - fr := by rw [ByteArray.size_extract]; omega
      have e1 : (s.extract fr s.size).extract 0 (i - fr + 0) = s.extract fr i := by
        apply bytes_ext
        rw [Go.Lib.extract_data, Go.Lib.extract_data, Go.Lib.extract_data, List.drop_zero, List.take_take]
        congr 1; omega
      have e2 : (s.extract fr s.size).extract (i - fr + 1) (s.extract fr s.size).size = s.extract (i + 1) s.size := by
        apply bytes_ext
        rw [hsz, Go.Lib.extract_data, Go.Lib.extract_data, Go.Lib.extract_data, List.drop_take, List.drop_drop, List.take_take]
        rw [show fr + (i - fr + 1) = i + 1 by omega]
        congr 1; omega
      rw [e1, e2, cut_eq s c sep hsep n (i + 1) (i + 1) (by omega) (Nat.le_refl _) (fun j h1 h2 => by omega)]
    · rw [if_neg hc]
      exact cut_eq s c sep hsep n fr (i + 1) (by omega) (by omega) (fun j h1 h2 => by
        rcases Nat.lt_or_ge j i with h | h
        · exact hno j h1 h
        · rw [show j = i by omega]; exact hc)
theorem cuts_eq (s : ByteArray) (c : UInt8) : cutF s c s.size 0 0 = cuts ⟨#[c]⟩ s := by
  rw [cut_eq s c ⟨#[c]⟩ rfl s.size 0 0 (by omega) (Nat.le_refl _) (fun j h1 h2 => by omega)]
  have : s.extract 0 s.size = s := by
    apply bytes_ext
    rw [Go.Lib.extract_data, List.drop_zero, List.take_of_length_le (by rw [← Go.Lib.size_eq]; omega)]
  rw [this]
  rfl
theorem cutF_len (s : ByteArray) (c : UInt8) : ∀ (n fr i : Nat), (cutF s c n fr i).length ≤ n + 1
  | 0, fr, i => by simp [cutF]
  | n + 1, fr, i => by
    unfold cutF
    split
    · have := cutF_len s c n (i + 1) (i + 1); simp; omega
    · have := cutF_len s c n fr (i + 1); omega
end Go.Proofs.YtknhjeabldlimaaDoor.Words
