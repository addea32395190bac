/- Plain law: the law FnExactWordsOf, as Lean functions, is true of every line; no program in sight. -/
import Derived.Test.YtknhjeabldlimaaDoorWords3
namespace Go.Proofs.YtknhjeabldlimaaDoor.Words
open Go.RowKit Go.Proofs.YtknhjeabldlimaaDoorW.PrintWords Go.Proofs.YtknhjeabldlimaaDoorW.PrintLast Go.Proofs.YtknhjeabldlimaaDoorW.PrintMore Go.Proofs.YtknhjeabldlimaaDoor.QVL
set_option linter.unusedVariables false
set_option linter.unusedSimpArgs false
theorem wnext (i : Nat) (h : i ≤ 100000000) : wrap64 ((i : Int) + 1) = ((i + 1 : Nat) : Int) := by
  unfold wrap64; omega
theorem bt_get (s : ByteArray) (i : Nat) (h : i < s.size) : ∃ b : UInt8, s.data.toList[i]? = some b ∧ bt s (i : Int) = (b.toNat : Int) := by
  have hl : i < s.data.toList.length := by rw [← Go.Lib.size_eq]; exact h
  refine ⟨s.data.toList[i], List.getElem?_eq_getElem hl, ?_⟩
  unfold bt
  rw [dif_pos (by simpa using h)]
  rfl
/-- The reference's cut. -/
theorem l1Cut_loop (s : ByteArray) (c : UInt8) (hs : s.size ≤ 1048576) : ∀ (n fr i k : Nat) (acc : List ByteArray), i + n = s.size → fr ≤ i → n + 2 ≤ k → acc.length + n ≤ 2000000 →
    spec_l1Cut.l0 k s (c.toNat : Int) acc (fr : Int) (i : Int) = some (acc ++ cutF s c n fr i)
  | n, fr, i, k, acc, hn, hfr, hk, hl => by
    obtain ⟨k, rfl⟩ : ∃ m, k = m + 1 := ⟨k - 1, by omega⟩
    rw [spec_l1Cut.l0]
    rw [if_pos (by omega)]
    cases n with
    | zero =>
      rw [if_pos (by omega), if_pos (by omega), if_pos (by omega), if_pos (by omega), wnext i (by omega)]
      obtain ⟨k, rfl⟩ : ∃ m, k = m + 1 := ⟨k - 1, by omega⟩
      rw [spec_l1Cut.l0, if_neg (by omega)]
      simp only [Int.toNat_natCast, cutF]
    | succ n =>
      rw [if_neg (by omega), if_pos (by omega), if_pos (by omega)]
      obtain ⟨b, hb, hbt⟩ := bt_get s i (by omega)
      rw [hbt]
      unfold cutF
      by_cases h : b = c
      · subst h
        rw [if_pos rfl, if_pos (by omega), if_pos (by omega), if_pos (by omega), wnext i (by omega), if_pos hb]
        simp only [Int.toNat_natCast]
        rw [l1Cut_loop s b hs n (i + 1) (i + 1) k _ (by omega) (Nat.le_refl _) (by omega) (by simp; omega), List.append_assoc]
        rfl
      · have h2 : ¬ ((b.toNat : Int) = (c.toNat : Int)) := fun e => h (UInt8.toNat_inj.1 (by omega))
        rw [if_neg h2, wnext i (by omega), l1Cut_loop s c hs n fr (i + 1) k acc (by omega) (by omega) (by omega) (by omega)]
        rw [if_neg (by rw [hb]; simpa using h)]
theorem l1Cut_eq (s : ByteArray) (c : UInt8) (hs : s.size ≤ 1048576) (k : Nat) (hk : s.size + 2 ≤ k) : spec_l1Cut.f k s (c.toNat : Int) = some (cuts ⟨#[c]⟩ s) := by
  unfold spec_l1Cut.f
  rw [show (0 : Int) = ((0 : Nat) : Int) from rfl, l1Cut_loop s c hs s.size 0 0 k [] (by omega) (Nat.le_refl _) hk (by simp; omega), List.nil_append, cuts_eq]
theorem size_pos (x : ByteArray) : ((x.size : Int) > 0) ↔ (!x.toList.isEmpty) = true := by
  rw [ByteArray.toList_eq, Go.Lib.size_eq]
  cases x.data.toList <;> simp
theorem rdOf_get (l : List ByteArray) (i : Nat) (x : ByteArray) (h : l[i]? = some x) : rdOf ByteArray.empty l (i : Int) = x := by
  unfold rdOf
  rw [Int.toNat_natCast]
  simp [List.getD, h]
/-- The reference's filter. -/
theorem words_loop (l : List ByteArray) (hl : l.length ≤ 2000000) : ∀ (n i k : Nat) (acc : List ByteArray), i + n = l.length → n + 1 ≤ k → acc.length + n ≤ 4000000 →
    spec_l22Words.l0 k acc l (i : Int) = some (acc ++ (l.drop i).filter fun x => !x.toList.isEmpty)
  | n, i, k, acc, hn, hk, ha => by
    obtain ⟨k, rfl⟩ : ∃ m, k = m + 1 := ⟨k - 1, by omega⟩
    rw [spec_l22Words.l0]
    cases n with
    | zero =>
      rw [if_neg (by omega), List.drop_of_length_le (by omega)]
      simp
    | succ n =>
      have hi : i < l.length := by omega
      have hx : l[i]? = some l[i] := List.getElem?_eq_getElem hi
      rw [if_pos (by omega), if_pos (by omega), rdOf_get l i _ hx, wnext i (by omega), List.drop_eq_getElem_cons hi]
      by_cases h : (!(l[i]).toList.isEmpty) = true
      · rw [if_pos ((size_pos _).2 h), if_pos (by omega), words_loop l hl n (i + 1) k _ (by omega) (by omega) (by simp; omega), List.filter_cons, if_pos h]
        simp
      · rw [if_neg (fun h2 => h ((size_pos _).1 h2)), words_loop l hl n (i + 1) k _ (by omega) (by omega) (by omega), List.filter_cons, if_neg h]
theorem cuts_len (s : ByteArray) (c : UInt8) : (cuts ⟨#[c]⟩ s).length ≤ s.size + 1 := by
  rw [← cuts_eq]; exact cutF_len s c s.size 0 0
theorem spec_words (s : ByteArray) (k : Nat) (hk : 5000 ≤ k) : spec_WordsOf.f k s = some (wordsR s) := by
  unfold spec_WordsOf.f wordsR
  by_cases h : (s.size : Int) > 2000
  · rw [if_pos h, if_pos h]
  · rw [if_neg h, if_neg h]
    unfold spec_l22Words.f
    have h1 := l1Cut_eq s 32 (by omega) k (by omega)
    rw [show (((32 : UInt8).toNat : Nat) : Int) = 32 from rfl] at h1
    rw [h1]
    have hl := cuts_len s 32
    simp only [Option.bind_some]
    rw [show (0 : Int) = ((0 : Nat) : Int) from rfl, words_loop _ (by omega) _ 0 k [] (Nat.zero_add _) (by omega) (by simp; omega), List.nil_append, List.drop_zero]
    rfl
theorem wordsR_len (s : ByteArray) : (wordsR s).2.length ≤ 2001 := by
  unfold wordsR
  split
  · simp
  · have h1 := List.length_filter_le (fun x : ByteArray => !x.toList.isEmpty) (cuts blank s)
    have h2 := cuts_len s 32
    show (wordsL s).length ≤ 2001
    unfold wordsL
    have : cuts blank s = cuts ⟨#[32]⟩ s := rfl
    rw [this] at h1 ⊢
    omega
/-! The marks. -/
theorem mark_stable : ∀ (j k x : Nat) (y : ByteArray), j + 1 ≤ k → x < 10 ^ j → x < 1000000000 → y.size + j ≤ 1000 → ∃ r, laws_markText.l0 (j + 1) (x : Int) y = some r ∧ laws_markText.l0 k (x : Int) y = some r
  | j, k, x, y, hk, hx, hx2, hy => by
    obtain ⟨k, rfl⟩ : ∃ m, k = m + 1 := ⟨k - 1, by omega⟩
    by_cases h0 : (x : Int) > 0
    · cases j with
      | zero => simp at hx; omega
      | succ j =>
        rw [laws_markText.l0, laws_markText.l0, if_pos h0, if_pos h0]
        simp only [Option.bind_some]
        have hs : (strOfNums ([(wrap64 (48 + (Int.tmod (x : Int) 10))) % 256] : List Int)).size = 1 := rfl
        rw [hs, if_pos (by omega), if_pos (by omega)]
        have hd : wrap64 (Int.tdiv (x : Int) 10) = ((x / 10 : Nat) : Int) := by
          rw [Int.tdiv_eq_ediv_of_nonneg (by omega)]
          unfold wrap64; omega
        rw [hd]
        have hp : x / 10 < 10 ^ j := by rw [Nat.pow_succ] at hx; omega
        exact mark_stable j k (x / 10) _ (by omega) hp (by omega) (by rw [ByteArray.size_append, hs]; omega)
    · refine ⟨⟨#[109]⟩ ++ y, ?_, ?_⟩
      · rw [laws_markText.l0, if_neg h0, if_pos (by omega)]
      · rw [laws_markText.l0, if_neg h0, if_pos (by omega)]
def mt (x : Nat) : ByteArray := (laws_markText.f 10 (x : Int)).getD default
theorem mark_eq (k x : Nat) (hk : 10 ≤ k) (h1 : 1 ≤ x) (h2 : x < 100000000) : laws_markText.f k (x : Int) = some (mt x) := by
  obtain ⟨r, ha, hb⟩ := mark_stable 9 k x ⟨#[]⟩ hk (by omega) (by omega) (by decide)
  unfold mt laws_markText.f
  rw [if_neg (by omega), if_neg (by omega), ha, hb]
  rfl
def marksFrom : Nat → Nat → List ByteArray
  | 0, _ => []
  | n + 1, m => mt m :: marksFrom n (m + 1)
theorem marks_len : ∀ (n m : Nat), (marksFrom n m).length = n
  | 0, _ => rfl
  | n + 1, m => by simp [marksFrom, marks_len n]
theorem marks_get : ∀ (n m j : Nat), j < n → (marksFrom n m)[j]? = some (mt (m + j))
  | 0, _, j, h => by omega
  | n + 1, m, 0, h => rfl
  | n + 1, m, j + 1, h => by
    simp only [marksFrom, List.getElem?_cons_succ]
    rw [marks_get n (m + 1) j (by omega)]
    congr 2; omega
theorem set_step (a b : List ByteArray) (x y : ByteArray) : (a ++ x :: b).set a.length y = a ++ y :: b := by
  simp
theorem mark_loop : ∀ (l a : List ByteArray) (m k : Nat), l.length + 20 ≤ k → 1 ≤ m → m + l.length ≤ 1000000 → a.length + l.length ≤ 1000000 →
    laws_markStringS.l0 k (a ++ l) (m : Int) (a.length : Int) = some (((m + l.length : Nat) : Int), a ++ marksFrom l.length m)
  | [], a, m, k, hk, h1, h2, h3 => by
    obtain ⟨k, rfl⟩ : ∃ j, k = j + 1 := ⟨k - 1, by simp at hk; omega⟩
    rw [laws_markStringS.l0, if_neg (by simp)]
    simp [marksFrom]
  | x :: l, a, m, k, hk, h1, h2, h3 => by
    simp only [List.length_cons] at hk h2 h3
    obtain ⟨k, rfl⟩ : ∃ j, k = j + 1 := ⟨k - 1, by omega⟩
    rw [laws_markStringS.l0, if_pos (by simp; omega), mark_eq k m (by omega) h1 (by omega)]
    simp only [Option.bind_some]
    rw [if_pos (by omega), Int.toNat_natCast, set_step, wnext m (by omega), wnext a.length (by omega)]
    have e : a ++ mt m :: l = (a ++ [mt m]) ++ l := by simp
    have e2 : a.length + 1 = (a ++ [mt m]).length := by simp
    rw [e, e2, mark_loop l (a ++ [mt m]) (m + 1) k (by omega) (by omega) (by omega) (by simp; omega)]
    simp only [List.length_cons, marksFrom]
    congr 2
    · omega
    · simp
theorem held_loop (n m0 : Nat) (h0 : 1 ≤ m0) (hb : m0 + n ≤ 1000000) : ∀ (d i k : Nat), i + d = n → d + 20 ≤ k →
    laws_heldStringS.l0 k (marksFrom n m0) ((m0 + i : Nat) : Int) (i : Int) = some ((m0 + n : Nat) : Int)
  | 0, i, k, hd, hk => by
    obtain ⟨k, rfl⟩ : ∃ j, k = j + 1 := ⟨k - 1, by omega⟩
    rw [laws_heldStringS.l0, if_neg (by rw [marks_len]; omega)]
    congr 2; omega
  | d + 1, i, k, hd, hk => by
    obtain ⟨k, rfl⟩ : ∃ j, k = j + 1 := ⟨k - 1, by omega⟩
    rw [laws_heldStringS.l0, if_pos (by rw [marks_len]; omega), if_pos (by omega), mark_eq k (m0 + i) (by omega) (by omega) (by omega)]
    simp only [Option.bind_some]
    rw [rdOf_get _ i _ (marks_get n m0 i (by omega)), if_pos rfl, wnext (m0 + i) (by omega), wnext i (by omega)]
    exact held_loop n m0 h0 hb d (i + 1) k (by omega) (by omega)
theorem eq_loop (l : List ByteArray) (hb : l.length ≤ 1000000) : ∀ (d i k : Nat), i + d = l.length → d + 1 ≤ k → laws_eqStringS.l0 k l l (i : Int) = some true
  | 0, i, k, hd, hk => by
    obtain ⟨k, rfl⟩ : ∃ j, k = j + 1 := ⟨k - 1, by omega⟩
    rw [laws_eqStringS.l0, if_neg (by omega)]
  | d + 1, i, k, hd, hk => by
    obtain ⟨k, rfl⟩ : ∃ j, k = j + 1 := ⟨k - 1, by omega⟩
    rw [laws_eqStringS.l0, if_pos (by omega), if_pos (by omega), if_pos (by omega), if_pos rfl, wnext i (by omega)]
    exact eq_loop l hb d (i + 1) k (by omega) (by omega)
theorem eqWords (c : Int) (l : List ByteArray) (k : Nat) (hb : l.length ≤ 2001) (hk : 5000 ≤ k) : laws_eqWordsResult.f k c l c l = some true := by
  unfold laws_eqWordsResult.f laws_eqStringS.f
  rw [if_pos rfl, if_pos rfl, show (0 : Int) = ((0 : Nat) : Int) from rfl, eq_loop l (by omega) l.length 0 k (by omega) (by omega)]
  rfl
theorem markWords (c : Int) (l : List ByteArray) (k : Nat) (hb : l.length ≤ 2001) (hk : 5000 ≤ k) : laws_markWordsResult.f k c l 1 = some (((1 + l.length : Nat) : Int), marksFrom l.length 1) := by
  unfold laws_markWordsResult.f laws_markStringS.f
  have := mark_loop l [] 1 k (by omega) (by omega) (by omega) (by simp; omega)
  simp only [List.nil_append, List.length_nil] at this
  rw [show (1 : Int) = ((1 : Nat) : Int) from rfl, show (0 : Int) = ((0 : Nat) : Int) from rfl, this]
  rfl
theorem heldWords (c : Int) (n k : Nat) (hb : n ≤ 2001) (hk : 5000 ≤ k) : laws_heldWordsResult.f k c (marksFrom n 1) 1 = some ((1 + n : Nat) : Int) := by
  unfold laws_heldWordsResult.f laws_heldStringS.f
  have := held_loop n 1 (by omega) (by omega) n 0 k (by omega) (by omega)
  rw [show (1 : Int) = ((1 + 0 : Nat) : Int) from rfl, show (0 : Int) = ((0 : Nat) : Int) from rfl, this]
  simp only [Option.bind_some]
  rw [if_neg (by omega)]
theorem law_true (s : ByteArray) : laws_FnExactWordsOf.f 5000 s = some true := by
  unfold laws_FnExactWordsOf.f
  by_cases h : (s.size : Int) > 1048576
  · rw [if_pos h]
  · rw [if_neg h, spec_words s 5000 (by omega)]
    have hl := wordsR_len s
    have hi : impl_WordsOf.f s = some (wordsR s) := rfl
    rw [hi]
    obtain ⟨q, hq⟩ : ∃ q, wordsR s = q := ⟨_, rfl⟩
    rw [hq] at hl ⊢
    clear hq hi
    obtain ⟨c, l⟩ := q
    simp only at hl
    simp only [Option.bind_some, eqWords c l 5000 hl (by omega), markWords c l 5000 hl (by omega), heldWords c l.length 5000 hl (by omega), if_true]
    rw [if_neg (by omega), if_neg (by omega)]
end Go.Proofs.YtknhjeabldlimaaDoor.Words
