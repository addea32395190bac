/- What the laws' functions that write marks return, and what they write: the count, and nothing but whole numbers and bools of the rows that they are given; counts below 2^60. -/
import Derived.Test.YteahhohlnoifaaaHar3
namespace Go.Proofs.Yteahhohlnoifaaa.QZ
open Go.RowKit Go.Proofs.YteahhohlnoifaaaW.PrintWords Go.Proofs.YteahhohlnoifaaaW.PrintLast Go.Proofs.YteahhohlnoifaaaW.PrintMore Go.Proofs.Yteahhohlnoifaaa.Big
set_option linter.unusedVariables false
set_option linter.unusedSimpArgs false


/-- Only whole numbers and bools in blocks of S have turned. -/
structure Wr (w w' : World) (S : Nat → Prop) : Prop where
  os : w'.os = w.os
  tape : w'.tape = w.tape
  output : w'.output = w.output
  size : w'.heap.size = w.heap.size
  other : ∀ k, ¬ S k → w'.heap[k]? = w.heap[k]?
  frozen : ∀ a, w'.frozen? a = w.frozen? a
  int : ∀ a, (∃ z, w.cell? a = some (.int .i64 z)) → ∃ z, w'.cell? a = some (.int .i64 z)
  bool : ∀ a, (∃ b, w.cell? a = some (.bool b)) → ∃ b, w'.cell? a = some (.bool b)
  slc : ∀ a A n c, w.cell? a = some (.slice A n c) → w'.cell? a = some (.slice A n c)
theorem Wr.refl (w : World) (S : Nat → Prop) : Wr w w S := ⟨rfl, rfl, rfl, rfl, fun _ _ => rfl, fun _ => rfl, fun _ h => h, fun _ h => h, fun _ _ _ _ h => h⟩
theorem Wr.trans {w w1 w2 : World} {S : Nat → Prop} (h : Wr w w1 S) (k : Wr w1 w2 S) : Wr w w2 S :=
  ⟨k.os.trans h.os, k.tape.trans h.tape, k.output.trans h.output, k.size.trans h.size, fun i hi => (k.other i hi).trans (h.other i hi), fun a => (k.frozen a).trans (h.frozen a), fun a ha => k.int a (h.int a ha), fun a ha => k.bool a (h.bool a ha), fun a A n c ha => k.slc a A n c (h.slc a A n c ha)⟩
theorem Wr.setInt {w w1 : World} {S : Nat → Prop} (h : Wr w w1 S) {ad : Addr} (hc : ∃ z, w1.cell? ad = some (.int .i64 z)) (hS : S ad.block) (u : Int) : Wr w (w1.setCell ad (.int .i64 u)) S := by
  refine h.trans ⟨rfl, rfl, rfl, by simp [World.setCell], fun k hk => Below.heap_setCell w1 ad _ k (fun e => hk (e ▸ hS)), fun a => World.frozen?_setCell _ _ _ _, fun a ha => ?_, fun a ha => ?_, fun a A n c ha => ?_⟩
  · by_cases e : ad = a
    · subst e; obtain ⟨z, hz⟩ := hc; exact ⟨u, World.cell?_setCell_same _ _ _ hz⟩
    · rw [World.cell?_setCell_other _ _ _ _ e]; exact ha
  · by_cases e : ad = a
    · subst e; obtain ⟨z, hz⟩ := hc; obtain ⟨b, hb⟩ := ha; rw [hz] at hb; simp at hb
    · rw [World.cell?_setCell_other _ _ _ _ e]; exact ha
  · by_cases e : ad = a
    · subst e; obtain ⟨z, hz⟩ := hc; rw [hz] at ha; simp at ha
    · rw [World.cell?_setCell_other _ _ _ _ e]; exact ha
theorem Wr.setBool {w w1 : World} {S : Nat → Prop} (h : Wr w w1 S) {ad : Addr} (hc : ∃ b, w1.cell? ad = some (.bool b)) (hS : S ad.block) (u : Bool) : Wr w (w1.setCell ad (.bool u)) S := by
  refine h.trans ⟨rfl, rfl, rfl, by simp [World.setCell], fun k hk => Below.heap_setCell w1 ad _ k (fun e => hk (e ▸ hS)), fun a => World.frozen?_setCell _ _ _ _, fun a ha => ?_, fun a ha => ?_, fun a A n c ha => ?_⟩
  · by_cases e : ad = a
    · subst e; obtain ⟨z, hz⟩ := hc; obtain ⟨b, hb⟩ := ha; rw [hz] at hb; simp at hb
    · rw [World.cell?_setCell_other _ _ _ _ e]; exact ha
  · by_cases e : ad = a
    · subst e; obtain ⟨z, hz⟩ := hc; exact ⟨u, World.cell?_setCell_same _ _ _ hz⟩
    · rw [World.cell?_setCell_other _ _ _ _ e]; exact ha
  · by_cases e : ad = a
    · subst e; obtain ⟨z, hz⟩ := hc; rw [hz] at ha; simp at ha
    · rw [World.cell?_setCell_other _ _ _ _ e]; exact ha
/-- A row of whole numbers that may be written. -/
def IntRow (w : World) (S : Nat → Prop) (A : Option Addr) (n : Nat) : Prop := n ≤ 9223372036854775807 ∧ (0 < n → ∃ ad, A = some ad ∧ S ad.block ∧ ∀ j, j < n → (∃ z, w.cell? (ad.add j) = some (.int .i64 z)) ∧ w.frozen? (ad.add j) = false)
theorem IntRow.wr {w w1 : World} {S : Nat → Prop} {A : Option Addr} {n : Nat} (h : IntRow w S A n) (hw : Wr w w1 S) : IntRow w1 S A n :=
  ⟨h.1, fun hn => by obtain ⟨ad, e, hs, hc⟩ := h.2 hn; exact ⟨ad, e, hs, fun j hj => ⟨hw.int _ (hc j hj).1, (hw.frozen _).trans (hc j hj).2⟩⟩⟩
def RowsOk (w : World) (S : Nat → Prop) (A : Option Addr) (l : List (List Int)) : Prop := l.length ≤ 9223372036854775807 ∧ ∀ i x, l[i]? = some x → ∃ ad A0 c0, A = some ad ∧ w.cell? (ad.add i) = some (.slice A0 x.length c0) ∧ IntRow w S A0 x.length
theorem RowsOk.wr {w w1 : World} {S : Nat → Prop} {A : Option Addr} {l : List (List Int)} (h : RowsOk w S A l) (hw : Wr w w1 S) : RowsOk w1 S A l :=
  ⟨h.1, fun i x hx => by obtain ⟨ad, A0, c0, e, hc, hr⟩ := h.2 i x hx; exact ⟨ad, A0, c0, e, hw.slc _ _ _ _ hc, hr.wr hw⟩⟩
/-- The count goes on by n. -/
def MarkPost (S : Nat → Prop) (n : Nat) (a : Int) (w : World) (e : Ending) (w' : World) : Prop := ∃ r : Int, e = .returned (.int .i64 r) ∧ r = a + n ∧ Wr w w' S

set_option maxHeartbeats 4000000 in
set_option maxRecDepth 100000 in
theorem markInt64S_wr (A : Option Addr) (c n : Nat) (a : Int) (S : Nat → Prop) (w : World) (hR : IntRow w S A n) (h0 : 0 ≤ a) (h1 : a + n ≤ 1152921504606846976) :
    Calls Try.prog 29 #[.slice A n c, .int .i64 a] w (MarkPost S n a w) := by
  have HR := Aside0.mk hR
  have H01 := Aside0.mk (And.intro h0 h1)
  clear hR h0 h1
  go_enter Try.func29, Try.ntmps29
  go_wp2
  go_loopg [1, 5] n (fun gk v1 v5 w' => ∃ (r : Int) (i : Nat), v1 = .int .i64 r ∧ v5 = .int .i64 (i : Int) ∧ Aside0 (i + gk = n) ∧ Aside0 (r = a + i) ∧ Aside0 (Wr w w' S))
  case atStart => exact ⟨a, 0, rfl, rfl, ⟨by omega⟩, ⟨by simp⟩, ⟨Wr.refl _ _⟩⟩
  case round =>
    obtain ⟨r, i, rfl, rfl, HI, HRR, HW⟩ := hrel
    by_cases hlt : i < n
    · have b2 : decide (i < n) = true := decide_eq_true hlt
      have b3 : (i : Int) < (n : Int) := by omega
      have HLT := Aside0.mk hlt
      obtain ⟨ad, hA, hS, hc⟩ := (HR.out.wr HW.out).2 (by omega)
      subst hA
      have HS := Aside0.mk hS
      have HC := Aside0.mk (hc i hlt)
      clear hlt hc hS
      obtain ⟨z, hz⟩ := HC.out.1
      have HZ := Aside0.mk hz
      clear hz
      go_wp2_with (first | ((with_reducible refine gate_store (t := 2) (p := 15) rfl ?_); refine store_one rfl rfl 2 15 _ rfl (ad.add i) rfl (.int .i64 r) rfl rfl rfl (.int .i64 z) HZ.out HC.out.2 size2 ?_; have HWn := Aside0.mk (HW.out.setInt HC.out.1 (by rw [add_block]; exact HS.out) r); clear HW; have HW := HWn; clear HWn))
      go_roundg (n - (i + 1))
      case measure => have := HI.out; have := HLT.out; omega
      case rel => exact ⟨r + 1, i + 1, by rw [show wrap64 (r + 1) = r + 1 from by have h1 := H01.out; have h2 := HLT.out; have h3 := HRR.out; unfold wrap64; omega], by rw [show wrap64 ((i : Int) + 1) = ((i + 1 : Nat) : Int) from by have h1 := HR.out.1; have h2 := HLT.out; unfold wrap64; omega], ⟨by have := HLT.out; omega⟩, ⟨by rw [HRR.out]; omega⟩, HW⟩
    · have b2 : decide (i < n) = false := decide_eq_false hlt
      have HE := Aside0.mk (show i = n by have := HI.out; omega)
      clear hlt
      go_wp2
      go_ret
      exact ⟨_, rfl, by rw [HRR.out, HE.out], HW.out⟩

theorem sum_take_le {α : Type} (f : α → Nat) : ∀ (l : List α) (i : Nat), ((l.take i).map f).sum ≤ (l.map f).sum
  | [], i => by simp
  | a :: l, 0 => by simp
  | a :: l, i + 1 => by have := sum_take_le f l i; simp only [List.take_succ_cons, List.map_cons, List.sum_cons]; omega

set_option maxHeartbeats 4000000 in
set_option maxRecDepth 100000 in
theorem markInt64SS_wr (A : Option Addr) (c : Nat) (l : List (List Int)) (a : Int) (S : Nat → Prop) (w : World) (hR : RowsOk w S A l) (h0 : 0 ≤ a) (h1 : a + lenSum l ≤ 1152921504606846976) :
    Calls Try.prog 30 #[.slice A l.length c, .int .i64 a] w (MarkPost S (lenSum l) a w) := by
  have HR := Aside0.mk hR
  have H01 := Aside0.mk (And.intro h0 h1)
  clear hR h0 h1
  go_enter Try.func30, Try.ntmps30
  go_wp2
  go_loopg [1, 5] l.length (fun gk v1 v5 w' => ∃ (r : Int) (i : Nat), v1 = .int .i64 r ∧ v5 = .int .i64 (i : Int) ∧ Aside0 (i + gk = l.length) ∧ Aside0 (r = a + ((l.take i).map List.length).sum) ∧ Aside0 (Wr w w' S))
  case atStart => exact ⟨a, 0, rfl, rfl, ⟨by omega⟩, ⟨by simp⟩, ⟨Wr.refl _ _⟩⟩
  case round =>
    obtain ⟨r, i, rfl, rfl, HI, HRR, HW⟩ := hrel
    by_cases hlt : i < l.length
    · have b2 : decide (i < l.length) = true := decide_eq_true hlt
      have b3 : (i : Int) < (l.length : Int) := by omega
      have HLT := Aside0.mk hlt
      have hx := List.getElem?_eq_getElem hlt
      obtain ⟨x, hxx⟩ : ∃ x, l[i]? = some x := ⟨_, hx⟩
      obtain ⟨ad, A0, c0, hA, hc, hrow⟩ := (HR.out.wr HW.out).2 i x hxx
      subst hA
      have hs := sum_snoc List.length l i x hxx
      have hle := sum_take_le List.length l (i + 1)
      have HN := Aside0.mk (show 0 ≤ r ∧ r + x.length ≤ 1152921504606846976 by have h1 := H01.out; have h2 := HRR.out; unfold lenSum at h1; omega)
      have HSN := Aside0.mk hs
      have HROW := Aside0.mk hrow
      have HC := Aside0.mk hc
      clear hlt hc hx hxx hrow hs hle
      go_wp2_with (first | ((with_reducible refine gate_dst (N := 15) rfl ?_); refine load_one rfl 24 _ rfl (ad.add i) rfl (ag24 _) (.slice A0 x.length c0) HC.out ?_) | ((with_reducible refine gate_dst (N := 17) rfl ?_); refine goesL_ (some 17) rfl rfl Try.func29 (by kernel_rfl) rfl #[.slice A0 x.length c0, .int .i64 r] rfl (by (try simp only [List.map_toArray, List.map_cons, List.map_nil]); first | done | rfl) ?_; (refine (markInt64S_wr A0 c0 x.length r S _ HROW.out HN.out.1 HN.out.2).mono ?_); rintro e w_ ⟨r1, rfl, hr1, hw1⟩; refine ⟨_, rfl, ?_⟩; have HR1 := Aside0.mk hr1; have HWn := Aside0.mk (HW.out.trans hw1); clear HW hr1 hw1; have HW := HWn; clear HWn))
      go_roundg (l.length - (i + 1))
      case measure => have := HI.out; have := HLT.out; omega
      case rel => exact ⟨r1, i + 1, rfl, by rw [show wrap64 ((i : Int) + 1) = ((i + 1 : Nat) : Int) from by have h1 := HR.out.1; have h2 := HLT.out; unfold wrap64; omega], ⟨by have := HLT.out; omega⟩, ⟨by rw [HR1.out, HRR.out, HSN.out]; omega⟩, HW⟩
    · have b2 : decide (i < l.length) = false := decide_eq_false hlt
      have HLE := Aside0.mk (show l.take i = l from List.take_of_length_le (by have := HI.out; omega))
      clear hlt
      go_wp2
      go_ret
      exact ⟨_, rfl, by rw [HRR.out, HLE.out]; rfl, HW.out⟩

end Go.Proofs.Yteahhohlnoifaaa.QZ
