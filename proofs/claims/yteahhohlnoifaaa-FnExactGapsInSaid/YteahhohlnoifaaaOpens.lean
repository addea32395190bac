/- An argument read off its datum: the cells of whole numbers, bools, rows, structs and rows of structs, as values of Lean's own types. -/
import Derived.Test.YteahhohlnoifaaaQZx0
import Derived.Deep.Slices
import Derived.ChangeArms
namespace Go.Proofs.Yteahhohlnoifaaa.QZ
open Go.RowKit Go.Deep Go.Proofs.YteahhohlnoifaaaW.PrintWords Go.Proofs.YteahhohlnoifaaaW.PrintLast Go.Proofs.YteahhohlnoifaaaW.PrintMore
set_option linter.unusedVariables false

/-- What reads as a datum of type t holds a value of the kind d. -/
def Opens {H : Type} (enc : TypeId × Value → H) (P : Program) (w : World) (base : Nat) (spare : Nat → Bool) (held : Bool) (t : TypeId) {α : Type} (d : Kd α) : Prop :=
  ∀ fuel cs x, DataW.trod enc P w base spare held fuel t cs = some x → ∃ a, d.K w a cs
theorem ex_list {α : Type} {Q : Nat → α → Prop} : ∀ n, (∀ i, i < n → ∃ p, Q i p) → ∃ l : List α, l.length = n ∧ ∀ i p, l[i]? = some p → Q i p
  | 0, _ => ⟨[], rfl, fun i p h => by simp at h⟩
  | n + 1, h => by
      obtain ⟨l, hl, hq⟩ := ex_list n (fun i hi => h i (by omega))
      obtain ⟨p, hp⟩ := h n (by omega)
      refine ⟨l ++ [p], by simp [hl], fun i q hi => ?_⟩
      by_cases h1 : i < n
      · rw [List.getElem?_append_left (by omega)] at hi
        exact hq i q hi
      · have h2 := (List.getElem?_eq_some_iff.1 hi).1
        simp only [List.length_append, List.length_cons, List.length_nil] at h2
        have h3 : i = n := by omega
        subst h3
        rw [← hl, List.getElem?_concat_length] at hi
        injection hi with hi
        rw [← hi]
        exact hp
section
variable {H : Type} {enc : TypeId × Value → H} {P : Program} {w : World} {base : Nat} {spare : Nat → Bool} {held : Bool} {t e : TypeId} {α β : Type} {d : Kd α} {d' : Kd β}
theorem opens_int {k : IntKind} (ht : P.underlying t = some (.int k)) : Opens enc P w base spare held t (Kd.int k) := fun fuel cs x h => by
  obtain ⟨n, rfl, _⟩ := DataW.trod_int ht h
  exact ⟨n, rfl⟩
theorem opens_bool (ht : P.underlying t = some .bool) : Opens enc P w base spare held t Kd.bool := fun fuel cs x h => by
  obtain ⟨n, rfl, _⟩ := DataW.trod_bool ht h
  exact ⟨n, rfl⟩
theorem cells_seg {w : World} {base n : Nat} {a : Addr} {cs : List Value} (h : w.cells? base a n = some cs) : cs.length = n ∧ ∀ i u, cs[i]? = some u → w.cell? (a.add i) = some u := by
  obtain ⟨_, hl, ha⟩ := World.cells?_some h
  refine ⟨hl, fun i u hu => ?_⟩
  have hi : i < cs.length := (List.getElem?_eq_some_iff.1 hu).1
  rw [ha i (by omega), hu]
/-- A row of elements, at any number of cells an element. -/
theorem opens_row (ht : P.underlying t = some (.slice e)) (hc : P.cellsOf e = d.sz) (he : Opens enc P w base spare held e d) {fuel : Nat} {cs : List Value} {x : DataW H × List MemPlace} (h : DataW.trod enc P w base spare held fuel t cs = some x) :
    ∃ A c l, cs = [.slice A l.length c] ∧ l.length ≤ c ∧ d.C w A l.length l := by
  rcases open_slice ht h with ⟨hcs, _⟩ | ⟨a, len, cap, m, n, D, Pl, hcs, hb, hl, hm, hmm, hx, hi⟩
  · exact ⟨none, 0, [], hcs, Nat.le_refl _, rfl, Nat.zero_le _, fun h => absurd h (Nat.lt_irrefl _)⟩
  · have hlm : len ≤ m := by rw [hmm]; split <;> omega
    obtain ⟨l, hll, hq⟩ := ex_list (α := α) (Q := fun i p => ∃ c, c.length = d.sz ∧ d.K w p c ∧ ∀ j u, c[j]? = some u → w.cell? (a.add (i * d.sz + j)) = some u) len (fun i h1 => by
      obtain ⟨cs', hc', ht'⟩ := hi i (by omega)
      obtain ⟨p, hp⟩ := he _ _ _ ht'
      rw [hc] at hc'
      obtain ⟨h2, h3⟩ := cells_seg hc'
      exact ⟨p, cs', h2, hp, fun j u hu => by rw [← h3 j u hu, Go.Deep.add_add]⟩)
    subst hll
    refine ⟨some a, cap, l, hcs, hl, rfl, ?_, fun _ => ⟨a, rfl, hq⟩⟩
    have : maxLen = 9223372036854775807 := rfl
    omega
theorem opens_slice (e0 : Nat) (ht : P.underlying t = some (.slice e)) (hc : P.cellsOf e = d.sz) (he : Opens enc P w base spare held e d) : Opens enc P w base spare held t (Kd.slice e0 d) := fun fuel cs x h => by
  obtain ⟨A, c, l, hcs, hl, hC⟩ := opens_row ht hc he h
  exact ⟨l, A, c, hcs, hl, hC⟩
/-- The cells from an offset on hold a value of the kind d. -/
def From (w : World) (cs : List Value) (off : Nat) {α : Type} (d : Kd α) : Prop := ∃ a, d.K w a (cs.drop off)
theorem from_last {cs : List Value} {off : Nat} (h : ∃ a, d.K w a ((cs.drop off).take d.sz)) (hl : cs.length = off + d.sz) : From w cs off d := by
  obtain ⟨a, ha⟩ := h
  rw [List.take_of_length_le (by rw [List.length_drop]; omega)] at ha
  exact ⟨a, ha⟩
theorem from_cons {cs : List Value} {off n : Nat} (h : ∃ a, d.K w a ((cs.drop off).take d.sz)) (hn : n = off + d.sz) (h' : From w cs n d') : From w cs off (Kd.pair d d') := by
  obtain ⟨a, ha⟩ := h
  obtain ⟨b, hb⟩ := h'
  subst hn
  refine ⟨(a, b), _, _, ?_, ha, hb⟩
  rw [← List.drop_drop, List.take_append_drop]
theorem opens_field {fs : Array Field} {fuel : Nat} {cs : List Value} {x : DataW H × List MemPlace} (ht : P.underlying t = some (.struct fs)) (h : DataW.trod enc P w base spare held fuel t cs = some x) :
    cs.length = P.cellsOf t ∧ ∀ (i : Nat) (f : Field) {γ : Type} (k : Kd γ), fs[i]? = some f → Opens enc P w base spare held f.type k → P.cellsOf f.type = k.sz → ∃ a, k.K w a ((cs.drop f.offset).take k.sz) := by
  obtain ⟨xs, n, _, _, hcs, hxs, hf⟩ := DataW.trod_struct ht h
  refine ⟨hcs, fun i f γ k hi ho hs => ?_⟩
  have h1 := hf i f hi
  have h2 : i < xs.length := by rw [hxs]; exact (Array.getElem?_eq_some_iff.1 hi).1
  rw [List.getElem?_eq_getElem h2, hs] at h1
  exact ho _ _ _ h1
theorem opens_iso {f : β → α} (hf : ∀ a, ∃ b, f b = a) (h : Opens enc P w base spare held t d) : Opens enc P w base spare held t (Kd.iso d f) := fun fuel cs x hx => by
  obtain ⟨a, ha⟩ := h _ _ _ hx
  obtain ⟨b, hb⟩ := hf a
  refine ⟨b, ?_⟩
  show d.K w (f b) cs
  rw [hb]
  exact ha
end

section
variable {H : Type} {enc : TypeId × Value → H} {w : World} {base : Nat} {spare : Nat → Bool} {held : Bool}
theorem o2 : Opens enc Try.prog w base spare held 2 (Kd.int .i64) := opens_int (by kernel_rfl)
theorem o4 : Opens enc Try.prog w base spare held 4 Kd.bool := opens_bool (by kernel_rfl)
theorem o24 : Opens enc Try.prog w base spare held 24 (Kd.slice 2 (Kd.int .i64)) := opens_slice 2 (e := 2) (by kernel_rfl) (by kernel_rfl) o2
theorem o35 : Opens enc Try.prog w base spare held 35 (Kd.slice 24 (Kd.slice 2 (Kd.int .i64))) := opens_slice 24 (e := 24) (by kernel_rfl) (by kernel_rfl) o24
theorem o45 : Opens enc Try.prog w base spare held 45 k45 := opens_iso (fun a => ⟨⟨a.1, a.2.1, a.2.2.1, a.2.2.2⟩, rfl⟩) (fun fuel cs x h => by
  obtain ⟨hl, hf⟩ := opens_field Try.underlying45 h
  have hl' : cs.length = 4 := hl.trans (by kernel_rfl)
  have := from_cons (hf 0 _ _ rfl o2 (by kernel_rfl)) (n := 1) rfl (from_cons (hf 1 _ _ rfl o2 (by kernel_rfl)) (n := 2) rfl (from_cons (hf 2 _ _ rfl o4 (by kernel_rfl)) (n := 3) rfl (from_last (hf 3 _ _ rfl o4 (by kernel_rfl)) hl')))
  exact this)
theorem o47 : Opens enc Try.prog w base spare held 47 k47 := opens_iso (fun a => ⟨⟨a.1, a.2.1, a.2.2.1, a.2.2.2.1, a.2.2.2.2.1, a.2.2.2.2.2.1, a.2.2.2.2.2.2.1, a.2.2.2.2.2.2.2⟩, rfl⟩) (fun fuel cs x h => by
  obtain ⟨hl, hf⟩ := opens_field Try.underlying47 h
  have hl' : cs.length = 8 := hl.trans (by kernel_rfl)
  have := from_cons (hf 0 _ _ rfl o2 (by kernel_rfl)) (n := 1) rfl (from_cons (hf 1 _ _ rfl o2 (by kernel_rfl)) (n := 2) rfl (from_cons (hf 2 _ _ rfl o2 (by kernel_rfl)) (n := 3) rfl (from_cons (hf 3 _ _ rfl o2 (by kernel_rfl)) (n := 4) rfl (from_cons (hf 4 _ _ rfl o2 (by kernel_rfl)) (n := 5) rfl
    (from_cons (hf 5 _ _ rfl o24 (by kernel_rfl)) (n := 6) rfl (from_cons (hf 6 _ _ rfl o24 (by kernel_rfl)) (n := 7) rfl (from_last (hf 7 _ _ rfl o35 (by kernel_rfl)) hl')))))))
  exact this)
theorem o49 : Opens enc Try.prog w base spare held 49 k49 := opens_iso (fun a => ⟨⟨a.1, a.2.1, a.2.2.1, a.2.2.2.1, a.2.2.2.2.1, a.2.2.2.2.2.1, a.2.2.2.2.2.2.1, a.2.2.2.2.2.2.2.1, a.2.2.2.2.2.2.2.2⟩, rfl⟩) (fun fuel cs x h => by
  obtain ⟨hl, hf⟩ := opens_field Try.underlying49 h
  have hl' : cs.length = 19 := hl.trans (by kernel_rfl)
  have := from_cons (hf 0 _ _ rfl o45 (by kernel_rfl)) (n := 4) rfl (from_cons (hf 1 _ _ rfl o47 (by kernel_rfl)) (n := 12) rfl (from_cons (hf 2 _ _ rfl o24 (by kernel_rfl)) (n := 13) rfl (from_cons (hf 3 _ _ rfl o4 (by kernel_rfl)) (n := 14) rfl (from_cons (hf 4 _ _ rfl o2 (by kernel_rfl)) (n := 15) rfl
    (from_cons (hf 5 _ _ rfl o2 (by kernel_rfl)) (n := 16) rfl (from_cons (hf 6 _ _ rfl o24 (by kernel_rfl)) (n := 17) rfl (from_cons (hf 7 _ _ rfl o24 (by kernel_rfl)) (n := 18) rfl (from_last (hf 8 _ _ rfl o24 (by kernel_rfl)) hl'))))))))
  exact this)
/-- The argument of the laws over outcomes. -/
theorem openOutcomes {v : Value} {d : DataW H} {ps : List MemPlace} (h : DataW.Trod enc Try.prog w base spare held 22 v d ps) (hs : ∃ A n c, v = .slice A n c) : ∃ A c l, v = .slice A l.length c ∧ k49.C w A l.length l := by
  obtain ⟨fuel, hf⟩ := h
  obtain ⟨A, n, c, rfl⟩ := hs
  obtain ⟨A', c', l, hcs, _, hC⟩ := opens_row (e := 49) (d := k49) (by kernel_rfl) (by kernel_rfl) o49 hf
  simp [Value.cells] at hcs
  obtain ⟨rfl, rfl, rfl⟩ := hcs
  exact ⟨_, _, l, rfl, hC⟩
end
end Go.Proofs.Yteahhohlnoifaaa.QZ
