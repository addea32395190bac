/- The words of a line as the program reads them: the library's Split and DeleteFunc at this dump; lines of at most 2^20 bytes; the library's variable MaxLen holds a number. -/
import Derived.Test.YtknhjeabldlimaaDoorShelfC
import Derived.Lib.SplitLaws
import Derived.Test.YtknhjeabldlimaaDoorFate0
namespace Go.Proofs.YtknhjeabldlimaaDoor.Words
open Go.RowKit Go.Proofs.YtknhjeabldlimaaDoorW.PrintWords Go.Proofs.YtknhjeabldlimaaDoorW.PrintLast Go.Proofs.YtknhjeabldlimaaDoorW.PrintMore Go.Proofs.YtknhjeabldlimaaDoor.Big
open Go.Sort (Holds putRow putCells mapBlock)
set_option linter.unusedVariables false
set_option linter.unusedSimpArgs false
def MaxIn (w : World) : Prop := ∃ m, w.cell? ⟨3, 0, none⟩ = some (.int .i64 m)
theorem MaxIn.below {w w1 : World} (h : MaxIn w) (hb : Below w.heap.size w w1) : MaxIn w1 := by
  obtain ⟨m, hm⟩ := h
  exact ⟨m, pw_cell_below hb hm⟩
def blank : ByteArray := ⟨#[32]⟩
/-- The line, cut at its blanks. -/
def cuts (sep s : ByteArray) : List ByteArray := Lib.splitB sep 0 (Lib.countB s sep) s
def wordsL (s : ByteArray) : List ByteArray := (cuts blank s).filter fun x => !x.toList.isEmpty
def wordsR (s : ByteArray) : Int × List ByteArray := if (s.size : Int) > 2000 then (2, []) else (0, wordsL s)
theorem gives47 (x : ByteArray) (W : World) : Go.Proofs.FnGives Tryd.prog 47 #[] #[.string x] (.bool x.toList.isEmpty) W := by
  show Calls Tryd.prog 47 #[.string x] W _
  go_enter Tryd.func47, Tryd.ntmps47
  go_wp2
  go_ret
  exact ⟨rfl, 0, rfl⟩
/-- A row of the call's own, at its block, held as strings. -/
theorem row_put (W : World) (g q : Nat) (d : List ByteArray) (d2 : Array ByteArray) (w : World) (hg : W = w.alloc (.cells (d.map Value.string).toArray 9)) (hgg : g = w.heap.size) (hs : d2.size = d.length) :
    (putRow Value.string (Go.Sort.ahead W q) g 0 d2).heap[g]? = some (.cells (d2.toList.map Value.string).toArray 9 (0, 0)) ∧ Below w.heap.size w (putRow Value.string (Go.Sort.ahead W q) g 0 d2) := by
  subst hg hgg
  have hb : (Go.Sort.ahead (w.alloc (.cells (d.map Value.string).toArray 9)) q).heap[w.heap.size]? = some (.cells (d.map Value.string).toArray 9 (0, 0)) := blk_new w _
  refine ⟨?_, ?_⟩
  · unfold putRow mapBlock
    simp only [Array.getElem?_modify, if_true]
    rw [hb]
    simp only [Option.map_some, Go.Sort.onCells]
    congr 2
    apply Array.ext_getElem?
    intro k
    unfold putCells
    rw [Array.getElem?_mapIdx]
    by_cases hk : k < d.length
    · have h1 : (d.map Value.string).toArray[k]? = some (.string d[k]) := by simp [hk]
      have hk2 : k < d2.size := by omega
      rw [h1]
      simp [hk2]
    · have h1 : (d.map Value.string).toArray[k]? = none := by
        apply Array.getElem?_eq_none; simp; omega
      have h2 : (d2.toList.map Value.string).toArray[k]? = none := by
        apply Array.getElem?_eq_none; simp; omega
      rw [h1, h2]
      rfl
  · refine ⟨rfl, rfl, rfl, ?_, ?_⟩
    · show w.heap.size ≤ ((w.heap.push _).modify w.heap.size _).size
      rw [Array.size_modify, Array.size_push]; omega
    · intro k hk
      show ((w.heap.push _).modify w.heap.size _)[k]? = w.heap[k]?
      rw [Array.getElem?_modify, if_neg (by omega), Array.getElem?_push, if_neg (by omega)]
theorem delete_any (d : List ByteArray) (w w1 : World) (h1 : w1 = w.alloc (.cells (d.map Value.string).toArray 9)) (hd : d.length ≤ 1048577) (hne : d.length ≤ maxLen) :
    Calls Tryd.prog 46 #[.slice (some ⟨w.heap.size, 0, none⟩) d.length d.length, .func (.func 47) #[] #[]] w1 fun e w' => ∃ v, e = .returned v ∧ Kd.R Kd.string 9 w' w.heap.size (fun _ => True) v (d.filter fun x => !x.toList.isEmpty) ∧ Below w.heap.size w w' := by
  have eg : ∀ args w, (callFunc 47 args).run Tryd.prog w = .ok (.enter 47 args) w := enters_of Tryd.func47 (by kernel_rfl) rfl
  have hb : w1.heap[w.heap.size]? = some (.cells (d.map Value.string).toArray 9 (0, 0)) := by rw [h1]; exact blk_new w _
  have hH : Holds Value.string w1 w.heap.size 0 d.toArray := by
    intro j hj
    have hj' : j < d.length := by simpa using hj
    refine ⟨?_, ?_⟩
    · rw [blk_cell hb (0 + j)]
      simp [hj']
    · simp [World.frozen?, hb]
  have hcon := Go.Proofs.AnyE.slices_DeleteFunc Tryd.laysDF Value.string (fun _ => rfl) (fun x => x.toList.isEmpty) 47 #[] eg ⟨#[]⟩ Tryd.zeroValue9 w.heap.size 0 d.length d.toArray w1
    (fun W x _ => gives47 x W) (fun n os dk x _ => gives47 x _) hH (by simp; omega) (by simp)
  have e1 : d.toArray.size = d.length := by simp
  rw [e1] at hcon
  change Calls Tryd.prog 46 _ _ _ at hcon
  refine hcon.mono fun e w' hh => ?_
  obtain ⟨he, q, hw⟩ := hh
  simp only [List.toList_toArray] at he hw
  obtain ⟨r1, r2⟩ := row_put w1 w.heap.size q d ((d.filter fun x : ByteArray => !x.toList.isEmpty) ++ List.replicate (d.length - (d.filter fun x : ByteArray => !x.toList.isEmpty).length) (⟨#[]⟩ : ByteArray)).toArray w h1 rfl (by
    have := List.length_filter_le (fun x : ByteArray => !x.toList.isEmpty) d
    simp only [List.size_toArray, List.length_append, List.length_replicate]; omega)
  subst hw
  refine ⟨_, he, ?_, r2⟩
  have hfl := List.length_filter_le (fun x : ByteArray => !x.toList.isEmpty) d
  obtain ⟨xs, hxs⟩ : ∃ xs, (d.filter fun x => !x.toList.isEmpty) = xs := ⟨_, rfl⟩
  rw [hxs] at r1 hfl ⊢
  refine Kd.R_of_own ⟨by simp [encs], Or.inr ⟨w.heap.size, d.length, _, rfl, Nat.le_refl _, r1, hfl, hne, ?_, ?_⟩⟩ (fun _ _ => trivial)
  · simp; omega
  · simp [encs]
set_option maxHeartbeats 1000000 in
theorem wordsOf_any (s : ByteArray) (hs : s.size ≤ 1048576) (w : World) (hm : MaxIn w) : Calls Tryd.prog 33 #[.string s] w fun e w' => ∃ v, e = .returned v ∧ Kd.R Kd.string 9 w' w.heap.size (fun _ => True) v (wordsL s) ∧ Below w.heap.size w w' := by
  obtain ⟨m, hm⟩ := hm
  have hcut := Tryd.strings_Split s blank m w (by omega) hm (by decide)
  have hlen : (cuts blank s).length = Lib.countB s blank + 1 := Lib.splitB_all blank (by decide) 0 _ s rfl
  rw [← hlen] at hcut
  have hle : Lib.countB s blank ≤ 1048576 := Nat.le_trans (Lib.countB_le blank (by decide) s.size s (Nat.le_refl _)) hs
  have HL := Aside0.mk (show (cuts blank s).length ≤ 1048577 by omega)
  have HM := Aside0.mk (show (cuts blank s).length ≤ maxLen by unfold maxLen; omega)
  have HC := Aside0.mk hcut
  clear hcut hlen hle hm
  go_enter Tryd.func33, Tryd.ntmps33
  go_wp2_with (first | (go_at_call 29; refine HC.out.mono ?_; rintro e w1_ ⟨rfl, hw_⟩; have HW := Aside0.mk hw_; clear hw_) | (go_at_call 46; refine (delete_any (cuts blank s) w _ HW.out HL.out HM.out).mono ?_; rintro e w2_ ⟨v, rfl, hr_, hb_⟩; have HR := Aside0.mk hr_; have HB := Aside0.mk hb_; clear hr_ hb_))
  go_ret
  exact ⟨_, rfl, HR.out, HB.out⟩
end Go.Proofs.YtknhjeabldlimaaDoor.Words
