/- The program's number of a text, whatever text of at most 2^20 bytes: the library's table and its two errors read as they are laid. -/
import Derived.Test.YtknhjeabldlimaaDoorShelfB
import Derived.Test.YtknhjeabldlimaaDoorFate0
namespace Go.Proofs.YtknhjeabldlimaaDoor.Num
open Go.RowKit Go.Proofs.YtknhjeabldlimaaDoorW.PrintWords Go.Proofs.YtknhjeabldlimaaDoorW.PrintLast Go.Proofs.YtknhjeabldlimaaDoorW.PrintMore Go.Proofs.YtknhjeabldlimaaDoor.Big Go.Proofs.YtknhjeabldlimaaDoor.Fate
set_option linter.unusedVariables false
set_option linter.unusedSimpArgs false
/-- What the program reads in a text, and whether it is a number. -/
def numV (s : ByteArray) : Int := match Lib.parseIntB 64 s.data.toList with
  | .ok v => v
  | .range => Lib.intSat 64 s.data.toList
  | _ => 0
def trimmed (s : ByteArray) : ByteArray := ⟨(Lib.trimPrefix s.data.toList [45]).toArray⟩
def okV (s : ByteArray) : Bool := match Lib.parseIntB 64 s.data.toList with
  | .ok v => ((dec v).toList == s.toList) && decide (((trimmed s).size : Int) ≤ 7)
  | _ => false
/-- The library's table and its two errors read as they are laid. -/
structure NumVars (w : World) : Prop where
  tab : Tab w
  syn : ∃ tp p, w.var? Tryd.prog "strconv.ErrSyntax" = some #[.iface tp p]
  rng : ∃ tp p, w.var? Tryd.prog "strconv.ErrRange" = some #[.iface tp p]
theorem var_below {w w1 : World} {n : String} {cs : Array Value} (h : w.var? Tryd.prog n = some cs) (hb : Below w.heap.size w w1) : w1.var? Tryd.prog n = some cs := by
  unfold World.var? at h ⊢
  cases hg : Tryd.prog.globalNamed n with
  | none => rw [hg] at h; cases h
  | some g =>
    rw [hg] at h
    simp only [Option.bind_some] at h ⊢
    have hlt : g < w.heap.size := by
      cases hh : w.heap[g]? with
      | none => rw [hh] at h; cases h
      | some o => exact (Array.getElem?_eq_some_iff.1 hh).1
    rw [hb.block g hlt]; exact h
theorem NumVars.below {w w1 : World} (h : NumVars w) (hb : Below w.heap.size w w1) : NumVars w1 :=
  ⟨Lib.tabBelow_of_tabIs h.tab w1 hb, by obtain ⟨tp, p, e⟩ := h.syn; exact ⟨tp, p, var_below e hb⟩, by obtain ⟨tp, p, e⟩ := h.rng; exact ⟨tp, p, var_below e hb⟩⟩
theorem parse_ok (s : ByteArray) (hs : s.size ≤ 1048576) (v : Int) (h : Lib.parseIntB 64 s.data.toList = .ok v) (w : World) : Calls Tryd.prog 42 #[.string s, .int .i64 10, .int .i64 64] w fun e w' => e = .returned (.tuple #[.int .i64 v, .nilIface]) ∧ Below w.heap.size w w' := by
  refine (Tryd.strconv_ParseInt_10_at64_ok s (by omega) v h w).mono fun e w' hh => ⟨hh.1, ?_⟩
  rcases hh.2 with rfl | ⟨t, rfl⟩
  · exact Below.refl _ _
  · exact Lib.bytesWorld_below _ _ _
/-- No number, and none that is too great. -/
def isSyn (l : List UInt8) : Bool := match Lib.parseIntB 64 l with
  | .ok _ => false
  | .range => false
  | _ => true
theorem parse_syn (s : ByteArray) (hs : s.size ≤ 1048576) (h : isSyn s.data.toList = true) (w : World) (hv : NumVars w) : Calls Tryd.prog 42 #[.string s, .int .i64 10, .int .i64 64] w fun e w' => ∃ N, e = .returned (.tuple #[.int .i64 0, .iface 85 (.pointer (some ⟨N, 0, none⟩))]) ∧ Below w.heap.size w w' := by
  obtain ⟨tp, p, e⟩ := hv.syn
  unfold isSyn at h
  rcases hp : Lib.parseIntB 64 s.data.toList with v | _ | _
  · rw [hp] at h; cases h
  · exact (Any.strconv_ParseInt_10_at64_syntax_var Tryd.laysC174 s (by omega) hp tp p w e).mono fun e w' ⟨N, h1, _, _, h2⟩ => ⟨N, h1, h2⟩
  · rw [hp] at h; cases h
theorem parse_range (s : ByteArray) (hs : s.size ≤ 1048576) (h : Lib.parseIntB 64 s.data.toList = .range) (w : World) (hv : NumVars w) : Calls Tryd.prog 42 #[.string s, .int .i64 10, .int .i64 64] w fun e w' => ∃ N, e = .returned (.tuple #[.int .i64 (Lib.intSat 64 s.data.toList), .iface 85 (.pointer (some ⟨N, 0, none⟩))]) ∧ Below w.heap.size w w' := by
  obtain ⟨tp, p, e⟩ := hv.rng
  exact (Tryd.strconv_ParseInt_10_at64_range_var s (by omega) h tp p w e).mono fun e w' ⟨N, h1, _, _, h2⟩ => ⟨N, h1, h2⟩
theorem decimal_int (n : Int) (h0 : -9223372036854775808 ≤ n) (h1 : n ≤ 9223372036854775807) (w : World) (ht : Tab w) : Calls Tryd.prog 41 #[.int .i64 n] w fun e w' => e = .returned (.string (dec n)) ∧ Below w.heap.size w w' :=
  (decimal_any n h0 h1 w ht).mono fun _ _ h => h
theorem trim_any (s : ByteArray) (w : World) : Calls Tryd.prog 43 #[.string s, .string ⟨#[45]⟩] w fun e w' => e = .returned (.string (trimmed s)) ∧ w = w' :=
  (Tryd.strings_TrimPrefix s ⟨#[45]⟩ w).mono fun e w' h => ⟨h.1, h.2.symm⟩
theorem trimmed_len (s : ByteArray) : (trimmed s).size = (Lib.trimPrefix s.data.toList [45]).length := by
  show (Lib.trimPrefix s.data.toList [45]).toArray.size = _
  rw [List.size_toArray]
theorem trimmed_size (s : ByteArray) : (trimmed s).size ≤ s.size := by
  rw [trimmed_len]
  have e : s.size = s.data.toList.length := by rw [Array.length_toList]; rfl
  rw [e]
  unfold Lib.trimPrefix
  split
  · rw [List.length_drop]; omega
  · exact Nat.le_refl _
set_option maxHeartbeats 2000000 in
theorem number_any (s : ByteArray) (hs : s.size ≤ 1048576) (w : World) (hv : NumVars w) : Calls Tryd.prog 27 #[.string s] w fun e w' => e = .returned (.tuple #[.int .i64 (numV s), .bool (okV s)]) ∧ Below w.heap.size w w' := by
  have HV := Aside0.mk hv
  have HS := Aside0.mk hs
  clear hv hs
  rcases hp : Lib.parseIntB 64 s.data.toList with v | _ | _
  · skip
    have hb := Lib.parseIntB_bounds hp
    have H0 := Aside0.mk (show -9223372036854775808 ≤ v by omega)
    have H1 := Aside0.mk (show v ≤ 9223372036854775807 by omega)
    have HP := Aside0.mk hp
    have e1 : numV s = v := by unfold numV; rw [hp]
    by_cases h2 : (dec v).toList = s.toList
    · have e2 : okV s = decide (((trimmed s).size : Int) ≤ 7) := by unfold okV; rw [hp]; simp [h2]
      rw [e1, e2]
      have ht := Nat.le_trans (trimmed_size s) HS.out
      have h2b : ((dec v).toList == s.toList) = true := beq_iff_eq.mpr h2
      clear hb hp e1 e2 h2
      go_enter Tryd.func27, Tryd.ntmps27
      go_wp2_with (first | (go_at_call 42; (with_reducible refine (parse_ok s HS.out v HP.out _).mono ?_); rintro e w1_ ⟨rfl, hb_⟩; have HB := Aside0.mk hb_; clear hb_) | (go_at_call 41; (with_reducible refine (decimal_int v H0.out H1.out _ (HV.out.below HB.out).tab).mono ?_); rintro e w2_ ⟨rfl, hb_⟩; have HB2 := Aside0.mk (below_step HB.out hb_); clear hb_) | (go_at_call 43; (with_reducible refine (trim_any s _).mono ?_); rintro e w3_ ⟨rfl, rfl⟩))
      go_ret2
      exact ⟨rfl, HB2.out⟩
    · have e2 : okV s = false := by unfold okV; rw [hp]; simp [h2]
      rw [e1, e2]
      have h2b : ((dec v).toList == s.toList) = false := beq_eq_false_iff_ne.mpr h2
      clear hb hp e1 e2 h2
      go_enter Tryd.func27, Tryd.ntmps27
      go_wp2_with (first | (go_at_call 42; (with_reducible refine (parse_ok s HS.out v HP.out _).mono ?_); rintro e w1_ ⟨rfl, hb_⟩; have HB := Aside0.mk hb_; clear hb_) | (go_at_call 41; (with_reducible refine (decimal_int v H0.out H1.out _ (HV.out.below HB.out).tab).mono ?_); rintro e w2_ ⟨rfl, hb_⟩; have HB2 := Aside0.mk (below_step HB.out hb_); clear hb_) | (go_at_call 43; (with_reducible refine (trim_any s _).mono ?_); rintro e w3_ ⟨rfl, rfl⟩))
      go_ret2
      exact ⟨rfl, HB2.out⟩
  · have HP := Aside0.mk (show isSyn s.data.toList = true by unfold isSyn; rw [hp])
    have e1 : numV s = 0 := by unfold numV; rw [hp]
    have e2 : okV s = false := by unfold okV; rw [hp]
    rw [e1, e2]
    clear hp e1 e2
    go_enter Tryd.func27, Tryd.ntmps27
    go_wp2_with (go_at_call 42; (with_reducible refine (parse_syn s HS.out HP.out _ HV.out).mono ?_); rintro e w1_ ⟨N, rfl, hb_⟩; have HB := Aside0.mk hb_; clear hb_)
    go_ret2
    exact ⟨rfl, HB.out⟩
  · have HP := Aside0.mk hp
    have e1 : numV s = Lib.intSat 64 s.data.toList := by unfold numV; rw [hp]
    have e2 : okV s = false := by unfold okV; rw [hp]
    rw [e1, e2]
    clear hp e1 e2
    go_enter Tryd.func27, Tryd.ntmps27
    go_wp2_with (go_at_call 42; (with_reducible refine (parse_range s HS.out HP.out _ HV.out).mono ?_); rintro e w1_ ⟨N, rfl, hb_⟩; have HB := Aside0.mk hb_; clear hb_)
    go_ret2
    exact ⟨rfl, HB.out⟩
end Go.Proofs.YtknhjeabldlimaaDoor.Num
