/- The reference's text of a fate: as one Lean function of the four fields; bounds on the numbers. -/
import Derived.Test.YtknhjeabldlimaaDoorFate2
import Derived.Deep.RegionHeld3
namespace Go.Proofs.YtknhjeabldlimaaDoor.Fate
open Go.RowKit Go.Proofs.YtknhjeabldlimaaDoorW.PrintWords Go.Proofs.YtknhjeabldlimaaDoorW.PrintLast Go.Proofs.YtknhjeabldlimaaDoorW.PrintMore Go.Proofs.YtknhjeabldlimaaDoor.QD Go.Proofs.YtknhjeabldlimaaDoor.Big
set_option linter.unusedVariables false
set_option linter.unusedSimpArgs false
theorem dec_size (n : Nat) (h : n < 10 ^ 8) : (dec (n : Int)).size ≤ 8 := by
  unfold dec Lib.itoa
  rw [if_neg (by omega), Int.toNat_natCast]
  have := dec_len 7 n (by simpa using h)
  simpa [ByteArray.size] using this
theorem digits_c (n : Nat) (h : n < 10 ^ 8) (w : World) : Calls Tryd.prog 26 #[.int .i64 n] w fun e w' => e = .returned (.string (dec n)) ∧ Below w.heap.size w w' :=
  spec_l1Digits.calls 8 n (dec n) w (digits_eq 7 n h (by omega) (by omega))
def sLost : ByteArray := ⟨#[108, 111, 115, 116]⟩
def sComes : ByteArray := ⟨#[99, 111, 109, 101, 115, 58]⟩
def sTwice : ByteArray := ⟨#[116, 119, 105, 99, 101, 58]⟩
def sTurned : ByteArray := ⟨#[116, 117, 114, 110, 101, 100, 58]⟩
def sColon : ByteArray := ⟨#[58]⟩
set_option maxHeartbeats 1000000 in
theorem l22_lost (d a b : Int) (w : World) : Calls Tryd.prog 23 #[.agg #[.int .i64 0, .int .i64 d, .int .i64 a, .int .i64 b]] w fun e w' => e = .returned (.string sLost) ∧ Below w.heap.size w w' := by
  go_enter Tryd.func23, Tryd.ntmps23
  go_wp2
  go_ret
  exact ⟨rfl, (Below.refl _ _).alloc (Nat.le_refl _) _⟩
set_option maxHeartbeats 1000000 in
theorem l22_comes (d : Nat) (a b : Int) (h : d < 10 ^ 8) (w : World) : Calls Tryd.prog 23 #[.agg #[.int .i64 1, .int .i64 d, .int .i64 a, .int .i64 b]] w fun e w' => e = .returned (.string (sComes ++ dec d)) ∧ Below w.heap.size w w' := by
  obtain ⟨u, hu⟩ : ∃ u, dec d = u := ⟨_, rfl⟩
  have hs : u.size ≤ 8 := by rw [← hu]; exact dec_size d h
  have H := Aside0.mk (fun w => hu ▸ digits_c d h w)
  rw [hu]
  clear hu h
  go_enter Tryd.func23, Tryd.ntmps23
  go_wp2_with (go_at_call 26; (refine (H.out _).mono ?_); rintro e w_ ⟨rfl, hb_⟩; have HB := Aside0.mk (((Below.refl _ _).alloc (Nat.le_refl _) _ : Below w.heap.size w _).trans (hb_.mono (by simp))); clear hb_)
  go_ret
  exact ⟨rfl, HB.out⟩
set_option maxHeartbeats 1000000 in
theorem l22_twice (d : Nat) (a b : Int) (h : d < 10 ^ 8) (w : World) : Calls Tryd.prog 23 #[.agg #[.int .i64 2, .int .i64 d, .int .i64 a, .int .i64 b]] w fun e w' => e = .returned (.string (sTwice ++ dec d)) ∧ Below w.heap.size w w' := by
  obtain ⟨u, hu⟩ : ∃ u, dec d = u := ⟨_, rfl⟩
  have hs : u.size ≤ 8 := by rw [← hu]; exact dec_size d h
  have H := Aside0.mk (fun w => hu ▸ digits_c d h w)
  rw [hu]
  clear hu h
  go_enter Tryd.func23, Tryd.ntmps23
  go_wp2_with (go_at_call 26; (refine (H.out _).mono ?_); rintro e w_ ⟨rfl, hb_⟩; have HB := Aside0.mk (((Below.refl _ _).alloc (Nat.le_refl _) _ : Below w.heap.size w _).trans (hb_.mono (by simp))); clear hb_)
  go_ret
  exact ⟨rfl, HB.out⟩
theorem keepS {g : Nat} {d a b : Int} {w W w' : World} (hh : W.cell? ⟨g, 1, none⟩ = some (.int .i64 d) ∧ W.cell? ⟨g, 2, none⟩ = some (.int .i64 a) ∧ W.cell? ⟨g, 3, none⟩ = some (.int .i64 b) ∧ Below w.heap.size w W) (hb : Below W.heap.size W w') :
    w'.cell? ⟨g, 1, none⟩ = some (.int .i64 d) ∧ w'.cell? ⟨g, 2, none⟩ = some (.int .i64 a) ∧ w'.cell? ⟨g, 3, none⟩ = some (.int .i64 b) ∧ Below w.heap.size w w' :=
  ⟨pw_cell_below hb hh.1, pw_cell_below hb hh.2.1, pw_cell_below hb hh.2.2.1, below_step hh.2.2.2 hb⟩
set_option maxHeartbeats 4000000 in
set_option maxRecDepth 100000 in
theorem l22_turned (d a b : Nat) (h : d < 10 ^ 8) (h1 : a < 10 ^ 8) (h2 : b < 10 ^ 8) (w : World) : Calls Tryd.prog 23 #[.agg #[.int .i64 3, .int .i64 d, .int .i64 a, .int .i64 b]] w fun e w' => e = .returned (.string (sTurned ++ dec d ++ sColon ++ dec a ++ sColon ++ dec b)) ∧ Below w.heap.size w w' := by
  have hs := dec_size d h
  have hs1 := dec_size a h1
  have hs2 := dec_size b h2
  have f0a : (9223372036854775807 < 7 + (dec ↑d).size) = False := eq_false (by omega)
  have f0b : (7 + (dec ↑d).size ≤ 9223372036854775807) = True := eq_true (by omega)
  have f1a : (9223372036854775807 < 7 + (dec ↑d).size + 1) = False := eq_false (by omega)
  have f1b : (7 + (dec ↑d).size + 1 ≤ 9223372036854775807) = True := eq_true (by omega)
  have f2a : (9223372036854775807 < 7 + (dec ↑d).size + 1 + (dec ↑a).size) = False := eq_false (by omega)
  have f2b : (7 + (dec ↑d).size + 1 + (dec ↑a).size ≤ 9223372036854775807) = True := eq_true (by omega)
  have f3a : (9223372036854775807 < 7 + (dec ↑d).size + 1 + (dec ↑a).size + 1) = False := eq_false (by omega)
  have f3b : (7 + (dec ↑d).size + 1 + (dec ↑a).size + 1 ≤ 9223372036854775807) = True := eq_true (by omega)
  have f4a : (9223372036854775807 < 7 + (dec ↑d).size + 1 + (dec ↑a).size + 1 + (dec ↑b).size) = False := eq_false (by omega)
  have f4b : (7 + (dec ↑d).size + 1 + (dec ↑a).size + 1 + (dec ↑b).size ≤ 9223372036854775807) = True := eq_true (by omega)
  have H := Aside0.mk h
  have H1 := Aside0.mk h1
  have H2 := Aside0.mk h2
  clear h h1 h2 hs hs1 hs2
  go_enter Tryd.func23, Tryd.ntmps23
  go_wp2_with ((with_reducible refine gate_dst (N := 1) rfl ?_); refine box_big rfl 27 _ rfl [.int .i64 3, .int .i64 d, .int .i64 a, .int .i64 b] rfl ?_; intro g1 hg_ w_ hk_ hb_; have hc0 : w_.cell? ⟨g1, 0, none⟩ = some (.int .i64 3) := blk_one hk_ rfl; have hc1 : w_.cell? ⟨g1, 1, none⟩ = some (.int .i64 d) := blk_one hk_ rfl; have hc2 : w_.cell? ⟨g1, 2, none⟩ = some (.int .i64 a) := blk_one hk_ rfl; have hc3 : w_.cell? ⟨g1, 3, none⟩ = some (.int .i64 b) := blk_one hk_ rfl; clear hg_ hk_)
  have hS : w_.drew.cell? ⟨g1, 1, none⟩ = some (.int .i64 d) ∧ w_.drew.cell? ⟨g1, 2, none⟩ = some (.int .i64 a) ∧ w_.drew.cell? ⟨g1, 3, none⟩ = some (.int .i64 b) ∧ Below w.heap.size w w_.drew := ⟨hc1, hc2, hc3, below_drew1 hb_⟩
  go_region_held3 (fun w' => w'.cell? ⟨g1, 1, none⟩ = some (.int .i64 d) ∧ w'.cell? ⟨g1, 2, none⟩ = some (.int .i64 a) ∧ w'.cell? ⟨g1, 3, none⟩ = some (.int .i64 b) ∧ Below w.heap.size w w')
    (first
      | exact hS
      | exact keepS (by assumption) hb_)
    (first
      | (go_at_call 26; (with_reducible refine (digits_c _ (by first | exact H.out | exact H1.out | exact H2.out) _).mono ?_); rintro e w_ ⟨rfl, hb_⟩))
  go_wp2
  go_ret
  exact ⟨rfl, (show _ ∧ _ ∧ _ ∧ Below w.heap.size w w_ by assumption).2.2.2⟩
end Go.Proofs.YtknhjeabldlimaaDoor.Fate
