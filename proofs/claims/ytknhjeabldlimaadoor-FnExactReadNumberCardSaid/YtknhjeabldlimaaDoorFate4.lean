/- The program's text of a fate: bounds on the numbers; the table of powers of ten and the fates' words read as they are laid. -/
import Derived.Test.YtknhjeabldlimaaDoorFate3
namespace Go.Proofs.YtknhjeabldlimaaDoor.Fate
open Go.RowKit Go.Proofs.YtknhjeabldlimaaDoorW.PrintWords Go.Proofs.YtknhjeabldlimaaDoorW.PrintLast Go.Proofs.YtknhjeabldlimaaDoorW.PrintMore Go.Proofs.YtknhjeabldlimaaDoor.QD Go.Proofs.YtknhjeabldlimaaDoor.Big
set_option linter.unusedVariables false
set_option linter.unusedSimpArgs false
theorem decimal_nat (n : Nat) (h : n < 10 ^ 8) (w : World) (ht : Tab w) : Calls Tryd.prog 41 #[.int .i64 n] w fun e w' => e = .returned (.string (dec n)) ∧ Below w.heap.size w w' :=
  (decimal_any n (by omega) (by omega) w ht).mono fun _ _ h => h
/-- The table reads so whatever is done above the world's blocks. -/
abbrev TabB (w : World) : Prop := Lib.TabBelow Tryd.prog w.heap.size w "internal/strconv.uint64pow10" .u64 Lib.pow10Tab
def wLost : ByteArray := ⟨#[108, 111, 115, 116]⟩
def wComes : ByteArray := ⟨#[99, 111, 109, 101, 115]⟩
def wTwice : ByteArray := ⟨#[116, 119, 105, 99, 101]⟩
def wTurned : ByteArray := ⟨#[116, 117, 114, 110, 101, 100]⟩
/-- The fates' words, in memory. -/
def WordsIn (w : World) : Prop := w.cell? ⟨0, 0, none⟩ = some (.string wLost) ∧ w.cell? ⟨0, 1, none⟩ = some (.string wComes) ∧ w.cell? ⟨0, 2, none⟩ = some (.string wTwice) ∧ w.cell? ⟨0, 3, none⟩ = some (.string wTurned)
theorem WordsIn.below {w w1 : World} (h : WordsIn w) (hb : Below w.heap.size w w1) : WordsIn w1 := ⟨pw_cell_below hb h.1, pw_cell_below hb h.2.1, pw_cell_below hb h.2.2.1, pw_cell_below hb h.2.2.2⟩
theorem tabB (w : World) (h : Tab w) : TabB w := Lib.tabBelow_of_tabIs h
theorem tab_below {w w1 : World} (h : Tab w) (hb : Below w.heap.size w w1) : Tab w1 := tabB w h w1 hb
set_option maxHeartbeats 1000000 in
theorem ft_lost (d a b : Int) (w : World) (hw : WordsIn w) : Calls Tryd.prog 25 #[.agg #[.int .i64 0, .int .i64 d, .int .i64 a, .int .i64 b]] w fun e w' => e = .returned (.string wLost) ∧ Below w.heap.size w w' := by
  have HW := Aside0.mk hw
  clear hw
  go_enter Tryd.func25, Tryd.ntmps25
  go_wp2_with ((with_reducible refine gate_dst (N := 1) rfl ?_); refine box_big rfl 27 _ rfl [.int .i64 0, .int .i64 d, .int .i64 a, .int .i64 b] rfl ?_; intro g1 hg_ w_ hk_ hb_; have hc0 : w_.cell? ⟨g1, 0, none⟩ = some (.int .i64 0) := blk_one hk_ rfl; have hc1 : w_.cell? ⟨g1, 1, none⟩ = some (.int .i64 d) := blk_one hk_ rfl; have hc2 : w_.cell? ⟨g1, 2, none⟩ = some (.int .i64 a) := blk_one hk_ rfl; have hc3 : w_.cell? ⟨g1, 3, none⟩ = some (.int .i64 b) := blk_one hk_ rfl; obtain ⟨hw0, hw1, hw2, hw3⟩ := HW.out.below hb_; have HB := Aside0.mk hb_; clear hg_ hk_ hb_)
  go_ret
  exact ⟨rfl, HB.out⟩
set_option maxHeartbeats 1000000 in
theorem ft_comes (d : Nat) (a b : Int) (h : d < 10 ^ 8) (w : World) (hw : WordsIn w) (ht : Tab w) : Calls Tryd.prog 25 #[.agg #[.int .i64 1, .int .i64 d, .int .i64 a, .int .i64 b]] w fun e w' => e = .returned (.string (wComes ++ (sColon ++ dec d))) ∧ Below w.heap.size w w' := by
  have HW := Aside0.mk hw
  have HT := Aside0.mk ht
  have hs := dec_size d h
  have hz : wComes.size ≤ 6 := by decide
  have H := Aside0.mk h
  clear hw ht h
  go_enter Tryd.func25, Tryd.ntmps25
  go_wp2_with (first | ((with_reducible refine gate_dst (N := 1) rfl ?_); refine box_big rfl 27 _ rfl [.int .i64 1, .int .i64 d, .int .i64 a, .int .i64 b] rfl ?_; intro g1 hg_ w_ hk_ hb_; have hc0 : w_.cell? ⟨g1, 0, none⟩ = some (.int .i64 1) := blk_one hk_ rfl; have hc1 : w_.cell? ⟨g1, 1, none⟩ = some (.int .i64 d) := blk_one hk_ rfl; have hc2 : w_.cell? ⟨g1, 2, none⟩ = some (.int .i64 a) := blk_one hk_ rfl; have hc3 : w_.cell? ⟨g1, 3, none⟩ = some (.int .i64 b) := blk_one hk_ rfl; obtain ⟨hw0, hw1, hw2, hw3⟩ := HW.out.below hb_; have HB := Aside0.mk hb_; clear hg_ hk_ hb_) | (go_at_call 41; (with_reducible refine (decimal_nat _ H.out _ (tab_below HT.out HB.out)).mono ?_); rintro e w2_ ⟨rfl, hb2_⟩; have HB2 := Aside0.mk (below_step HB.out hb2_); clear hb2_))
  go_ret
  exact ⟨rfl, HB2.out⟩
set_option maxHeartbeats 1000000 in
theorem ft_twice (d : Nat) (a b : Int) (h : d < 10 ^ 8) (w : World) (hw : WordsIn w) (ht : Tab w) : Calls Tryd.prog 25 #[.agg #[.int .i64 2, .int .i64 d, .int .i64 a, .int .i64 b]] w fun e w' => e = .returned (.string (wTwice ++ (sColon ++ dec d))) ∧ Below w.heap.size w w' := by
  have HW := Aside0.mk hw
  have HT := Aside0.mk ht
  have hs := dec_size d h
  have hz : wTwice.size ≤ 6 := by decide
  have H := Aside0.mk h
  clear hw ht h
  go_enter Tryd.func25, Tryd.ntmps25
  go_wp2_with (first | ((with_reducible refine gate_dst (N := 1) rfl ?_); refine box_big rfl 27 _ rfl [.int .i64 2, .int .i64 d, .int .i64 a, .int .i64 b] rfl ?_; intro g1 hg_ w_ hk_ hb_; have hc0 : w_.cell? ⟨g1, 0, none⟩ = some (.int .i64 2) := blk_one hk_ rfl; have hc1 : w_.cell? ⟨g1, 1, none⟩ = some (.int .i64 d) := blk_one hk_ rfl; have hc2 : w_.cell? ⟨g1, 2, none⟩ = some (.int .i64 a) := blk_one hk_ rfl; have hc3 : w_.cell? ⟨g1, 3, none⟩ = some (.int .i64 b) := blk_one hk_ rfl; obtain ⟨hw0, hw1, hw2, hw3⟩ := HW.out.below hb_; have HB := Aside0.mk hb_; clear hg_ hk_ hb_) | (go_at_call 41; (with_reducible refine (decimal_nat _ H.out _ (tab_below HT.out HB.out)).mono ?_); rintro e w2_ ⟨rfl, hb2_⟩; have HB2 := Aside0.mk (below_step HB.out hb2_); clear hb2_))
  go_ret
  exact ⟨rfl, HB2.out⟩
set_option maxHeartbeats 4000000 in
set_option maxRecDepth 100000 in
theorem ft_turned (d a b : Nat) (h : d < 10 ^ 8) (h1 : a < 10 ^ 8) (h2 : b < 10 ^ 8) (w : World) (hw : WordsIn w) (ht : Tab w) : Calls Tryd.prog 25 #[.agg #[.int .i64 3, .int .i64 d, .int .i64 a, .int .i64 b]] w fun e w' => e = .returned (.string (wTurned ++ (sColon ++ dec d ++ sColon ++ dec a ++ sColon ++ dec b))) ∧ Below w.heap.size w w' := by
  have HW := Aside0.mk hw
  have HT := Aside0.mk ht
  have hs := dec_size d h
  have hs1 := dec_size a h1
  have hs2 := dec_size b h2
  have hz : wTurned.size ≤ 6 := by decide
  have f0a : (9223372036854775807 < 1 + (dec ↑d).size) = False := eq_false (by omega)
  have f0b : (1 + (dec ↑d).size ≤ 9223372036854775807) = True := eq_true (by omega)
  have f1a : (9223372036854775807 < 1 + (dec ↑d).size + 1) = False := eq_false (by omega)
  have f1b : (1 + (dec ↑d).size + 1 ≤ 9223372036854775807) = True := eq_true (by omega)
  have f2a : (9223372036854775807 < 1 + (dec ↑d).size + 1 + (dec ↑a).size) = False := eq_false (by omega)
  have f2b : (1 + (dec ↑d).size + 1 + (dec ↑a).size ≤ 9223372036854775807) = True := eq_true (by omega)
  have f3a : (9223372036854775807 < 1 + (dec ↑d).size + 1 + (dec ↑a).size + 1) = False := eq_false (by omega)
  have f3b : (1 + (dec ↑d).size + 1 + (dec ↑a).size + 1 ≤ 9223372036854775807) = True := eq_true (by omega)
  have f4a : (9223372036854775807 < 1 + (dec ↑d).size + 1 + (dec ↑a).size + 1 + (dec ↑b).size) = False := eq_false (by omega)
  have f4b : (1 + (dec ↑d).size + 1 + (dec ↑a).size + 1 + (dec ↑b).size ≤ 9223372036854775807) = True := eq_true (by omega)
  have f5a : (9223372036854775807 < wTurned.size + (1 + (dec ↑d).size + 1 + (dec ↑a).size + 1 + (dec ↑b).size)) = False := eq_false (by omega)
  have f5b : (wTurned.size + (1 + (dec ↑d).size + 1 + (dec ↑a).size + 1 + (dec ↑b).size) ≤ 9223372036854775807) = True := eq_true (by omega)
  have H := Aside0.mk h
  have H1 := Aside0.mk h1
  have H2 := Aside0.mk h2
  clear hw ht h h1 h2 hs hs1 hs2 hz
  go_enter Tryd.func25, Tryd.ntmps25
  go_wp2_with ((with_reducible refine gate_dst (N := 1) rfl ?_); refine box_big rfl 27 _ rfl [.int .i64 3, .int .i64 d, .int .i64 a, .int .i64 b] rfl ?_; intro g1 hg_ w_ hk_ hb_; have hc0 : w_.cell? ⟨g1, 0, none⟩ = some (.int .i64 3) := blk_one hk_ rfl; have hc1 : w_.cell? ⟨g1, 1, none⟩ = some (.int .i64 d) := blk_one hk_ rfl; have hc2 : w_.cell? ⟨g1, 2, none⟩ = some (.int .i64 a) := blk_one hk_ rfl; have hc3 : w_.cell? ⟨g1, 3, none⟩ = some (.int .i64 b) := blk_one hk_ rfl; obtain ⟨hw0, hw1, hw2, hw3⟩ := HW.out.below hb_; have HB := Aside0.mk hb_; clear hg_ hk_ hb_)
  have hS : w_.drew.cell? ⟨g1, 1, none⟩ = some (.int .i64 d) ∧ w_.drew.cell? ⟨g1, 2, none⟩ = some (.int .i64 a) ∧ w_.drew.cell? ⟨g1, 3, none⟩ = some (.int .i64 b) ∧ Below w.heap.size w w_.drew := ⟨hc1, hc2, hc3, below_drew1 HB.out⟩
  go_region_held3 (fun w' => w'.cell? ⟨g1, 1, none⟩ = some (.int .i64 d) ∧ w'.cell? ⟨g1, 2, none⟩ = some (.int .i64 a) ∧ w'.cell? ⟨g1, 3, none⟩ = some (.int .i64 b) ∧ Below w.heap.size w w')
    (first
      | exact hS
      | exact keepS (by assumption) hb_)
    (first
      | (go_at_call 41; (with_reducible refine (decimal_nat _ (by first | exact H.out | exact H1.out | exact H2.out) _ (tab_below HT.out (show _ ∧ _ ∧ _ ∧ Below w.heap.size w _ by assumption).2.2.2)).mono ?_); rintro e w_ ⟨rfl, hb_⟩))
  go_wp2
  go_ret
  exact ⟨rfl, (show _ ∧ _ ∧ _ ∧ Below w.heap.size w w_ by assumption).2.2.2⟩
end Go.Proofs.YtknhjeabldlimaaDoor.Fate
