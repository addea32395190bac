/- What the laws' functions that compare two values return where both read the same: true; no conditions besides. -/
import Derived.Test.YteahhohlnoifaaaHar2
namespace Go.Proofs.Yteahhohlnoifaaa.QZ
open Go.RowKit Go.Proofs.YteahhohlnoifaaaW.PrintWords Go.Proofs.YteahhohlnoifaaaW.PrintLast Go.Proofs.YteahhohlnoifaaaW.PrintMore Go.Proofs.Yteahhohlnoifaaa.Big
set_option linter.unusedVariables false
set_option linter.unusedSimpArgs false


/-- True, and nothing but orders has been drawn. -/
def EqQuiet (w : World) (e : Ending) (w' : World) : Prop := e = .returned (.bool true) ∧ ∃ n, w' = w.drewN n
def EqPost (w : World) (e : Ending) (w' : World) : Prop := e = .returned (.bool true) ∧ Below w.heap.size w w'
theorem Kd.C_drewN' {α : Type} {d : Kd α} {w : World} {A : Option Addr} {n : Nat} {xs : List α} (h : d.C w A n xs) (m : Nat) : d.C (w.drewN m) A n xs := Kd.C_below h (pw_below_drewN (Below.refl _ _) m)

set_option maxHeartbeats 4000000 in
set_option maxRecDepth 100000 in
theorem eqInt64S_same (A1 A2 : Option Addr) (c1 c2 : Nat) (l : List Int) (w : World) (hC1 : Kd.C (Kd.int .i64) w A1 l.length l) (hC2 : Kd.C (Kd.int .i64) w A2 l.length l) :
    Calls Try.prog 27 #[.slice A1 l.length c1, .slice A2 l.length c2] w (EqQuiet w) := by
  have HM := Aside0.mk hC1.2.1
  have HC1 := Aside0.mk hC1
  have HC2 := Aside0.mk hC2
  clear hC1 hC2
  go_enter Try.func27, Try.ntmps27
  go_wp2
  go_loopg [5] l.length (fun gk v5 w' => ∃ (i : Nat), v5 = .int .i64 (i : Int) ∧ Aside0 (i + gk = l.length) ∧ Drawn0 w w')
  case atStart => exact ⟨0, rfl, ⟨by omega⟩, Drawn0.refl _⟩
  case round =>
    obtain ⟨i, rfl, HI, ⟨m1, rfl⟩⟩ := hrel
    by_cases hlt : i < l.length
    · have b2 : decide (i < l.length) = true := decide_eq_true hlt
      have b3 : (i : Int) < (l.length : Int) := by omega
      have HLT := Aside0.mk hlt
      obtain ⟨ad1, x, hA1, hx1, hc1⟩ := elemI HC1.out i hlt
      obtain ⟨ad2, x2, hA2, hx2, hc2⟩ := elemI HC2.out i hlt
      obtain rfl : x = x2 := Option.some.inj (hx1.symm.trans hx2)
      subst hA1
      subst hA2
      clear hx1 hx2
      clear hlt
      go_wp2
      go_quiet (fail)
      go_wp2
      go_roundg (l.length - (i + 1))
      case measure => have := HI.out; have := HLT.out; omega
      case rel => exact ⟨i + 1, by rw [show wrap64 ((i : Int) + 1) = ((i + 1 : Nat) : Int) from by have h1 := HM.out; have h2 := HLT.out; unfold wrap64; omega], ⟨by have := HLT.out; omega⟩, by repeat (first | exact Drawn0.refl _ | apply Drawn0.step)⟩
    · have b2 : decide (i < l.length) = false := decide_eq_false hlt
      clear hlt
      go_wp2
      go_ret
      exact ⟨rfl, _, rfl⟩

set_option maxHeartbeats 4000000 in
set_option maxRecDepth 100000 in
theorem eqInt64SS_same (A1 A2 : Option Addr) (c1 c2 : Nat) (l : List (List Int)) (w : World) (hC1 : Kd.C (Kd.slice 2 (Kd.int .i64)) w A1 l.length l) (hC2 : Kd.C (Kd.slice 2 (Kd.int .i64)) w A2 l.length l) :
    Calls Try.prog 22 #[.slice A1 l.length c1, .slice A2 l.length c2] w (EqQuiet w) := by
  have HM := Aside0.mk hC1.2.1
  have HC1 := Aside0.mk hC1
  have HC2 := Aside0.mk hC2
  clear hC1 hC2
  go_enter Try.func22, Try.ntmps22
  go_wp2
  go_loopg [5] l.length (fun gk v5 w' => ∃ (i : Nat), v5 = .int .i64 (i : Int) ∧ Aside0 (i + gk = l.length) ∧ Drawn0 w w')
  case atStart => exact ⟨0, rfl, ⟨by omega⟩, Drawn0.refl _⟩
  case round =>
    obtain ⟨i, rfl, HI, ⟨m1, rfl⟩⟩ := hrel
    by_cases hlt : i < l.length
    · have b2 : decide (i < l.length) = true := decide_eq_true hlt
      have b3 : (i : Int) < (l.length : Int) := by omega
      have HLT := Aside0.mk hlt
      obtain ⟨ad1, B1, d1, x, hA1, hx1, hc1, _, hD1⟩ := elemL HC1.out i hlt
      obtain ⟨ad2, B2, d2, x2, hA2, hx2, hc2, _, hD2⟩ := elemL HC2.out i hlt
      obtain rfl : x = x2 := Option.some.inj (hx1.symm.trans hx2)
      subst hA1
      subst hA2
      have HD1 := Aside0.mk hD1
      have HD2 := Aside0.mk hD2
      clear hx1 hx2 hD1 hD2
      clear hlt
      go_wp2
      go_quiet ((go_at_call 27; (with_reducible refine (eqInt64S_same B1 B2 d1 d2 x _ ?side1 ?side2).mono ?_); (case side1 => repeat (first | exact HD1.out | (with_reducible refine Kd.C_drewN ?_ _) | (with_reducible refine Kd.C_drew ?_))); (case side2 => repeat (first | exact HD2.out | (with_reducible refine Kd.C_drewN ?_ _) | (with_reducible refine Kd.C_drew ?_))); rintro e w' ⟨rfl, ⟨nd, rfl⟩⟩; (first | exact ⟨rfl, _, World.drewN_drewN _ _ _⟩ | exact ⟨rfl, _, rfl⟩ | exact ⟨rfl, _, Eq.trans (World.drewN_drewN _ _ _) (congrArg (World.drewN _) (Nat.add_assoc _ _ _))⟩)))
      go_wp2
      go_roundg (l.length - (i + 1))
      case measure => have := HI.out; have := HLT.out; omega
      case rel => exact ⟨i + 1, by rw [show wrap64 ((i : Int) + 1) = ((i + 1 : Nat) : Int) from by have h1 := HM.out; have h2 := HLT.out; unfold wrap64; omega], ⟨by have := HLT.out; omega⟩, by repeat (first | exact Drawn0.refl _ | apply Drawn0.step)⟩
    · have b2 : decide (i < l.length) = false := decide_eq_false hlt
      clear hlt
      go_wp2
      go_ret
      exact ⟨rfl, _, rfl⟩

theorem eqInt64S_sameB (A1 A2 : Option Addr) (c1 c2 : Nat) (l : List Int) (w : World) (hC1 : Kd.C (Kd.int .i64) w A1 l.length l) (hC2 : Kd.C (Kd.int .i64) w A2 l.length l) : Calls Try.prog 27 #[.slice A1 l.length c1, .slice A2 l.length c2] w (EqPost w) :=
  (eqInt64S_same A1 A2 c1 c2 l w hC1 hC2).mono fun e w' ⟨h, n, hw⟩ => ⟨h, hw ▸ pw_below_drewN (Below.refl _ _) n⟩
theorem eqInt64SS_sameB (A1 A2 : Option Addr) (c1 c2 : Nat) (l : List (List Int)) (w : World) (hC1 : Kd.C (Kd.slice 2 (Kd.int .i64)) w A1 l.length l) (hC2 : Kd.C (Kd.slice 2 (Kd.int .i64)) w A2 l.length l) : Calls Try.prog 22 #[.slice A1 l.length c1, .slice A2 l.length c2] w (EqPost w) :=
  (eqInt64SS_same A1 A2 c1 c2 l w hC1 hC2).mono fun e w' ⟨h, n, hw⟩ => ⟨h, hw ▸ pw_below_drewN (Below.refl _ _) n⟩

set_option maxHeartbeats 4000000 in
set_option maxRecDepth 100000 in
theorem eqPlan_same (x : S50) (cs1 cs2 : List Value) (w : World) (hK1 : k50.K w x cs1) (hK2 : k50.K w x cs2) : Calls Try.prog 51 #[.agg cs1.toArray, .agg cs2.toArray] w (EqPost w) := by
  obtain rfl := k50_open hK1
  obtain rfl := k50_open hK2
  have HB := Aside0.mk (Below.refl w.heap.size w)
  clear hK1 hK2
  go_enter Try.func51, Try.ntmps51
  go_wp2_with (first | ((with_reducible refine gate_dst (N := 2) rfl ?_); refine box_big rfl 50 _ rfl [.int .i64 x.f0, .int .i64 x.f1, .bool x.f2, .bool x.f3] rfl ?_; intro g2 hg_ w_ hk_ hb_; have n0_ := Aside0.mk (below_step HB.out hb_); have m0_ := Aside0.mk (hk_); have m1_ := Aside0.mk ((show w.heap.size ≤ g2 by rw [hg_]; exact HB.out.size)); clear HB; have HB := n0_; have BK_g2 := m0_; have GE_g2 := m1_; clear n0_ m0_ m1_; clear hg_ hk_ hb_) | ((with_reducible refine gate_dst (N := 3) rfl ?_); refine box_big rfl 50 _ rfl [.int .i64 x.f0, .int .i64 x.f1, .bool x.f2, .bool x.f3] rfl ?_; intro g3 hg_ w_ hk_ hb_; have n0_ := Aside0.mk (below_step HB.out hb_); have n1_ := Aside0.mk (blk_below BK_g2.out hb_); have m0_ := Aside0.mk (hk_); have m1_ := Aside0.mk ((show w.heap.size ≤ g3 by rw [hg_]; exact HB.out.size)); have m2_ := Aside0.mk ((show g2 ≠ g3 by rw [hg_]; exact Nat.ne_of_lt (blk_lt BK_g2.out))); have m3_ := Aside0.mk ((show g3 ≠ g2 by rw [hg_]; exact Nat.ne_of_gt (blk_lt BK_g2.out))); clear HB BK_g2; have HB := n0_; have BK_g2 := n1_; have BK_g3 := m0_; have GE_g3 := m1_; have NE_g2_g3 := m2_; have NE_g3_g2 := m3_; clear n0_ n1_ m0_ m1_ m2_ m3_; clear hg_ hk_ hb_) | ((with_reducible refine gate_dst (N := 6) rfl ?_); refine load_one rfl 2 _ rfl ⟨g2, 0, none⟩ rfl (ag2 _) (.int .i64 x.f0) (blk_one BK_g2.out rfl) ?_) | ((with_reducible refine gate_dst (N := 8) rfl ?_); refine load_one rfl 2 _ rfl ⟨g3, 0, none⟩ rfl (ag2 _) (.int .i64 x.f0) (blk_one BK_g3.out rfl) ?_) | ((with_reducible refine gate_dst (N := 11) rfl ?_); refine load_one rfl 2 _ rfl ⟨g2, 1, none⟩ rfl (ag2 _) (.int .i64 x.f1) (blk_one BK_g2.out rfl) ?_) | ((with_reducible refine gate_dst (N := 13) rfl ?_); refine load_one rfl 2 _ rfl ⟨g3, 1, none⟩ rfl (ag2 _) (.int .i64 x.f1) (blk_one BK_g3.out rfl) ?_) | ((with_reducible refine gate_dst (N := 16) rfl ?_); refine load_one rfl 4 _ rfl ⟨g2, 2, none⟩ rfl (ag4 _) (.bool x.f2) (blk_one BK_g2.out rfl) ?_) | ((with_reducible refine gate_dst (N := 18) rfl ?_); refine load_one rfl 4 _ rfl ⟨g3, 2, none⟩ rfl (ag4 _) (.bool x.f2) (blk_one BK_g3.out rfl) ?_) | ((with_reducible refine gate_dst (N := 21) rfl ?_); refine load_one rfl 4 _ rfl ⟨g2, 3, none⟩ rfl (ag4 _) (.bool x.f3) (blk_one BK_g2.out rfl) ?_) | ((with_reducible refine gate_dst (N := 23) rfl ?_); refine load_one rfl 4 _ rfl ⟨g3, 3, none⟩ rfl (ag4 _) (.bool x.f3) (blk_one BK_g3.out rfl) ?_))
  go_ret
  exact ⟨rfl, HB.out⟩

set_option maxHeartbeats 4000000 in
set_option maxRecDepth 100000 in
theorem eqFrame_same (x : S51) (cs1 cs2 : List Value) (w : World) (hK1 : k51.K w x cs1) (hK2 : k51.K w x cs2) : Calls Try.prog 52 #[.agg cs1.toArray, .agg cs2.toArray] w (EqPost w) := by
  obtain ⟨A5, c5, A6, c6, A7, c7, rfl, ⟨_, g5⟩, ⟨_, g6⟩, ⟨_, g7⟩⟩ := k51_cells hK1
  obtain ⟨B5, d5, B6, d6, B7, d7, rfl, ⟨_, h5⟩, ⟨_, h6⟩, ⟨_, h7⟩⟩ := k51_cells hK2
  have HB := Aside0.mk (Below.refl w.heap.size w)
  have G5 := Aside0.mk g5
  have G6 := Aside0.mk g6
  have G7 := Aside0.mk g7
  have H5 := Aside0.mk h5
  have H6 := Aside0.mk h6
  have H7 := Aside0.mk h7
  clear hK1 hK2 g5 g6 g7 h5 h6 h7
  go_enter Try.func52, Try.ntmps52
  go_wp2_with (first | ((with_reducible refine gate_dst (N := 2) rfl ?_); refine box_big rfl 51 _ rfl [.int .i64 x.f0, .int .i64 x.f1, .int .i64 x.f2, .int .i64 x.f3, .int .i64 x.f4, .slice A5 x.f5.length c5, .slice A6 x.f6.length c6, .slice A7 x.f7.length c7] rfl ?_; intro g2 hg_ w_ hk_ hb_; have n0_ := Aside0.mk (below_step HB.out hb_); have m0_ := Aside0.mk (hk_); have m1_ := Aside0.mk ((show w.heap.size ≤ g2 by rw [hg_]; exact HB.out.size)); clear HB; have HB := n0_; have BK_g2 := m0_; have GE_g2 := m1_; clear n0_ m0_ m1_; clear hg_ hk_ hb_) | ((with_reducible refine gate_dst (N := 3) rfl ?_); refine box_big rfl 51 _ rfl [.int .i64 x.f0, .int .i64 x.f1, .int .i64 x.f2, .int .i64 x.f3, .int .i64 x.f4, .slice B5 x.f5.length d5, .slice B6 x.f6.length d6, .slice B7 x.f7.length d7] rfl ?_; intro g3 hg_ w_ hk_ hb_; have n0_ := Aside0.mk (below_step HB.out hb_); have n1_ := Aside0.mk (blk_below BK_g2.out hb_); have m0_ := Aside0.mk (hk_); have m1_ := Aside0.mk ((show w.heap.size ≤ g3 by rw [hg_]; exact HB.out.size)); have m2_ := Aside0.mk ((show g2 ≠ g3 by rw [hg_]; exact Nat.ne_of_lt (blk_lt BK_g2.out))); have m3_ := Aside0.mk ((show g3 ≠ g2 by rw [hg_]; exact Nat.ne_of_gt (blk_lt BK_g2.out))); clear HB BK_g2; have HB := n0_; have BK_g2 := n1_; have BK_g3 := m0_; have GE_g3 := m1_; have NE_g2_g3 := m2_; have NE_g3_g2 := m3_; clear n0_ n1_ m0_ m1_ m2_ m3_; clear hg_ hk_ hb_) | ((with_reducible refine gate_dst (N := 6) rfl ?_); refine load_one rfl 2 _ rfl ⟨g2, 0, none⟩ rfl (ag2 _) (.int .i64 x.f0) (blk_one BK_g2.out rfl) ?_) | ((with_reducible refine gate_dst (N := 8) rfl ?_); refine load_one rfl 2 _ rfl ⟨g3, 0, none⟩ rfl (ag2 _) (.int .i64 x.f0) (blk_one BK_g3.out rfl) ?_) | ((with_reducible refine gate_dst (N := 11) rfl ?_); refine load_one rfl 2 _ rfl ⟨g2, 1, none⟩ rfl (ag2 _) (.int .i64 x.f1) (blk_one BK_g2.out rfl) ?_) | ((with_reducible refine gate_dst (N := 13) rfl ?_); refine load_one rfl 2 _ rfl ⟨g3, 1, none⟩ rfl (ag2 _) (.int .i64 x.f1) (blk_one BK_g3.out rfl) ?_) | ((with_reducible refine gate_dst (N := 16) rfl ?_); refine load_one rfl 2 _ rfl ⟨g2, 2, none⟩ rfl (ag2 _) (.int .i64 x.f2) (blk_one BK_g2.out rfl) ?_) | ((with_reducible refine gate_dst (N := 18) rfl ?_); refine load_one rfl 2 _ rfl ⟨g3, 2, none⟩ rfl (ag2 _) (.int .i64 x.f2) (blk_one BK_g3.out rfl) ?_) | ((with_reducible refine gate_dst (N := 21) rfl ?_); refine load_one rfl 2 _ rfl ⟨g2, 3, none⟩ rfl (ag2 _) (.int .i64 x.f3) (blk_one BK_g2.out rfl) ?_) | ((with_reducible refine gate_dst (N := 23) rfl ?_); refine load_one rfl 2 _ rfl ⟨g3, 3, none⟩ rfl (ag2 _) (.int .i64 x.f3) (blk_one BK_g3.out rfl) ?_) | ((with_reducible refine gate_dst (N := 26) rfl ?_); refine load_one rfl 2 _ rfl ⟨g2, 4, none⟩ rfl (ag2 _) (.int .i64 x.f4) (blk_one BK_g2.out rfl) ?_) | ((with_reducible refine gate_dst (N := 28) rfl ?_); refine load_one rfl 2 _ rfl ⟨g3, 4, none⟩ rfl (ag2 _) (.int .i64 x.f4) (blk_one BK_g3.out rfl) ?_) | ((with_reducible refine gate_dst (N := 31) rfl ?_); refine load_one rfl 24 _ rfl ⟨g2, 5, none⟩ rfl (ag24 _) (.slice A5 x.f5.length c5) (blk_one BK_g2.out rfl) ?_) | ((with_reducible refine gate_dst (N := 33) rfl ?_); refine load_one rfl 24 _ rfl ⟨g3, 5, none⟩ rfl (ag24 _) (.slice B5 x.f5.length d5) (blk_one BK_g3.out rfl) ?_) | ((with_reducible refine gate_dst (N := 34) rfl ?_); refine goesL_ (some 34) rfl rfl Try.func27 (by kernel_rfl) rfl #[.slice A5 x.f5.length c5, .slice B5 x.f5.length d5] rfl (by (try simp only [List.map_toArray, List.map_cons, List.map_nil]); first | done | rfl) ?_; (refine (eqInt64S_sameB A5 B5 c5 d5 x.f5 _ (Kd.C_below G5.out HB.out) (Kd.C_below H5.out HB.out)).mono ?_); rintro e w_ ⟨rfl, hb_⟩; refine ⟨_, rfl, ?_⟩; have n0_ := Aside0.mk (below_step HB.out hb_); have n1_ := Aside0.mk (blk_below BK_g2.out hb_); have n2_ := Aside0.mk (blk_below BK_g3.out hb_); clear HB BK_g2 BK_g3; have HB := n0_; have BK_g2 := n1_; have BK_g3 := n2_; clear n0_ n1_ n2_; clear hb_) | ((with_reducible refine gate_dst (N := 37) rfl ?_); refine load_one rfl 24 _ rfl ⟨g2, 6, none⟩ rfl (ag24 _) (.slice A6 x.f6.length c6) (blk_one BK_g2.out rfl) ?_) | ((with_reducible refine gate_dst (N := 39) rfl ?_); refine load_one rfl 24 _ rfl ⟨g3, 6, none⟩ rfl (ag24 _) (.slice B6 x.f6.length d6) (blk_one BK_g3.out rfl) ?_) | ((with_reducible refine gate_dst (N := 40) rfl ?_); refine goesL_ (some 40) rfl rfl Try.func27 (by kernel_rfl) rfl #[.slice A6 x.f6.length c6, .slice B6 x.f6.length d6] rfl (by (try simp only [List.map_toArray, List.map_cons, List.map_nil]); first | done | rfl) ?_; (refine (eqInt64S_sameB A6 B6 c6 d6 x.f6 _ (Kd.C_below G6.out HB.out) (Kd.C_below H6.out HB.out)).mono ?_); rintro e w_ ⟨rfl, hb_⟩; refine ⟨_, rfl, ?_⟩; have n0_ := Aside0.mk (below_step HB.out hb_); have n1_ := Aside0.mk (blk_below BK_g2.out hb_); have n2_ := Aside0.mk (blk_below BK_g3.out hb_); clear HB BK_g2 BK_g3; have HB := n0_; have BK_g2 := n1_; have BK_g3 := n2_; clear n0_ n1_ n2_; clear hb_) | ((with_reducible refine gate_dst (N := 43) rfl ?_); refine load_one rfl 35 _ rfl ⟨g2, 7, none⟩ rfl (ag35 _) (.slice A7 x.f7.length c7) (blk_one BK_g2.out rfl) ?_) | ((with_reducible refine gate_dst (N := 45) rfl ?_); refine load_one rfl 35 _ rfl ⟨g3, 7, none⟩ rfl (ag35 _) (.slice B7 x.f7.length d7) (blk_one BK_g3.out rfl) ?_) | ((with_reducible refine gate_dst (N := 46) rfl ?_); refine goesL_ (some 46) rfl rfl Try.func22 (by kernel_rfl) rfl #[.slice A7 x.f7.length c7, .slice B7 x.f7.length d7] rfl (by (try simp only [List.map_toArray, List.map_cons, List.map_nil]); first | done | rfl) ?_; (refine (eqInt64SS_sameB A7 B7 c7 d7 x.f7 _ (Kd.C_below G7.out HB.out) (Kd.C_below H7.out HB.out)).mono ?_); rintro e w_ ⟨rfl, hb_⟩; refine ⟨_, rfl, ?_⟩; have n0_ := Aside0.mk (below_step HB.out hb_); have n1_ := Aside0.mk (blk_below BK_g2.out hb_); have n2_ := Aside0.mk (blk_below BK_g3.out hb_); clear HB BK_g2 BK_g3; have HB := n0_; have BK_g2 := n1_; have BK_g3 := n2_; clear n0_ n1_ n2_; clear hb_))
  go_ret
  exact ⟨rfl, HB.out⟩

set_option maxHeartbeats 4000000 in
set_option maxRecDepth 100000 in
theorem eqOutcome_same (x : S53) (cs1 cs2 : List Value) (w : World) (hK1 : k53.K w x cs1) (hK2 : k53.K w x cs2) : Calls Try.prog 28 #[.agg cs1.toArray, .agg cs2.toArray] w (EqPost w) := by
  obtain ⟨c0, c1, A2, n2, A6, n6, A7, n7, A8, n8, hcsc, l0c, l1c, hk0c, hk1c, ⟨_, g2c⟩, ⟨_, g6c⟩, ⟨_, g7c⟩, ⟨_, g8c⟩⟩ := k53_parts hK1
  obtain ⟨rr, hrrc⟩ : ∃ rr : List Value, rr = [.slice A2 x.f2.length n2, .bool x.f3, .int .i64 x.f4, .int .i64 x.f5, .slice A6 x.f6.length n6, .slice A7 x.f7.length n7, .slice A8 x.f8.length n8] := ⟨_, rfl⟩
  rw [← hrrc] at hcsc
  have L0 := Aside0.mk l0c
  have L1 := Aside0.mk l1c
  have HK0 := Aside0.mk hk0c
  have HK1 := Aside0.mk hk1c
  have E2 := Aside0.mk (show (c0 ++ (c1 ++ rr))[12]? = some (.slice A2 x.f2.length n2) from (idx_tail l0c l1c 0).trans (by rw [hrrc]; rfl))
  have E3 := Aside0.mk (show (c0 ++ (c1 ++ rr))[13]? = some (.bool x.f3) from (idx_tail l0c l1c 1).trans (by rw [hrrc]; rfl))
  have E4 := Aside0.mk (show (c0 ++ (c1 ++ rr))[14]? = some (.int .i64 x.f4) from (idx_tail l0c l1c 2).trans (by rw [hrrc]; rfl))
  have E5 := Aside0.mk (show (c0 ++ (c1 ++ rr))[15]? = some (.int .i64 x.f5) from (idx_tail l0c l1c 3).trans (by rw [hrrc]; rfl))
  have E6 := Aside0.mk (show (c0 ++ (c1 ++ rr))[16]? = some (.slice A6 x.f6.length n6) from (idx_tail l0c l1c 4).trans (by rw [hrrc]; rfl))
  have E7 := Aside0.mk (show (c0 ++ (c1 ++ rr))[17]? = some (.slice A7 x.f7.length n7) from (idx_tail l0c l1c 5).trans (by rw [hrrc]; rfl))
  have E8 := Aside0.mk (show (c0 ++ (c1 ++ rr))[18]? = some (.slice A8 x.f8.length n8) from (idx_tail l0c l1c 6).trans (by rw [hrrc]; rfl))
  have G2 := Aside0.mk g2c
  have G6 := Aside0.mk g6c
  have G7 := Aside0.mk g7c
  have G8 := Aside0.mk g8c
  subst hcsc
  clear hrrc l0c l1c hk0c hk1c g2c g6c g7c g8c
  obtain ⟨d0, d1, B2, m2, B6, m6, B7, m7, B8, m8, hcsd, l0d, l1d, hk0d, hk1d, ⟨_, g2d⟩, ⟨_, g6d⟩, ⟨_, g7d⟩, ⟨_, g8d⟩⟩ := k53_parts hK2
  obtain ⟨ss, hrrd⟩ : ∃ rr : List Value, rr = [.slice B2 x.f2.length m2, .bool x.f3, .int .i64 x.f4, .int .i64 x.f5, .slice B6 x.f6.length m6, .slice B7 x.f7.length m7, .slice B8 x.f8.length m8] := ⟨_, rfl⟩
  rw [← hrrd] at hcsd
  have M0 := Aside0.mk l0d
  have M1 := Aside0.mk l1d
  have HJ0 := Aside0.mk hk0d
  have HJ1 := Aside0.mk hk1d
  have F2 := Aside0.mk (show (d0 ++ (d1 ++ ss))[12]? = some (.slice B2 x.f2.length m2) from (idx_tail l0d l1d 0).trans (by rw [hrrd]; rfl))
  have F3 := Aside0.mk (show (d0 ++ (d1 ++ ss))[13]? = some (.bool x.f3) from (idx_tail l0d l1d 1).trans (by rw [hrrd]; rfl))
  have F4 := Aside0.mk (show (d0 ++ (d1 ++ ss))[14]? = some (.int .i64 x.f4) from (idx_tail l0d l1d 2).trans (by rw [hrrd]; rfl))
  have F5 := Aside0.mk (show (d0 ++ (d1 ++ ss))[15]? = some (.int .i64 x.f5) from (idx_tail l0d l1d 3).trans (by rw [hrrd]; rfl))
  have F6 := Aside0.mk (show (d0 ++ (d1 ++ ss))[16]? = some (.slice B6 x.f6.length m6) from (idx_tail l0d l1d 4).trans (by rw [hrrd]; rfl))
  have F7 := Aside0.mk (show (d0 ++ (d1 ++ ss))[17]? = some (.slice B7 x.f7.length m7) from (idx_tail l0d l1d 5).trans (by rw [hrrd]; rfl))
  have F8 := Aside0.mk (show (d0 ++ (d1 ++ ss))[18]? = some (.slice B8 x.f8.length m8) from (idx_tail l0d l1d 6).trans (by rw [hrrd]; rfl))
  have H2 := Aside0.mk g2d
  have H6 := Aside0.mk g6d
  have H7 := Aside0.mk g7d
  have H8 := Aside0.mk g8d
  subst hcsd
  clear hrrd l0d l1d hk0d hk1d g2d g6d g7d g8d
  have HB := Aside0.mk (Below.refl w.heap.size w)
  clear hK1 hK2
  go_enter Try.func28, Try.ntmps28
  go_wp2_with (first | ((with_reducible refine gate_dst (N := 2) rfl ?_); refine box_big rfl 53 _ rfl (c0 ++ (c1 ++ rr)) rfl ?_; intro g2 hg_ w_ hk_ hb_; have n0_ := Aside0.mk (below_step HB.out hb_); have m0_ := Aside0.mk (hk_); have m1_ := Aside0.mk ((show w.heap.size ≤ g2 by rw [hg_]; exact HB.out.size)); clear HB; have HB := n0_; have BK_g2 := m0_; have GE_g2 := m1_; clear n0_ m0_ m1_; clear hg_ hk_ hb_) | ((with_reducible refine gate_dst (N := 3) rfl ?_); refine box_big rfl 53 _ rfl (d0 ++ (d1 ++ ss)) rfl ?_; intro g3 hg_ w_ hk_ hb_; have n0_ := Aside0.mk (below_step HB.out hb_); have n1_ := Aside0.mk (blk_below BK_g2.out hb_); have m0_ := Aside0.mk (hk_); have m1_ := Aside0.mk ((show w.heap.size ≤ g3 by rw [hg_]; exact HB.out.size)); have m2_ := Aside0.mk ((show g2 ≠ g3 by rw [hg_]; exact Nat.ne_of_lt (blk_lt BK_g2.out))); have m3_ := Aside0.mk ((show g3 ≠ g2 by rw [hg_]; exact Nat.ne_of_gt (blk_lt BK_g2.out))); clear HB BK_g2; have HB := n0_; have BK_g2 := n1_; have BK_g3 := m0_; have GE_g3 := m1_; have NE_g2_g3 := m2_; have NE_g3_g2 := m3_; clear n0_ n1_ m0_ m1_ m2_ m3_; clear hg_ hk_ hb_) | ((with_reducible refine gate_dst (N := 6) rfl ?_); refine load_big rfl 50 _ rfl ⟨g2, 0, none⟩ rfl _ Try.underlying50 4 size50 c0 L0.out (blk_seg BK_g2.out (fun j u h => idx_head j h)) ?_) | ((with_reducible refine gate_dst (N := 8) rfl ?_); refine load_big rfl 50 _ rfl ⟨g3, 0, none⟩ rfl _ Try.underlying50 4 size50 d0 M0.out (blk_seg BK_g3.out (fun j u h => idx_head j h)) ?_) | ((with_reducible refine gate_dst (N := 9) rfl ?_); refine goesL_ (some 9) rfl rfl Try.func51 (by kernel_rfl) rfl #[.agg c0.toArray, .agg d0.toArray] rfl (by (try simp only [List.map_toArray, List.map_cons, List.map_nil]); first | done | rfl) ?_; (refine (eqPlan_same x.f0 c0 d0 _ (k50.K_below HB.out HK0.out) (k50.K_below HB.out HJ0.out)).mono ?_); rintro e w_ ⟨rfl, hb_⟩; refine ⟨_, rfl, ?_⟩; have n0_ := Aside0.mk (below_step HB.out hb_); have n1_ := Aside0.mk (blk_below BK_g2.out hb_); have n2_ := Aside0.mk (blk_below BK_g3.out hb_); clear HB BK_g2 BK_g3; have HB := n0_; have BK_g2 := n1_; have BK_g3 := n2_; clear n0_ n1_ n2_; clear hb_) | ((with_reducible refine gate_dst (N := 12) rfl ?_); refine load_big rfl 51 _ rfl ⟨g2, 4, none⟩ rfl _ Try.underlying51 8 size51 c1 L1.out (blk_seg BK_g2.out (fun j u h => idx_mid L0.out j h)) ?_) | ((with_reducible refine gate_dst (N := 14) rfl ?_); refine load_big rfl 51 _ rfl ⟨g3, 4, none⟩ rfl _ Try.underlying51 8 size51 d1 M1.out (blk_seg BK_g3.out (fun j u h => idx_mid M0.out j h)) ?_) | ((with_reducible refine gate_dst (N := 15) rfl ?_); refine goesL_ (some 15) rfl rfl Try.func52 (by kernel_rfl) rfl #[.agg c1.toArray, .agg d1.toArray] rfl (by (try simp only [List.map_toArray, List.map_cons, List.map_nil]); first | done | rfl) ?_; (refine (eqFrame_same x.f1 c1 d1 _ (k51.K_below HB.out HK1.out) (k51.K_below HB.out HJ1.out)).mono ?_); rintro e w_ ⟨rfl, hb_⟩; refine ⟨_, rfl, ?_⟩; have n0_ := Aside0.mk (below_step HB.out hb_); have n1_ := Aside0.mk (blk_below BK_g2.out hb_); have n2_ := Aside0.mk (blk_below BK_g3.out hb_); clear HB BK_g2 BK_g3; have HB := n0_; have BK_g2 := n1_; have BK_g3 := n2_; clear n0_ n1_ n2_; clear hb_) | ((with_reducible refine gate_dst (N := 18) rfl ?_); refine load_one rfl 24 _ rfl ⟨g2, 12, none⟩ rfl (ag24 _) (.slice A2 x.f2.length n2) (blk_one BK_g2.out E2.out) ?_) | ((with_reducible refine gate_dst (N := 20) rfl ?_); refine load_one rfl 24 _ rfl ⟨g3, 12, none⟩ rfl (ag24 _) (.slice B2 x.f2.length m2) (blk_one BK_g3.out F2.out) ?_) | ((with_reducible refine gate_dst (N := 21) rfl ?_); refine goesL_ (some 21) rfl rfl Try.func27 (by kernel_rfl) rfl #[.slice A2 x.f2.length n2, .slice B2 x.f2.length m2] rfl (by (try simp only [List.map_toArray, List.map_cons, List.map_nil]); first | done | rfl) ?_; (refine (eqInt64S_sameB A2 B2 n2 m2 x.f2 _ (Kd.C_below G2.out HB.out) (Kd.C_below H2.out HB.out)).mono ?_); rintro e w_ ⟨rfl, hb_⟩; refine ⟨_, rfl, ?_⟩; have n0_ := Aside0.mk (below_step HB.out hb_); have n1_ := Aside0.mk (blk_below BK_g2.out hb_); have n2_ := Aside0.mk (blk_below BK_g3.out hb_); clear HB BK_g2 BK_g3; have HB := n0_; have BK_g2 := n1_; have BK_g3 := n2_; clear n0_ n1_ n2_; clear hb_) | ((with_reducible refine gate_dst (N := 24) rfl ?_); refine load_one rfl 4 _ rfl ⟨g2, 13, none⟩ rfl (ag4 _) (.bool x.f3) (blk_one BK_g2.out E3.out) ?_) | ((with_reducible refine gate_dst (N := 26) rfl ?_); refine load_one rfl 4 _ rfl ⟨g3, 13, none⟩ rfl (ag4 _) (.bool x.f3) (blk_one BK_g3.out F3.out) ?_) | ((with_reducible refine gate_dst (N := 29) rfl ?_); refine load_one rfl 2 _ rfl ⟨g2, 14, none⟩ rfl (ag2 _) (.int .i64 x.f4) (blk_one BK_g2.out E4.out) ?_) | ((with_reducible refine gate_dst (N := 31) rfl ?_); refine load_one rfl 2 _ rfl ⟨g3, 14, none⟩ rfl (ag2 _) (.int .i64 x.f4) (blk_one BK_g3.out F4.out) ?_) | ((with_reducible refine gate_dst (N := 34) rfl ?_); refine load_one rfl 2 _ rfl ⟨g2, 15, none⟩ rfl (ag2 _) (.int .i64 x.f5) (blk_one BK_g2.out E5.out) ?_) | ((with_reducible refine gate_dst (N := 36) rfl ?_); refine load_one rfl 2 _ rfl ⟨g3, 15, none⟩ rfl (ag2 _) (.int .i64 x.f5) (blk_one BK_g3.out F5.out) ?_) | ((with_reducible refine gate_dst (N := 39) rfl ?_); refine load_one rfl 24 _ rfl ⟨g2, 16, none⟩ rfl (ag24 _) (.slice A6 x.f6.length n6) (blk_one BK_g2.out E6.out) ?_) | ((with_reducible refine gate_dst (N := 41) rfl ?_); refine load_one rfl 24 _ rfl ⟨g3, 16, none⟩ rfl (ag24 _) (.slice B6 x.f6.length m6) (blk_one BK_g3.out F6.out) ?_) | ((with_reducible refine gate_dst (N := 42) rfl ?_); refine goesL_ (some 42) rfl rfl Try.func27 (by kernel_rfl) rfl #[.slice A6 x.f6.length n6, .slice B6 x.f6.length m6] rfl (by (try simp only [List.map_toArray, List.map_cons, List.map_nil]); first | done | rfl) ?_; (refine (eqInt64S_sameB A6 B6 n6 m6 x.f6 _ (Kd.C_below G6.out HB.out) (Kd.C_below H6.out HB.out)).mono ?_); rintro e w_ ⟨rfl, hb_⟩; refine ⟨_, rfl, ?_⟩; have n0_ := Aside0.mk (below_step HB.out hb_); have n1_ := Aside0.mk (blk_below BK_g2.out hb_); have n2_ := Aside0.mk (blk_below BK_g3.out hb_); clear HB BK_g2 BK_g3; have HB := n0_; have BK_g2 := n1_; have BK_g3 := n2_; clear n0_ n1_ n2_; clear hb_) | ((with_reducible refine gate_dst (N := 45) rfl ?_); refine load_one rfl 24 _ rfl ⟨g2, 17, none⟩ rfl (ag24 _) (.slice A7 x.f7.length n7) (blk_one BK_g2.out E7.out) ?_) | ((with_reducible refine gate_dst (N := 47) rfl ?_); refine load_one rfl 24 _ rfl ⟨g3, 17, none⟩ rfl (ag24 _) (.slice B7 x.f7.length m7) (blk_one BK_g3.out F7.out) ?_) | ((with_reducible refine gate_dst (N := 48) rfl ?_); refine goesL_ (some 48) rfl rfl Try.func27 (by kernel_rfl) rfl #[.slice A7 x.f7.length n7, .slice B7 x.f7.length m7] rfl (by (try simp only [List.map_toArray, List.map_cons, List.map_nil]); first | done | rfl) ?_; (refine (eqInt64S_sameB A7 B7 n7 m7 x.f7 _ (Kd.C_below G7.out HB.out) (Kd.C_below H7.out HB.out)).mono ?_); rintro e w_ ⟨rfl, hb_⟩; refine ⟨_, rfl, ?_⟩; have n0_ := Aside0.mk (below_step HB.out hb_); have n1_ := Aside0.mk (blk_below BK_g2.out hb_); have n2_ := Aside0.mk (blk_below BK_g3.out hb_); clear HB BK_g2 BK_g3; have HB := n0_; have BK_g2 := n1_; have BK_g3 := n2_; clear n0_ n1_ n2_; clear hb_) | ((with_reducible refine gate_dst (N := 51) rfl ?_); refine load_one rfl 24 _ rfl ⟨g2, 18, none⟩ rfl (ag24 _) (.slice A8 x.f8.length n8) (blk_one BK_g2.out E8.out) ?_) | ((with_reducible refine gate_dst (N := 53) rfl ?_); refine load_one rfl 24 _ rfl ⟨g3, 18, none⟩ rfl (ag24 _) (.slice B8 x.f8.length m8) (blk_one BK_g3.out F8.out) ?_) | ((with_reducible refine gate_dst (N := 54) rfl ?_); refine goesL_ (some 54) rfl rfl Try.func27 (by kernel_rfl) rfl #[.slice A8 x.f8.length n8, .slice B8 x.f8.length m8] rfl (by (try simp only [List.map_toArray, List.map_cons, List.map_nil]); first | done | rfl) ?_; (refine (eqInt64S_sameB A8 B8 n8 m8 x.f8 _ (Kd.C_below G8.out HB.out) (Kd.C_below H8.out HB.out)).mono ?_); rintro e w_ ⟨rfl, hb_⟩; refine ⟨_, rfl, ?_⟩; have n0_ := Aside0.mk (below_step HB.out hb_); have n1_ := Aside0.mk (blk_below BK_g2.out hb_); have n2_ := Aside0.mk (blk_below BK_g3.out hb_); clear HB BK_g2 BK_g3; have HB := n0_; have BK_g2 := n1_; have BK_g3 := n2_; clear n0_ n1_ n2_; clear hb_))
  go_ret
  exact ⟨rfl, HB.out⟩

set_option maxHeartbeats 4000000 in
set_option maxRecDepth 100000 in
theorem eqIntsResult_same (c : Int) (x : List Int) (A1 B1 : Option Addr) (a1 b1 : Nat) (w : World) (g1 : (Kd.int .i64).C w A1 x.length x) (h1 : (Kd.int .i64).C w B1 x.length x) : Calls Try.prog 11 #[.agg #[.int .i64 c, .slice A1 x.length a1], .agg #[.int .i64 c, .slice B1 x.length b1]] w (EqPost w) := by
  have HB := Aside0.mk (Below.refl w.heap.size w)
  have G1 := Aside0.mk g1
  have H1 := Aside0.mk h1
  clear g1 h1
  go_enter Try.func11, Try.ntmps11
  go_wp2_with (first | ((with_reducible refine gate_dst (N := 2) rfl ?_); refine box_big rfl 26 _ rfl [.int .i64 c, .slice A1 x.length a1] rfl ?_; intro g2 hg_ w_ hk_ hb_; have n0_ := Aside0.mk (below_step HB.out hb_); have m0_ := Aside0.mk (hk_); have m1_ := Aside0.mk ((show w.heap.size ≤ g2 by rw [hg_]; exact HB.out.size)); clear HB; have HB := n0_; have BK_g2 := m0_; have GE_g2 := m1_; clear n0_ m0_ m1_; clear hg_ hk_ hb_) | ((with_reducible refine gate_dst (N := 3) rfl ?_); refine box_big rfl 26 _ rfl [.int .i64 c, .slice B1 x.length b1] rfl ?_; intro g3 hg_ w_ hk_ hb_; have n0_ := Aside0.mk (below_step HB.out hb_); have n1_ := Aside0.mk (blk_below BK_g2.out hb_); have m0_ := Aside0.mk (hk_); have m1_ := Aside0.mk ((show w.heap.size ≤ g3 by rw [hg_]; exact HB.out.size)); have m2_ := Aside0.mk ((show g2 ≠ g3 by rw [hg_]; exact Nat.ne_of_lt (blk_lt BK_g2.out))); have m3_ := Aside0.mk ((show g3 ≠ g2 by rw [hg_]; exact Nat.ne_of_gt (blk_lt BK_g2.out))); clear HB BK_g2; have HB := n0_; have BK_g2 := n1_; have BK_g3 := m0_; have GE_g3 := m1_; have NE_g2_g3 := m2_; have NE_g3_g2 := m3_; clear n0_ n1_ m0_ m1_ m2_ m3_; clear hg_ hk_ hb_) | ((with_reducible refine gate_dst (N := 6) rfl ?_); refine load_one rfl 2 _ rfl ⟨g2, 0, none⟩ rfl (ag2 _) (.int .i64 c) (blk_one BK_g2.out rfl) ?_) | ((with_reducible refine gate_dst (N := 8) rfl ?_); refine load_one rfl 2 _ rfl ⟨g3, 0, none⟩ rfl (ag2 _) (.int .i64 c) (blk_one BK_g3.out rfl) ?_) | ((with_reducible refine gate_dst (N := 11) rfl ?_); refine load_one rfl 24 _ rfl ⟨g2, 1, none⟩ rfl (ag24 _) (.slice A1 x.length a1) (blk_one BK_g2.out rfl) ?_) | ((with_reducible refine gate_dst (N := 13) rfl ?_); refine load_one rfl 24 _ rfl ⟨g3, 1, none⟩ rfl (ag24 _) (.slice B1 x.length b1) (blk_one BK_g3.out rfl) ?_) | ((with_reducible refine gate_dst (N := 14) rfl ?_); refine goesL_ (some 14) rfl rfl Try.func27 (by kernel_rfl) rfl #[.slice A1 x.length a1, .slice B1 x.length b1] rfl (by (try simp only [List.map_toArray, List.map_cons, List.map_nil]); first | done | rfl) ?_; (refine (eqInt64S_sameB A1 B1 a1 b1 x _ (Kd.C_below G1.out HB.out) (Kd.C_below H1.out HB.out)).mono ?_); rintro e w_ ⟨rfl, hb_⟩; refine ⟨_, rfl, ?_⟩; have n0_ := Aside0.mk (below_step HB.out hb_); have n1_ := Aside0.mk (blk_below BK_g2.out hb_); have n2_ := Aside0.mk (blk_below BK_g3.out hb_); clear HB BK_g2 BK_g3; have HB := n0_; have BK_g2 := n1_; have BK_g3 := n2_; clear n0_ n1_ n2_; clear hb_))
  go_ret
  exact ⟨rfl, HB.out⟩

theorem elem53 {w : World} {A : Option Addr} {n : Nat} {xs : List S53} (h : Kd.C k53 w A n xs) (i : Nat) (h1 : i < n) :
    ∃ ad cs x, A = some ad ∧ xs[i]? = some x ∧ cs.length = 19 ∧ k53.K w x cs ∧ At cs (ad.add (i * 19)) w := by
  have hl : xs.length = n := h.1
  obtain ⟨ad, cs, hA, hl, hK, hc⟩ := ReadsRow.get_ h z53 (i : Int) (by omega) (by omega)
  refine ⟨ad, cs, _, hA, ?_, hl, hK, fun j u hj => ?_⟩
  · rw [List.getD_eq_getElem?_getD, Int.toNat_natCast, List.getElem?_eq_getElem (by omega)]
    rfl
  · have := hc j u hj
    rw [Int.toNat_natCast] at this
    rw [add_add]
    exact this
def eqOutcomeS_T6 : Bool × List (List Nat × List Nat) := (true, [([], []), ([], []), ([0, 1], [0, 1]), ([2], [2]), ([], []), ([], []), ([4, 5], [4, 5]), ([6], [6]), ([3, 7], [3, 7]), ([8], [8])])
def eqOutcomeS_B6 : List Nat := [0, 0, 3, 7, 0, 0, 48, 112, 255, 511]
theorem eqOutcomeS_tab6 : rtab .any (opsOf Try.f12 6) = eqOutcomeS_T6 := by kernel_rfl
theorem eqOutcomeS_bits6 : waitsOk eqOutcomeS_T6.2 eqOutcomeS_B6 = true := by kernel_rfl

set_option maxHeartbeats 4000000 in
set_option maxRecDepth 100000 in
theorem eqOutcomeS_same (A1 A2 : Option Addr) (c1 c2 : Nat) (l : List S53) (w : World) (hC1 : Kd.C k53 w A1 l.length l) (hC2 : Kd.C k53 w A2 l.length l) :
    Calls Try.prog 12 #[.slice A1 l.length c1, .slice A2 l.length c2] w (EqPost w) := by
  have HM := Aside0.mk hC1.2.1
  have HC1 := Aside0.mk hC1
  have HC2 := Aside0.mk hC2
  clear hC1 hC2
  go_enter Try.func12, Try.ntmps12
  go_wp2
  go_loopg [5] l.length (fun gk v5 w' => ∃ (i : Nat), v5 = .int .i64 (i : Int) ∧ Aside0 (i + gk = l.length) ∧ Aside0 (Below w.heap.size w w'))
  case atStart => exact ⟨0, rfl, ⟨by omega⟩, ⟨Below.refl _ _⟩⟩
  case round =>
    obtain ⟨i, rfl, HI, HB⟩ := hrel
    by_cases hlt : i < l.length
    · have b2 : decide (i < l.length) = true := decide_eq_true hlt
      have b3 : (i : Int) < (l.length : Int) := by omega
      have HLT := Aside0.mk hlt
      obtain ⟨ad1, cs1, x, hA1, hx1, hl1, hk1, ha1⟩ := elem53 HC1.out i hlt
      obtain ⟨ad2, cs2, x2, hA2, hx2, hl2, hk2, ha2⟩ := elem53 HC2.out i hlt
      obtain rfl : x = x2 := Option.some.inj (hx1.symm.trans hx2)
      subst hA1
      subst hA2
      have L1 := Aside0.mk hl1
      have L2 := Aside0.mk hl2
      have HK1 := Aside0.mk hk1
      have HK2 := Aside0.mk hk2
      have HA1 := Aside0.mk ha1
      have HA2 := Aside0.mk ha2
      clear hlt hx1 hx2 hl1 hl2 hk1 hk2 ha1 ha2
      go_wp2
      have n0_ := Aside0.mk (below_drew1 HB.out)
      clear HB
      have HB := n0_
      clear n0_
      refine start_ (n := 10) (S := fun w' => At cs1 (ad1.add (i * 19)) w' ∧ At cs2 (ad2.add (i * 19)) w') (ds := []) #[false, false, false, false, false, false, false, false, false, false] (by kernel_rfl) rfl rfl ⟨HA1.out.below HB.out, HA2.out.below HB.out⟩ (fun hHeld => ?_)
      refine with_tabW eqOutcomeS_tab6 eqOutcomeS_bits6 (fun HT_ HW_ => ?_)
      generalize wr.drew = w9 at HB hHeld ⊢
      refine pure_ (i := 0) (N := some 17) (v := ?_) (a' := ?_) #[true, false, false, false, false, false, false, false, false, false] rfl rfl (any_of HT_.out (by kernel_rfl)) (fun _ _ _ h => h) (Or.inl ⟨by rfl, ?_⟩) ?_ ?_
      rotate_left
      · intro w'
        go_simp
        with_reducible rfl
      rotate_left
      · simp only [Act.put, List.setIfInBounds_toArray, List.set_cons_zero, List.set_cons_succ, i64_w, i32_w]
        rfl
      refine pure_ (i := 1) (N := some 18) (v := ?_) (a' := ?_) #[true, true, false, false, false, false, false, false, false, false] rfl rfl (any_of HT_.out (by kernel_rfl)) (fun _ _ _ h => h) (Or.inl ⟨by rfl, ?_⟩) ?_ ?_
      rotate_left
      · intro w'
        go_simp
        with_reducible rfl
      rotate_left
      · simp only [Act.put, List.setIfInBounds_toArray, List.set_cons_zero, List.set_cons_succ, i64_w, i32_w]
        rfl
      refine pure_ (i := 2) (N := some 19) (v := ?_) (a' := ?_) #[true, true, true, false, false, false, false, false, false, false] rfl rfl (any_of HT_.out (by kernel_rfl)) (fun _ _ _ h => h) (Or.inl ⟨by rfl, ?_⟩) ?_ ?_
      rotate_left
      · intro w'
        go_simp
        with_reducible rfl
      rotate_left
      · simp only [Act.put, List.setIfInBounds_toArray, List.set_cons_zero, List.set_cons_succ, i64_w, i32_w]
        rfl
      refine pure_ (i := 4) (N := some 21) (v := ?_) (a' := ?_) #[true, true, true, false, true, false, false, false, false, false] rfl rfl (any_of HT_.out (by kernel_rfl)) (fun _ _ _ h => h) (Or.inl ⟨by rfl, ?_⟩) ?_ ?_
      rotate_left
      · intro w'
        go_simp
        with_reducible rfl
      rotate_left
      · simp only [Act.put, List.setIfInBounds_toArray, List.set_cons_zero, List.set_cons_succ, i64_w, i32_w]
        rfl
      refine pure_ (i := 5) (N := some 22) (v := ?_) (a' := ?_) #[true, true, true, false, true, true, false, false, false, false] rfl rfl (any_of HT_.out (by kernel_rfl)) (fun _ _ _ h => h) (Or.inl ⟨by rfl, ?_⟩) ?_ ?_
      rotate_left
      · intro w'
        go_simp
        with_reducible rfl
      rotate_left
      · simp only [Act.put, List.setIfInBounds_toArray, List.set_cons_zero, List.set_cons_succ, i64_w, i32_w]
        rfl
      refine pure_ (i := 6) (N := some 23) (v := ?_) (a' := ?_) #[true, true, true, false, true, true, true, false, false, false] rfl rfl (any_of HT_.out (by kernel_rfl)) (fun _ _ _ h => h) (Or.inl ⟨by rfl, ?_⟩) ?_ ?_
      rotate_left
      · intro w'
        go_simp
        with_reducible rfl
      rotate_left
      · simp only [Act.put, List.setIfInBounds_toArray, List.set_cons_zero, List.set_cons_succ, i64_w, i32_w]
        rfl
      refine take_ (i := 3) (N := some 20) (v := (.agg cs1.toArray)) (a' := ?_) #[true, true, true, true, true, true, true, false, false, false] rfl rfl (take_ofW HT_.out HW_.out (by kernel_rfl)) (fun _ _ _ h => h) (Or.inl ⟨by rfl, fun w' hs => run_load_big 53 _ rfl (ad1.add (i * 19)) rfl _ Try.underlying53 19 size53 cs1 L1.out hs.1⟩) hHeld ?_ ?_
      rotate_left
      · simp only [Act.put, List.setIfInBounds_toArray, List.set_cons_zero, List.set_cons_succ, i64_w, i32_w]
        rfl
      refine take_ (i := 7) (N := some 24) (v := (.agg cs2.toArray)) (a' := ?_) #[true, true, true, true, true, true, true, true, false, false] rfl rfl (take_ofW HT_.out HW_.out (by kernel_rfl)) (fun _ _ _ h => h) (Or.inl ⟨by rfl, fun w' hs => run_load_big 53 _ rfl (ad2.add (i * 19)) rfl _ Try.underlying53 19 size53 cs2 L2.out hs.2⟩) hHeld ?_ ?_
      rotate_left
      · simp only [Act.put, List.setIfInBounds_toArray, List.set_cons_zero, List.set_cons_succ, i64_w, i32_w]
        rfl
      refine one_ (i := 8) (N := some 25) #[true, true, true, true, true, true, true, true, true, false] rfl rfl (one_of HT_.out (by kernel_rfl)) (by decide) (fun K hK => ?_)
      refine goes_ Try.func28 (by kernel_rfl) rfl #[.agg cs1.toArray, .agg cs2.toArray] (by rfl) rfl rfl (by (try simp only [List.map_toArray, List.map_cons, List.map_nil]); first | done | rfl) ?_
      refine (eqOutcome_same x cs1 cs2 _ (k53.K_below HB.out HK1.out) (k53.K_below HB.out HK2.out)).mono ?_
      rintro e w10 ⟨rfl, hb⟩
      refine ⟨_, rfl, ?_⟩
      have n0_ := Aside0.mk (below_step HB.out hb)
      clear HB hb
      have HB := n0_
      clear n0_
      refine hK.out _ _ ⟨HA1.out.below HB.out, HA2.out.below HB.out⟩ (fun hHeld => ?_)
      clear hK K
      refine norm_ (a' := ?_) ?_ ?_
      rotate_left
      · show Act.put _ (some 25) _ = _
        simp only [Act.put, List.setIfInBounds_toArray, List.set_cons_zero, List.set_cons_succ, i64_w, i32_w]
        rfl
      refine pure_ (i := 9) (N := some 26) (v := ?_) (a' := ?_) #[true, true, true, true, true, true, true, true, true, true] rfl rfl (any_of HT_.out (by kernel_rfl)) (fun _ _ _ h => h) (Or.inl ⟨by rfl, ?_⟩) ?_ ?_
      rotate_left
      · intro w'
        go_simp
        with_reducible rfl
      rotate_left
      · simp only [Act.put, List.setIfInBounds_toArray, List.set_cons_zero, List.set_cons_succ, i64_w, i32_w]
        rfl
      refine done_ (done_of HT_.out (by kernel_rfl)) ?_
      go_wp2
      go_roundg (l.length - (i + 1))
      case measure => have := HI.out; have := HLT.out; omega
      case rel => exact ⟨i + 1, by rw [show wrap64 ((i : Int) + 1) = ((i + 1 : Nat) : Int) from by have h1 := HM.out; have h2 := HLT.out; unfold wrap64; omega], ⟨by have := HLT.out; omega⟩, HB⟩
    · have b2 : decide (i < l.length) = false := decide_eq_false hlt
      clear hlt
      go_wp2
      go_ret
      exact ⟨rfl, HB.out⟩

end Go.Proofs.Yteahhohlnoifaaa.QZ
