/- ReadNumber of the program, and the law FnExactReadNumber: its walk; the library's table and its two errors read as they are laid. -/
import Derived.Test.YtknhjeabldlimaaDoorNum3
import Derived.Test.YtknhjeabldlimaaDoorQEx1
import Derived.Test.YtknhjeabldlimaaDoorFate6
namespace Go.Proofs.YtknhjeabldlimaaDoor.Num
open Go.RowKit Go.Proofs.YtknhjeabldlimaaDoorW.PrintWords Go.Proofs.YtknhjeabldlimaaDoorW.PrintLast Go.Proofs.YtknhjeabldlimaaDoorW.PrintMore Go.Proofs.YtknhjeabldlimaaDoor.Big Go.Proofs.YtknhjeabldlimaaDoor.Fate
set_option linter.unusedVariables false
set_option linter.unusedSimpArgs false
theorem size32 : (Tryd.prog.info? 32).map (·.size) = some 2 := by kernel_rfl
theorem zero32 : ∃ z : Array Value, z.size = 2 ∧ (Tryd.prog.info? 32).map (·.zero) = some (some (.agg z)) := ⟨#[.int .i64 0, .int .i64 0], rfl, by kernel_rfl⟩

set_option maxHeartbeats 4000000 in
theorem implRN (s : ByteArray) (hs : s.size ≤ 1048576) (w : World) (hv : NumVars w) : Calls Tryd.prog 12 #[.string s] w fun e w' => e = .returned (.agg #[.int .i64 (rn s).1, .int .i64 (rn s).2]) ∧ Below w.heap.size w w' := by
  have HV := Aside0.mk hv
  have HS := Aside0.mk hs
  obtain ⟨n, hn⟩ : ∃ n, numV s = n := ⟨_, rfl⟩
  have HN := Aside0.mk hn
  clear hv hs hn
  have HB := Aside0.mk (Below.refl w.heap.size w)
  cases ho : okV s with
  | true =>
    skip
    have HO := Aside0.mk ho
    clear ho
    go_enter Tryd.func12, Tryd.ntmps12
    go_wp2_with (first | ((with_reducible refine gate_dst (N := 2) rfl ?_); refine alloc_big rfl 32 rfl 2 zero32 ?_; intro g2 hg_ z2 w_ hz_ hk_ hb_; have n0_ := Aside0.mk (below_step HB.out hb_); have m0_ := Aside0.mk (hk_); have m1_ := Aside0.mk (hz_); have m2_ := Aside0.mk ((show w.heap.size ≤ g2 by rw [hg_]; exact HB.out.size)); clear HB; have HB := n0_; have BK_g2 := m0_; have ZS_g2 := m1_; have GE_g2 := m2_; clear n0_ m0_ m1_ m2_; clear hg_ hz_ hk_ hb_) | (go_at_call 27; have q1 := HV.out.below HB.out; have q3 := number_any s HS.out _ q1; clear q1; rw [HN.out, HO.out] at q3; (refine q3.mono ?_); clear q3; rintro e w_ ⟨rfl, hb_⟩; have n0_ := Aside0.mk (below_step HB.out hb_); have n1_ := Aside0.mk (blk_below BK_g2.out hb_); clear HB BK_g2; have HB := n0_; have BK_g2 := n1_; clear n0_ n1_; clear hb_) | ((with_reducible refine gate_store (t := 32) (p := 2) rfl ?_); refine store_big rfl rfl 32 2 _ rfl g2 rfl [.int .i64 0, .int .i64 n] rfl z2 32 BK_g2.out size32 ZS_g2.out (by intro u hu; simp at hu; rcases hu with rfl | rfl <;> rfl) ?_; intro w_ hk_ hp_; have n0_ := Aside0.mk (hp_.below HB.out GE_g2.out); have m0_ := Aside0.mk (hk_); clear HB; have HB := n0_; have KN := m0_; clear n0_ m0_; clear hk_ hp_ BK_g2; have BK_g2 := KN; clear KN))
    refine bodyPost_ret (results_cell_row rfl _ _ g2 32 _ (0, 0) _ rfl BK_g2.out Tryd.underlying32 rfl (by kernel_rfl)) rfl ?_
    unfold rn
    rw [HO.out, HN.out]
    exact ⟨rfl, HB.out⟩
  | false =>
    skip
    have HO := Aside0.mk ho
    clear ho
    go_enter Tryd.func12, Tryd.ntmps12
    go_wp2_with (first | ((with_reducible refine gate_dst (N := 2) rfl ?_); refine alloc_big rfl 32 rfl 2 zero32 ?_; intro g2 hg_ z2 w_ hz_ hk_ hb_; have n0_ := Aside0.mk (below_step HB.out hb_); have m0_ := Aside0.mk (hk_); have m1_ := Aside0.mk (hz_); have m2_ := Aside0.mk ((show w.heap.size ≤ g2 by rw [hg_]; exact HB.out.size)); clear HB; have HB := n0_; have BK_g2 := m0_; have ZS_g2 := m1_; have GE_g2 := m2_; clear n0_ m0_ m1_ m2_; clear hg_ hz_ hk_ hb_) | (go_at_call 27; have q1 := HV.out.below HB.out; have q3 := number_any s HS.out _ q1; clear q1; rw [HN.out, HO.out] at q3; (refine q3.mono ?_); clear q3; rintro e w_ ⟨rfl, hb_⟩; have n0_ := Aside0.mk (below_step HB.out hb_); have n1_ := Aside0.mk (blk_below BK_g2.out hb_); clear HB BK_g2; have HB := n0_; have BK_g2 := n1_; clear n0_ n1_; clear hb_) | ((with_reducible refine gate_store (t := 32) (p := 2) rfl ?_); refine store_big rfl rfl 32 2 _ rfl g2 rfl [.int .i64 5, .int .i64 0] rfl z2 32 BK_g2.out size32 ZS_g2.out (by intro u hu; simp at hu; rcases hu with rfl | rfl <;> rfl) ?_; intro w_ hk_ hp_; have n0_ := Aside0.mk (hp_.below HB.out GE_g2.out); have m0_ := Aside0.mk (hk_); clear HB; have HB := n0_; have KN := m0_; clear n0_ m0_; clear hk_ hp_ BK_g2; have BK_g2 := KN; clear KN))
    refine bodyPost_ret (results_cell_row rfl _ _ g2 32 _ (0, 0) _ rfl BK_g2.out Tryd.underlying32 rfl (by kernel_rfl)) rfl ?_
    unfold rn
    rw [HO.out, HN.out]
    exact ⟨rfl, HB.out⟩

theorem specRN (s : ByteArray) (hs : s.size ≤ 1048576) (w : World) : Calls Tryd.prog 11 #[.string s] w fun e w' => e = .returned (.agg #[.int .i64 (rn s).1, .int .i64 (rn s).2]) ∧ Below w.heap.size w w' :=
  QS.spec_ReadNumber.calls 41 s (rn s).1 (rn s).2 w (readNumber_eq s hs)
theorem eqNum (c v : Int) (w : World) : Calls Tryd.prog 13 #[.agg #[.int .i64 c, .int .i64 v], .agg #[.int .i64 c, .int .i64 v]] w fun e w' => e = .returned (.bool true) ∧ Below w.heap.size w w' :=
  QE.laws_eqIntResult.calls c v c v true w (by unfold QE.laws_eqIntResult.f; simp)

set_option maxHeartbeats 8000000 in
set_option maxRecDepth 100000 in
theorem ReadNumber_walk (s : ByteArray) (w : World) (hv : NumVars w) : Calls Tryd.prog 4 #[.string s] w fun e w' => e = .returned (.bool true) ∧ Below w.heap.size w w' := by
  have HV := Aside0.mk hv
  have HB := Aside0.mk (Below.refl w.heap.size w)
  obtain ⟨c, hc⟩ : ∃ c, (rn s).1 = c := ⟨_, rfl⟩
  obtain ⟨v, hn⟩ : ∃ v, (rn s).2 = v := ⟨_, rfl⟩
  have HC := Aside0.mk hc
  have HN := Aside0.mk hn
  clear hv hc hn
  by_cases hs : s.size ≤ 1048576
  · have HS := Aside0.mk hs
    have h1 : decide (1048576 < (s.size : Int)) = false := decide_eq_false (by omega)
    clear hs
    go_enter Tryd.func4, Tryd.ntmps4
    go_wp2_with (first | (go_at_call 11; have q3 := fun w => specRN s HS.out w; simp only [HC.out, HN.out] at q3; (refine (q3 _).mono ?_); clear q3; rintro e w_ ⟨rfl, hb_⟩; have n0_ := Aside0.mk (below_step HB.out hb_); clear HB; have HB := n0_; clear n0_; clear hb_) | ((with_reducible refine gate_dst (N := 3) rfl ?_); refine alloc_big rfl 32 rfl 2 zero32 ?_; intro g3 hg_ zg3 w_ hz_ hk_ hb_; have n0_ := Aside0.mk (below_step HB.out hb_); have m0_ := Aside0.mk (hk_); have m1_ := Aside0.mk (hz_); have m2_ := Aside0.mk ((show w.heap.size ≤ g3 by rw [hg_]; exact HB.out.size)); clear HB; have HB := n0_; have BK_g3 := m0_; have ZS_g3 := m1_; have GE_g3 := m2_; clear n0_ m0_ m1_ m2_; clear hg_ hz_ hk_ hb_) | ((with_reducible refine gate_store (t := 32) (p := 3) rfl ?_); refine store_big rfl rfl 32 3 _ rfl g3 rfl [.int .i64 c, .int .i64 v] rfl zg3 32 BK_g3.out size32 ZS_g3.out (by intro u hu; simp at hu; rcases hu with rfl | rfl <;> rfl) ?_; intro w_ hk_ hp_; have n0_ := Aside0.mk (hp_.below HB.out GE_g3.out); have m0_ := Aside0.mk (hk_); clear HB; have HB := n0_; have KN := m0_; clear n0_ m0_; clear hk_ hp_ BK_g3; have BK_g3 := KN; clear KN) | (go_at_call 12; have q3 := implRN s HS.out _ (HV.out.below HB.out); rw [HC.out, HN.out] at q3; (refine q3.mono ?_); clear q3; rintro e w_ ⟨rfl, hb_⟩; have n0_ := Aside0.mk (below_step HB.out hb_); have n1_ := Aside0.mk (blk_below BK_g3.out hb_); clear HB BK_g3; have HB := n0_; have BK_g3 := n1_; clear n0_ n1_; clear hb_) | ((with_reducible refine gate_dst (N := 4) rfl ?_); refine alloc_big rfl 32 rfl 2 zero32 ?_; intro g4 hg_ zg4 w_ hz_ hk_ hb_; have n0_ := Aside0.mk (below_step HB.out hb_); have n1_ := Aside0.mk (blk_below BK_g3.out hb_); have m0_ := Aside0.mk (hk_); have m1_ := Aside0.mk (hz_); have m2_ := Aside0.mk ((show w.heap.size ≤ g4 by rw [hg_]; exact HB.out.size)); have m3_ := Aside0.mk ((show g3 ≠ g4 by rw [hg_]; exact Nat.ne_of_lt (blk_lt BK_g3.out))); have m4_ := Aside0.mk ((show g4 ≠ g3 by rw [hg_]; exact Nat.ne_of_gt (blk_lt BK_g3.out))); clear HB BK_g3; have HB := n0_; have BK_g3 := n1_; have BK_g4 := m0_; have ZS_g4 := m1_; have GE_g4 := m2_; have NE_g3_g4 := m3_; have NE_g4_g3 := m4_; clear n0_ n1_ m0_ m1_ m2_ m3_ m4_; clear hg_ hz_ hk_ hb_) | ((with_reducible refine gate_store (t := 32) (p := 4) rfl ?_); refine store_big rfl rfl 32 4 _ rfl g4 rfl [.int .i64 c, .int .i64 v] rfl zg4 32 BK_g4.out size32 ZS_g4.out (by intro u hu; simp at hu; rcases hu with rfl | rfl <;> rfl) ?_; intro w_ hk_ hp_; have n0_ := Aside0.mk (hp_.below HB.out GE_g4.out); have n1_ := Aside0.mk (hp_.blk BK_g3.out NE_g3_g4.out); have m0_ := Aside0.mk (hk_); clear HB BK_g3; have HB := n0_; have BK_g3 := n1_; have KN := m0_; clear n0_ n1_ m0_; clear hk_ hp_ BK_g4; have BK_g4 := KN; clear KN) | ((with_reducible refine gate_dst (N := 12) rfl ?_); refine load_big rfl 32 _ rfl ⟨g4, 0, none⟩ rfl _ Tryd.underlying32 2 size32 [.int .i64 c, .int .i64 v] rfl (blk_seg BK_g4.out (fun j u h => by rw [Nat.zero_add]; exact h)) ?_) | ((with_reducible refine gate_dst (N := 13) rfl ?_); refine load_big rfl 32 _ rfl ⟨g3, 0, none⟩ rfl _ Tryd.underlying32 2 size32 [.int .i64 c, .int .i64 v] rfl (blk_seg BK_g3.out (fun j u h => by rw [Nat.zero_add]; exact h)) ?_) | (go_at_call 13; (refine (eqNum c v _).mono ?_); rintro e w_ ⟨rfl, hb_⟩; have n0_ := Aside0.mk (below_step HB.out hb_); have n1_ := Aside0.mk (blk_below BK_g3.out hb_); have n2_ := Aside0.mk (blk_below BK_g4.out hb_); clear HB BK_g3 BK_g4; have HB := n0_; have BK_g3 := n1_; have BK_g4 := n2_; clear n0_ n1_ n2_; clear hb_))
    go_ret
    exact ⟨rfl, HB.out⟩
  · have h1 : decide (1048576 < (s.size : Int)) = true := decide_eq_true (by omega)
    clear hs
    go_enter Tryd.func4, Tryd.ntmps4
    go_wp2
    go_ret
    exact ⟨rfl, HB.out⟩

end Go.Proofs.YtknhjeabldlimaaDoor.Num
