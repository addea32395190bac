/- WordsOf of the program: lines of at most 2^20 bytes; the library's variable MaxLen holds a number. -/
import Derived.Test.YtknhjeabldlimaaDoorWords1
namespace Go.Proofs.YtknhjeabldlimaaDoor.Words
open Go.RowKit Go.Proofs.YtknhjeabldlimaaDoorW.PrintWords Go.Proofs.YtknhjeabldlimaaDoorW.PrintLast Go.Proofs.YtknhjeabldlimaaDoorW.PrintMore Go.Proofs.YtknhjeabldlimaaDoor.Big
set_option linter.unusedVariables false
set_option linter.unusedSimpArgs false
theorem size42 : (Tryd.prog.info? 42).map (·.size) = some 2 := by kernel_rfl
theorem zero42 : ∃ z : Array Value, z.size = 2 ∧ (Tryd.prog.info? 42).map (·.zero) = some (some (.agg z)) := ⟨#[.int .i64 0, .slice none 0 0], rfl, by kernel_rfl⟩

set_option maxHeartbeats 4000000 in
theorem impl_any (s : ByteArray) (w : World) (hm : MaxIn w) : Calls Tryd.prog 18 #[.string s] w fun e w' => ∃ v1_ : Value, e = .returned (.agg #[.int .i64 (wordsR s).1, v1_]) ∧ Kd.R Kd.string 9 w' w.heap.size (fun _ => True) v1_ (wordsR s).2 ∧ Below w.heap.size w w' := by
  have HM := Aside0.mk hm
  clear hm
  have HB := Aside0.mk (Below.refl w.heap.size w)
  by_cases h2 : (s.size : Int) > 2000
  · have HC := Aside0.mk h2
    have h2b : decide ((2000 : Int) < (s.size : Int)) = true := decide_eq_true h2
    clear h2
    go_enter Tryd.func18, Tryd.ntmps18
    go_wp2_with (first | ((with_reducible refine gate_dst (N := 2) rfl ?_); refine alloc_big rfl 42 rfl 2 zero42 ?_; intro g2 hg_ z2 w_ hz_ hk_ hb_; have n0_ := Aside0.mk (below_step HB.out hb_); have m0_ := Aside0.mk (hk_); have m1_ := Aside0.mk (hz_); have m2_ := Aside0.mk ((show w.heap.size ≤ g2 by rw [hg_]; exact HB.out.size)); clear HB; have HB := n0_; have BK_g2 := m0_; have ZS_g2 := m1_; have GE_g2 := m2_; clear n0_ m0_ m1_ m2_; clear hg_ hz_ hk_ hb_) | ((with_reducible refine gate_store (t := 42) (p := 2) rfl ?_); refine store_big rfl rfl 42 2 _ rfl g2 rfl [.int .i64 2, .slice none 0 0] rfl z2 42 BK_g2.out size42 ZS_g2.out (by intro u hu; simp at hu; rcases hu with rfl | rfl <;> rfl) ?_; intro w_ hk_ hp_; have n0_ := Aside0.mk (hp_.below HB.out GE_g2.out); have m0_ := Aside0.mk (hk_); clear HB; have HB := n0_; have KN := m0_; clear n0_ m0_; clear hk_ hp_ BK_g2; have BK_g2 := KN; clear KN))
    refine bodyPost_ret (results_cell_row rfl _ _ g2 42 _ (0, 0) _ rfl BK_g2.out Tryd.underlying42 rfl (by kernel_rfl)) rfl ?_
    unfold wordsR
    rw [if_pos HC.out]
    exact ⟨_, rfl, Kd.R_nil _ _ _ _ _, HB.out⟩
  · have HC := Aside0.mk h2
    have HS := Aside0.mk (show s.size ≤ 1048576 by omega)
    have h2b : decide ((2000 : Int) < (s.size : Int)) = false := decide_eq_false h2
    clear h2
    go_enter Tryd.func18, Tryd.ntmps18
    go_wp2_with (first | ((with_reducible refine gate_dst (N := 2) rfl ?_); refine alloc_big rfl 42 rfl 2 zero42 ?_; intro g2 hg_ z2 w_ hz_ hk_ hb_; have n0_ := Aside0.mk (below_step HB.out hb_); have m0_ := Aside0.mk (hk_); have m1_ := Aside0.mk (hz_); have m2_ := Aside0.mk ((show w.heap.size ≤ g2 by rw [hg_]; exact HB.out.size)); clear HB; have HB := n0_; have BK_g2 := m0_; have ZS_g2 := m1_; have GE_g2 := m2_; clear n0_ m0_ m1_ m2_; clear hg_ hz_ hk_ hb_) | (go_at_call 33; have q3 := wordsOf_any s HS.out _ (HM.out.below HB.out); (refine q3.mono ?_); clear q3; rintro e w_ ⟨v, rfl, hr_, hb_⟩; obtain ⟨Av, cv, ev⟩ := Kd.R_slice hr_; subst ev; have n0_ := Aside0.mk (below_step HB.out hb_); have n1_ := Aside0.mk (blk_below BK_g2.out hb_); have m0_ := Aside0.mk (Kd.R_lower hr_ HB.out.size); clear HB BK_g2; have HB := n0_; have BK_g2 := n1_; have HR := m0_; clear n0_ n1_ m0_; clear hr_ hb_) | ((with_reducible refine gate_store (t := 42) (p := 2) rfl ?_); refine store_big rfl rfl 42 2 _ rfl g2 rfl [.int .i64 0, .slice Av (wordsL s).length cv] rfl z2 42 BK_g2.out size42 ZS_g2.out (by intro u hu; simp at hu; rcases hu with rfl | rfl <;> rfl) ?_; intro w_ hk_ hp_; have n0_ := Aside0.mk (hp_.below HB.out GE_g2.out); have n1_ := Aside0.mk (hp_.R_types HR.out BK_g2.out (by first | decide | exact n26)); have m0_ := Aside0.mk (hk_); clear HB HR; have HB := n0_; have HR := n1_; have KN := m0_; clear n0_ n1_ m0_; clear hk_ hp_ BK_g2; have BK_g2 := KN; clear KN))
    refine bodyPost_ret (results_cell_row rfl _ _ g2 42 _ (0, 0) _ rfl BK_g2.out Tryd.underlying42 rfl (by kernel_rfl)) rfl ?_
    unfold wordsR
    rw [if_neg (Int.not_lt.2 HC.out)]
    exact ⟨_, rfl, HR.out, HB.out⟩

end Go.Proofs.YtknhjeabldlimaaDoor.Words
