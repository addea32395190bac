/- What SourcesOf and GapsIn return, the program's and the reference's: the code 2 and no list beyond 40 outcomes, else the code 0 and one list; no conditions. -/
import Derived.Test.YteahhohlnoifaaaHar3
namespace Go.Proofs.Yteahhohlnoifaaa.QZ
open Go.RowKit Go.Proofs.YteahhohlnoifaaaW.PrintWords Go.Proofs.YteahhohlnoifaaaW.PrintLast Go.Proofs.YteahhohlnoifaaaW.PrintMore Go.Proofs.Yteahhohlnoifaaa.Big
set_option linter.unusedVariables false
set_option linter.unusedSimpArgs false


theorem zero26 : ∃ z : Array Value, z.size = 2 ∧ (Try.prog.info? 26).map (·.zero) = some (some (.agg z)) := ⟨#[.int .i64 0, .slice none 0 0], rfl, by kernel_rfl⟩
theorem k53_13 {w : World} {x : S53} {cs : List Value} (h : k53.K w x cs) : cs[13]? = some (.bool x.f3) := by
  obtain ⟨_, _, _, _, _, _, _, _, _, _, _, _, _, _, rfl, _⟩ := k53_open h
  rfl
theorem k53_15 {w : World} {x : S53} {cs : List Value} (h : k53.K w x cs) : cs[15]? = some (.int .i64 x.f5) := by
  obtain ⟨_, _, _, _, _, _, _, _, _, _, _, _, _, _, rfl, _⟩ := k53_open h
  rfl
theorem take_map_snoc {α β : Type} (f : α → β) (l : List α) (i : Nat) (x : α) (h : l[i]? = some x) : (l.take (i + 1)).map f = (l.take i).map f ++ [f x] := by
  obtain ⟨hlt, rfl⟩ := List.getElem?_eq_some_iff.1 h
  rw [List.take_succ_eq_append_getElem hlt, List.map_append]
  rfl
theorem take_foldl_snoc {α β : Type} (f : β → α → β) (b : β) (l : List α) (i : Nat) (x : α) (h : l[i]? = some x) : (l.take (i + 1)).foldl f b = f ((l.take i).foldl f b) x := by
  obtain ⟨hlt, rfl⟩ := List.getElem?_eq_some_iff.1 h
  rw [List.take_succ_eq_append_getElem hlt, List.foldl_append]
  rfl
def codeOf (l : List S53) : Int := if 40 < l.length then 2 else 0
def srcOf (x : S53) : Int := if x.f3 = true then x.f5 else -1
def srcs (l : List S53) : List Int := if 40 < l.length then [] else l.map srcOf
theorem srcs_len (l : List S53) : (srcs l).length ≤ 40 := by
  unfold srcs
  split
  · simp
  · simp; omega
/-- A code and a list of its own. -/
def ResPost (c : Int) (xs : List Int) (w : World) (e : Ending) (w' : World) : Prop :=
  ∃ v1_ : Value, e = .returned (.agg #[.int .i64 c, v1_]) ∧ Kd.R (Kd.int .i64) 2 w' w.heap.size (fun _ => True) v1_ xs ∧ Below w.heap.size w w'

set_option maxHeartbeats 4000000 in
set_option maxRecDepth 100000 in
theorem impl_SourcesOf_any (A : Option Addr) (c : Nat) (l : List S53) (w : World) (hC : Kd.C k53 w A l.length l) :
    Calls Try.prog 10 #[.slice A l.length c] w (ResPost (codeOf l) (srcs l) w) := by
  have HC := Aside0.mk hC
  have HB := Aside0.mk (Below.refl w.heap.size w)
  clear hC
  by_cases c2 : 40 < l.length
  · have HIF := Aside0.mk c2
    have c2b1 : decide (40 < l.length) = true := decide_eq_true c2
    have c2b0 : decide (40 < (l.length : Int)) = true := decide_eq_true (by omega)
    clear c2
    go_enter Try.func10, Try.ntmps10
    go_wp2_with (first | ((with_reducible refine gate_dst (N := 2) rfl ?_); refine alloc_big rfl 26 rfl 2 zero26 ?_; intro g2 hg_ z2 w_ hz_ hk_ hb_; have n0_ := Aside0.mk (below_step HB.out hb_); have m0_ := Aside0.mk (hk_); have m1_ := Aside0.mk (hz_); have m2_ := Aside0.mk ((show w.heap.size ≤ g2 by rw [hg_]; exact HB.out.size)); clear HB; have HB := n0_; have BK_g2 := m0_; have ZS_g2 := m1_; have GE_g2 := m2_; clear n0_ m0_ m1_ m2_; clear hg_ hz_ hk_ hb_) | ((with_reducible refine gate_store (t := 26) (p := 2) rfl ?_); refine store_big rfl rfl 26 2 _ rfl g2 rfl [.int .i64 2, .slice none 0 0] rfl z2 26 BK_g2.out size26 ZS_g2.out (by intro u hu; simp at hu; rcases hu with rfl | rfl <;> rfl) ?_; intro w_ hk_ hp_; have n0_ := Aside0.mk (hp_.below HB.out GE_g2.out); have m0_ := Aside0.mk (hk_); clear HB; have HB := n0_; have KN := m0_; clear n0_ m0_; clear hk_ hp_ BK_g2; have BK_g2 := KN; clear KN))
    refine bodyPost_ret (results_cell_row rfl _ _ g2 26 _ (0, 0) _ rfl BK_g2.out Try.underlying26 rfl (by kernel_rfl)) rfl ?_
    unfold codeOf srcs
    rw [if_pos HIF.out, if_pos HIF.out]
    exact ⟨_, rfl, Kd.R_nil _ _ _ _ _, HB.out⟩
  · have HIF := Aside0.mk c2
    have c2b1 : decide (40 < l.length) = false := decide_eq_false c2
    have c2b0 : decide (40 < (l.length : Int)) = false := decide_eq_false (by omega)
    clear c2
    go_enter Try.func10, Try.ntmps10
    go_wp2_with (first | ((with_reducible refine gate_dst (N := 2) rfl ?_); refine alloc_big rfl 26 rfl 2 zero26 ?_; intro g2 hg_ z2 w_ hz_ hk_ hb_; have n0_ := Aside0.mk (below_step HB.out hb_); have m0_ := Aside0.mk (hk_); have m1_ := Aside0.mk (hz_); have m2_ := Aside0.mk ((show w.heap.size ≤ g2 by rw [hg_]; exact HB.out.size)); clear HB; have HB := n0_; have BK_g2 := m0_; have ZS_g2 := m1_; have GE_g2 := m2_; clear n0_ m0_ m1_ m2_; clear hg_ hz_ hk_ hb_) | ((with_reducible refine gate_dst (N := 11) rfl ?_); refine Kd.R_lit (Kd.int .i64) _ 2 ?hg (N := 11) ?hd (xs := ([] : List Int)) (inner := []) (ok := fun _ => True) (okp := fun _ => True) ?hr ?hp (fun _ hk => hk) trivial (Below.refl _ _) (Nat.le_refl _) (by simp) ?_; (case hd => rfl); (case hg => rfl); (case hr => first | (go_simp; done) | (go_simp; rfl)); (case hp => exact (Reps.none _ _)); intro v3 w_ ho_ hb_ hg_ hnew_; have n0_ := Aside0.mk (below_step HB.out hb_); have n1_ := Aside0.mk (blk_below BK_g2.out hb_); have m0_ := Aside0.mk (Kd.R_lower ho_ HB.out.size); clear HB BK_g2; have HB := n0_; have BK_g2 := n1_; have HO := m0_; clear n0_ n1_ m0_; clear ho_ hb_ hg_ hnew_))
    go_loopg [3, 14] l.length (fun gk v3 v14 w' => ∃ (i : Nat) (ys : List Int), v14 = .int .i64 (i : Int) ∧ Aside0 (i + gk = l.length) ∧ Aside0 (ys = (l.take i).map srcOf) ∧ Aside0 (Kd.R (Kd.int .i64) 2 w' w.heap.size (fun _ => True) v3 ys) ∧ Aside0 (w'.heap[g2]? = some (.cells z2 26 (0, 0))) ∧ Aside0 (Below w.heap.size w w'))
    case atStart => exact ⟨0, [], rfl, ⟨by omega⟩, ⟨by simp⟩, HO, BK_g2, HB⟩
    case round =>
      clear HO BK_g2 HB
      obtain ⟨i, ys, rfl, HI, HY, HO, BK_g2, HB⟩ := hrel
      have LY := Aside0.mk (show (ys.length + 1) * 8 ≤ 140737488355328 by have h1 := HIF.out; rw [HY.out]; simp only [List.length_map, List.length_take]; omega)
      by_cases hlt : i < l.length
      · have c8b0 : decide (i < l.length) = true := decide_eq_true hlt
        have c8b1 : decide ((i : Int) < (l.length : Int)) = true := decide_eq_true (by omega)
        have c8b2 : (i : Int) < (l.length : Int) := by omega
        have HLT := Aside0.mk hlt
        obtain ⟨ad, cs, x, hA, hx, hl, hK, hc⟩ := elem53 HC.out i hlt
        subst hA
        have HX := Aside0.mk hx
        have HL := Aside0.mk hl
        have HK := Aside0.mk hK
        have HCC := Aside0.mk hc
        clear hx hl hK hc hlt
        by_cases hf : x.f3 = true
        · have HF := Aside0.mk hf
          have h13 : cs[13]? = some (.bool true) := by rw [← hf]; exact k53_13 HK.out
          have H13 := Aside0.mk h13
          clear hf h13
          go_wp2_with (first | ((with_reducible refine gate_dst (N := 17) rfl ?_); refine load_big rfl 53 _ rfl (ad.add (i * 19)) rfl _ Try.underlying53 19 size53 cs HL.out (HCC.out.below HB.out) ?_) | ((with_reducible refine gate_dst (N := 5) rfl ?_); refine alloc_big rfl 53 rfl 19 zero53 ?_; intro g5 hg_ z5 w_ hz_ hk_ hb_; have n0_ := Aside0.mk (below_step HB.out hb_); have n1_ := Aside0.mk (Kd.R_below HO.out hb_); have n2_ := Aside0.mk (blk_below BK_g2.out hb_); have m0_ := Aside0.mk (hk_); have m1_ := Aside0.mk (hz_); have m2_ := Aside0.mk ((show w.heap.size ≤ g5 by rw [hg_]; exact HB.out.size)); have m3_ := Aside0.mk ((show g2 ≠ g5 by rw [hg_]; exact Nat.ne_of_lt (blk_lt BK_g2.out))); have m4_ := Aside0.mk ((show g5 ≠ g2 by rw [hg_]; exact Nat.ne_of_gt (blk_lt BK_g2.out))); clear HB HO BK_g2; have HB := n0_; have HO := n1_; have BK_g2 := n2_; have BK_g5 := m0_; have ZS_g5 := m1_; have GE_g5 := m2_; have NE_g2_g5 := m3_; have NE_g5_g2 := m4_; clear n0_ n1_ n2_ m0_ m1_ m2_ m3_ m4_; clear hg_ hz_ hk_ hb_) | ((with_reducible refine gate_store (t := 53) (p := 5) rfl ?_); refine store_big rfl rfl 53 5 _ rfl g5 rfl cs rfl z5 53 BK_g5.out (by rw [HL.out]; exact size53) (by rw [HL.out]; exact ZS_g5.out) (fun u hu => k53.K_one HK.out u hu) ?_; intro w_ hk_ hp_; have n0_ := Aside0.mk (hp_.below HB.out GE_g5.out); have n1_ := Aside0.mk (hp_.R_types HO.out BK_g5.out (by first | decide | exact n26)); have n2_ := Aside0.mk (hp_.blk BK_g2.out NE_g2_g5.out); have m0_ := Aside0.mk (hk_); clear HB HO BK_g2; have HB := n0_; have HO := n1_; have BK_g2 := n2_; have KN := m0_; clear n0_ n1_ n2_ m0_; have hc13 : w_.cell? ⟨g5, 13, none⟩ = some (.bool true) := blk_one hk_ H13.out; have hc15 : w_.cell? ⟨g5, 15, none⟩ = some (.int .i64 x.f5) := blk_one hk_ (k53_15 HK.out); clear hk_ hp_ BK_g5; have BK_g5 := KN; clear KN) | ((with_reducible refine gate_builtin (b := .append) (xs := #[.tmp 22, .tmp 24]) rfl ?_); at_builtin; refine Kd.R_append (Kd.int .i64) (w0 := w) w.heap.size rfl (.tmp 22) (.tmp 24) 24 2 (.int .i64 0) 8 rfl Try.underlying24 info2 rfl (by decide) (by omega) u3 ys x.f5 [.int .i64 x.f5] (fun _ => True) (fun _ => False) rfl (by first | (go_simp; done) | (go_simp; rfl)) rfl (fun _ hk => hk.elim) (fun _ _ => trivial) HO.out HB.out HB.out.size LY.out ?_; intro v7 w7 ho7 hb7 hg7 hat7; have n0_ := Aside0.mk ho7; have n1_ := Aside0.mk hb7; have n2_ := Aside0.mk (blk_grownN BK_g2.out hg7 (Kd.R_ne HO.out BK_g2.out (by decide))); clear ho7 hb7 hg7 hat7 HO HB BK_g2; have HO := n0_; have HB := n1_; have BK_g2 := n2_; clear n0_ n1_ n2_))
          go_roundg (l.length - (i + 1))
          case measure => have := HI.out; have := HLT.out; omega
          case rel => exact ⟨i + 1, ys ++ [x.f5], by rw [show wrap64 ((i : Int) + 1) = ((i + 1 : Nat) : Int) from by have h1 := HIF.out; have h2 := HLT.out; unfold wrap64; omega], ⟨by have := HLT.out; omega⟩, ⟨by rw [take_map_snoc srcOf l i x HX.out, show srcOf x = x.f5 from if_pos HF.out, HY.out]⟩, HO, BK_g2, HB⟩
        · have HF := Aside0.mk hf
          have h13 : cs[13]? = some (.bool false) := by rw [← (Bool.eq_false_iff.2 hf)]; exact k53_13 HK.out
          have H13 := Aside0.mk h13
          clear hf h13
          go_wp2_with (first | ((with_reducible refine gate_dst (N := 17) rfl ?_); refine load_big rfl 53 _ rfl (ad.add (i * 19)) rfl _ Try.underlying53 19 size53 cs HL.out (HCC.out.below HB.out) ?_) | ((with_reducible refine gate_dst (N := 5) rfl ?_); refine alloc_big rfl 53 rfl 19 zero53 ?_; intro g5 hg_ z5 w_ hz_ hk_ hb_; have n0_ := Aside0.mk (below_step HB.out hb_); have n1_ := Aside0.mk (Kd.R_below HO.out hb_); have n2_ := Aside0.mk (blk_below BK_g2.out hb_); have m0_ := Aside0.mk (hk_); have m1_ := Aside0.mk (hz_); have m2_ := Aside0.mk ((show w.heap.size ≤ g5 by rw [hg_]; exact HB.out.size)); have m3_ := Aside0.mk ((show g2 ≠ g5 by rw [hg_]; exact Nat.ne_of_lt (blk_lt BK_g2.out))); have m4_ := Aside0.mk ((show g5 ≠ g2 by rw [hg_]; exact Nat.ne_of_gt (blk_lt BK_g2.out))); clear HB HO BK_g2; have HB := n0_; have HO := n1_; have BK_g2 := n2_; have BK_g5 := m0_; have ZS_g5 := m1_; have GE_g5 := m2_; have NE_g2_g5 := m3_; have NE_g5_g2 := m4_; clear n0_ n1_ n2_ m0_ m1_ m2_ m3_ m4_; clear hg_ hz_ hk_ hb_) | ((with_reducible refine gate_store (t := 53) (p := 5) rfl ?_); refine store_big rfl rfl 53 5 _ rfl g5 rfl cs rfl z5 53 BK_g5.out (by rw [HL.out]; exact size53) (by rw [HL.out]; exact ZS_g5.out) (fun u hu => k53.K_one HK.out u hu) ?_; intro w_ hk_ hp_; have n0_ := Aside0.mk (hp_.below HB.out GE_g5.out); have n1_ := Aside0.mk (hp_.R_types HO.out BK_g5.out (by first | decide | exact n26)); have n2_ := Aside0.mk (hp_.blk BK_g2.out NE_g2_g5.out); have m0_ := Aside0.mk (hk_); clear HB HO BK_g2; have HB := n0_; have HO := n1_; have BK_g2 := n2_; have KN := m0_; clear n0_ n1_ n2_ m0_; have hc13 : w_.cell? ⟨g5, 13, none⟩ = some (.bool false) := blk_one hk_ H13.out; have hc15 : w_.cell? ⟨g5, 15, none⟩ = some (.int .i64 x.f5) := blk_one hk_ (k53_15 HK.out); clear hk_ hp_ BK_g5; have BK_g5 := KN; clear KN) | ((with_reducible refine gate_builtin (b := .append) (xs := #[.tmp 22, .tmp 24]) rfl ?_); at_builtin; refine Kd.R_append (Kd.int .i64) (w0 := w) w.heap.size rfl (.tmp 22) (.tmp 24) 24 2 (.int .i64 0) 8 rfl Try.underlying24 info2 rfl (by decide) (by omega) u3 ys (-1) [.int .i64 (-1)] (fun _ => True) (fun _ => False) rfl (by first | (go_simp; done) | (go_simp; rfl)) rfl (fun _ hk => hk.elim) (fun _ _ => trivial) HO.out HB.out HB.out.size LY.out ?_; intro v7 w7 ho7 hb7 hg7 hat7; have n0_ := Aside0.mk ho7; have n1_ := Aside0.mk hb7; have n2_ := Aside0.mk (blk_grownN BK_g2.out hg7 (Kd.R_ne HO.out BK_g2.out (by decide))); clear ho7 hb7 hg7 hat7 HO HB BK_g2; have HO := n0_; have HB := n1_; have BK_g2 := n2_; clear n0_ n1_ n2_))
          go_roundg (l.length - (i + 1))
          case measure => have := HI.out; have := HLT.out; omega
          case rel => exact ⟨i + 1, ys ++ [(-1)], by rw [show wrap64 ((i : Int) + 1) = ((i + 1 : Nat) : Int) from by have h1 := HIF.out; have h2 := HLT.out; unfold wrap64; omega], ⟨by have := HLT.out; omega⟩, ⟨by rw [take_map_snoc srcOf l i x HX.out, show srcOf x = -1 from if_neg HF.out, HY.out]⟩, HO, BK_g2, HB⟩
      · have c8b0 : decide (i < l.length) = false := decide_eq_false hlt
        have c8b1 : decide ((i : Int) < (l.length : Int)) = false := decide_eq_false (by omega)
        have HLE := Aside0.mk (show i = l.length by have := HI.out; omega)
        clear hlt
        obtain ⟨Ao, co, eo⟩ := Kd.R_slice HO.out
        subst eo
        go_wp2_with (first | ((with_reducible refine gate_store (t := 26) (p := 2) rfl ?_); refine store_big rfl rfl 26 2 _ rfl g2 rfl [.int .i64 0, .slice Ao ys.length co] rfl z2 26 BK_g2.out size26 ZS_g2.out (by intro u hu; simp at hu; rcases hu with rfl | rfl <;> rfl) ?_; intro w_ hk_ hp_; have n0_ := Aside0.mk (hp_.below HB.out GE_g2.out); have n1_ := Aside0.mk (hp_.R_types HO.out BK_g2.out (by first | decide | exact n26)); have m0_ := Aside0.mk (hk_); clear HB HO; have HB := n0_; have HO := n1_; have KN := m0_; clear n0_ n1_ m0_; clear hk_ hp_ BK_g2; have BK_g2 := KN; clear KN))
        refine bodyPost_ret (results_cell_row rfl _ _ g2 26 _ (0, 0) _ rfl BK_g2.out Try.underlying26 rfl (by kernel_rfl)) rfl ?_
        unfold codeOf srcs
        rw [if_neg HIF.out, if_neg HIF.out]
        refine ⟨_, rfl, ?_, HB.out⟩
        rw [← show ys = l.map srcOf from by rw [HY.out, show l.take i = l from List.take_of_length_le (by have := HLE.out; omega)]]
        exact HO.out

set_option maxHeartbeats 4000000 in
set_option maxRecDepth 100000 in
theorem spec_SourcesOf_any (A : Option Addr) (c : Nat) (l : List S53) (w : World) (hC : Kd.C k53 w A l.length l) :
    Calls Try.prog 8 #[.slice A l.length c] w (ResPost (codeOf l) (srcs l) w) := by
  have HC := Aside0.mk hC
  have HB := Aside0.mk (Below.refl w.heap.size w)
  clear hC
  by_cases c2 : 40 < l.length
  · have HIF := Aside0.mk c2
    have c2b1 : decide (40 < l.length) = true := decide_eq_true c2
    have c2b0 : decide (40 < (l.length : Int)) = true := decide_eq_true (by omega)
    clear c2
    go_enter Try.func8, Try.ntmps8
    go_wp2_with (first | ((with_reducible refine gate_dst (N := 2) rfl ?_); refine alloc_big rfl 26 rfl 2 zero26 ?_; intro g2 hg_ z2 w_ hz_ hk_ hb_; have n0_ := Aside0.mk (below_step HB.out hb_); have m0_ := Aside0.mk (hk_); have m1_ := Aside0.mk (hz_); have m2_ := Aside0.mk ((show w.heap.size ≤ g2 by rw [hg_]; exact HB.out.size)); clear HB; have HB := n0_; have BK_g2 := m0_; have ZS_g2 := m1_; have GE_g2 := m2_; clear n0_ m0_ m1_ m2_; clear hg_ hz_ hk_ hb_) | ((with_reducible refine gate_store (t := 26) (p := 2) rfl ?_); refine store_big rfl rfl 26 2 _ rfl g2 rfl [.int .i64 2, .slice none 0 0] rfl z2 26 BK_g2.out size26 ZS_g2.out (by intro u hu; simp at hu; rcases hu with rfl | rfl <;> rfl) ?_; intro w_ hk_ hp_; have n0_ := Aside0.mk (hp_.below HB.out GE_g2.out); have m0_ := Aside0.mk (hk_); clear HB; have HB := n0_; have KN := m0_; clear n0_ m0_; clear hk_ hp_ BK_g2; have BK_g2 := KN; clear KN))
    refine bodyPost_ret (results_cell_row rfl _ _ g2 26 _ (0, 0) _ rfl BK_g2.out Try.underlying26 rfl (by kernel_rfl)) rfl ?_
    unfold codeOf srcs
    rw [if_pos HIF.out, if_pos HIF.out]
    exact ⟨_, rfl, Kd.R_nil _ _ _ _ _, HB.out⟩
  · have HIF := Aside0.mk c2
    have c2b1 : decide (40 < l.length) = false := decide_eq_false c2
    have c2b0 : decide (40 < (l.length : Int)) = false := decide_eq_false (by omega)
    clear c2
    go_enter Try.func8, Try.ntmps8
    go_wp2_with (first | ((with_reducible refine gate_dst (N := 2) rfl ?_); refine alloc_big rfl 26 rfl 2 zero26 ?_; intro g2 hg_ z2 w_ hz_ hk_ hb_; have n0_ := Aside0.mk (below_step HB.out hb_); have m0_ := Aside0.mk (hk_); have m1_ := Aside0.mk (hz_); have m2_ := Aside0.mk ((show w.heap.size ≤ g2 by rw [hg_]; exact HB.out.size)); clear HB; have HB := n0_; have BK_g2 := m0_; have ZS_g2 := m1_; have GE_g2 := m2_; clear n0_ m0_ m1_ m2_; clear hg_ hz_ hk_ hb_) | ((with_reducible refine gate_dst (N := 9) rfl ?_); refine Kd.R_lit (Kd.int .i64) _ 2 ?hg (N := 9) ?hd (xs := ([] : List Int)) (inner := []) (ok := fun _ => True) (okp := fun _ => True) ?hr ?hp (fun _ hk => hk) trivial (Below.refl _ _) (Nat.le_refl _) (by simp) ?_; (case hd => rfl); (case hg => rfl); (case hr => first | (go_simp; done) | (go_simp; rfl)); (case hp => exact (Reps.none _ _)); intro v3 w_ ho_ hb_ hg_ hnew_; have n0_ := Aside0.mk (below_step HB.out hb_); have n1_ := Aside0.mk (blk_below BK_g2.out hb_); have m0_ := Aside0.mk (Kd.R_lower ho_ HB.out.size); clear HB BK_g2; have HB := n0_; have BK_g2 := n1_; have HO := m0_; clear n0_ n1_ m0_; clear ho_ hb_ hg_ hnew_))
    go_loopg [3, 4] l.length (fun gk v3 v4 w' => ∃ (i : Nat) (ys : List Int), v4 = .int .i64 (i : Int) ∧ Aside0 (i + gk = l.length) ∧ Aside0 (ys = (l.take i).map srcOf) ∧ Aside0 (Kd.R (Kd.int .i64) 2 w' w.heap.size (fun _ => True) v3 ys) ∧ Aside0 (w'.heap[g2]? = some (.cells z2 26 (0, 0))) ∧ Aside0 (Below w.heap.size w w'))
    case atStart => exact ⟨0, [], rfl, ⟨by omega⟩, ⟨by simp⟩, HO, BK_g2, HB⟩
    case round =>
      clear HO BK_g2 HB
      obtain ⟨i, ys, rfl, HI, HY, HO, BK_g2, HB⟩ := hrel
      have LY := Aside0.mk (show (ys.length + 1) * 8 ≤ 140737488355328 by have h1 := HIF.out; rw [HY.out]; simp only [List.length_map, List.length_take]; omega)
      by_cases hlt : i < l.length
      · have c8b0 : decide (i < l.length) = true := decide_eq_true hlt
        have c8b1 : decide ((i : Int) < (l.length : Int)) = true := decide_eq_true (by omega)
        have c8b2 : (i : Int) < (l.length : Int) := by omega
        have HLT := Aside0.mk hlt
        obtain ⟨ad, cs, x, hA, hx, hl, hK, hc⟩ := elem53 HC.out i hlt
        subst hA
        have HX := Aside0.mk hx
        have HL := Aside0.mk hl
        have HK := Aside0.mk hK
        have HCC := Aside0.mk hc
        clear hx hl hK hc hlt
        by_cases hf : x.f3 = true
        · have HF := Aside0.mk hf
          have h13 : cs[13]? = some (.bool true) := by rw [← hf]; exact k53_13 HK.out
          have H13 := Aside0.mk h13
          clear hf h13
          go_wp2_with (first | ((with_reducible refine gate_dst (N := 20) rfl ?_); refine load_one rfl 4 _ rfl ⟨(ad.add (i * 19)).block, (ad.add (i * 19)).off + 13, none⟩ rfl (ag4 _) (.bool true) (cell_add (HCC.out.below HB.out) 12 H13.out) ?_) | ((with_reducible refine gate_dst (N := 26) rfl ?_); refine load_one rfl 2 _ rfl ⟨(ad.add (i * 19)).block, (ad.add (i * 19)).off + 15, none⟩ rfl (ag2 _) (.int .i64 x.f5) (cell_add (HCC.out.below HB.out) 14 (k53_15 HK.out)) ?_) | ((with_reducible refine gate_builtin (b := .append) (xs := #[.tmp 21, .tmp 27]) rfl ?_); at_builtin; refine Kd.R_append (Kd.int .i64) (w0 := w) w.heap.size rfl (.tmp 21) (.tmp 27) 24 2 (.int .i64 0) 8 rfl Try.underlying24 info2 rfl (by decide) (by omega) u3 ys x.f5 [.int .i64 x.f5] (fun _ => True) (fun _ => False) rfl (by first | (go_simp; done) | (go_simp; rfl)) rfl (fun _ hk => hk.elim) (fun _ _ => trivial) HO.out HB.out HB.out.size LY.out ?_; intro v7 w7 ho7 hb7 hg7 hat7; have n0_ := Aside0.mk ho7; have n1_ := Aside0.mk hb7; have n2_ := Aside0.mk (blk_grownN BK_g2.out hg7 (Kd.R_ne HO.out BK_g2.out (by decide))); clear ho7 hb7 hg7 hat7 HO HB BK_g2; have HO := n0_; have HB := n1_; have BK_g2 := n2_; clear n0_ n1_ n2_))
          go_roundg (l.length - (i + 1))
          case measure => have := HI.out; have := HLT.out; omega
          case rel => exact ⟨i + 1, ys ++ [x.f5], by rw [show wrap64 ((i : Int) + 1) = ((i + 1 : Nat) : Int) from by have h1 := HIF.out; have h2 := HLT.out; unfold wrap64; omega], ⟨by have := HLT.out; omega⟩, ⟨by rw [take_map_snoc srcOf l i x HX.out, show srcOf x = x.f5 from if_pos HF.out, HY.out]⟩, HO, BK_g2, HB⟩
        · have HF := Aside0.mk hf
          have h13 : cs[13]? = some (.bool false) := by rw [← (Bool.eq_false_iff.2 hf)]; exact k53_13 HK.out
          have H13 := Aside0.mk h13
          clear hf h13
          go_wp2_with (first | ((with_reducible refine gate_dst (N := 20) rfl ?_); refine load_one rfl 4 _ rfl ⟨(ad.add (i * 19)).block, (ad.add (i * 19)).off + 13, none⟩ rfl (ag4 _) (.bool false) (cell_add (HCC.out.below HB.out) 12 H13.out) ?_) | ((with_reducible refine gate_builtin (b := .append) (xs := #[.tmp 29, .tmp 30]) rfl ?_); at_builtin; refine Kd.R_append (Kd.int .i64) (w0 := w) w.heap.size rfl (.tmp 29) (.tmp 30) 24 2 (.int .i64 0) 8 rfl Try.underlying24 info2 rfl (by decide) (by omega) u3 ys (-1) [.int .i64 (-1)] (fun _ => True) (fun _ => False) rfl (by first | (go_simp; done) | (go_simp; rfl)) rfl (fun _ hk => hk.elim) (fun _ _ => trivial) HO.out HB.out HB.out.size LY.out ?_; intro v7 w7 ho7 hb7 hg7 hat7; have n0_ := Aside0.mk ho7; have n1_ := Aside0.mk hb7; have n2_ := Aside0.mk (blk_grownN BK_g2.out hg7 (Kd.R_ne HO.out BK_g2.out (by decide))); clear ho7 hb7 hg7 hat7 HO HB BK_g2; have HO := n0_; have HB := n1_; have BK_g2 := n2_; clear n0_ n1_ n2_))
          go_roundg (l.length - (i + 1))
          case measure => have := HI.out; have := HLT.out; omega
          case rel => exact ⟨i + 1, ys ++ [(-1)], by rw [show wrap64 ((i : Int) + 1) = ((i + 1 : Nat) : Int) from by have h1 := HIF.out; have h2 := HLT.out; unfold wrap64; omega], ⟨by have := HLT.out; omega⟩, ⟨by rw [take_map_snoc srcOf l i x HX.out, show srcOf x = -1 from if_neg HF.out, HY.out]⟩, HO, BK_g2, HB⟩
      · have c8b0 : decide (i < l.length) = false := decide_eq_false hlt
        have c8b1 : decide ((i : Int) < (l.length : Int)) = false := decide_eq_false (by omega)
        have HLE := Aside0.mk (show i = l.length by have := HI.out; omega)
        clear hlt
        obtain ⟨Ao, co, eo⟩ := Kd.R_slice HO.out
        subst eo
        go_wp2_with (first | ((with_reducible refine gate_store (t := 26) (p := 2) rfl ?_); refine store_big rfl rfl 26 2 _ rfl g2 rfl [.int .i64 0, .slice Ao ys.length co] rfl z2 26 BK_g2.out size26 ZS_g2.out (by intro u hu; simp at hu; rcases hu with rfl | rfl <;> rfl) ?_; intro w_ hk_ hp_; have n0_ := Aside0.mk (hp_.below HB.out GE_g2.out); have n1_ := Aside0.mk (hp_.R_types HO.out BK_g2.out (by first | decide | exact n26)); have m0_ := Aside0.mk (hk_); clear HB HO; have HB := n0_; have HO := n1_; have KN := m0_; clear n0_ n1_ m0_; clear hk_ hp_ BK_g2; have BK_g2 := KN; clear KN))
        refine bodyPost_ret (results_cell_row rfl _ _ g2 26 _ (0, 0) _ rfl BK_g2.out Try.underlying26 rfl (by kernel_rfl)) rfl ?_
        unfold codeOf srcs
        rw [if_neg HIF.out, if_neg HIF.out]
        refine ⟨_, rfl, ?_, HB.out⟩
        rw [← show ys = l.map srcOf from by rw [HY.out, show l.take i = l from List.take_of_length_le (by have := HLE.out; omega)]]
        exact HO.out

end Go.Proofs.Yteahhohlnoifaaa.QZ
