/- What GapsIn returns, the program's and the reference's: the code 2 and no list beyond 40 outcomes, else the code 0 and the lengths of the runs of gaps; no conditions. -/
import Derived.Test.YteahhohlnoifaaaSrcs
import Derived.Test.YteahhohlnoifaaaHar6
namespace Go.Proofs.Yteahhohlnoifaaa.QZ
open Go.RowKit Go.Proofs.YteahhohlnoifaaaW.PrintWords Go.Proofs.YteahhohlnoifaaaW.PrintLast Go.Proofs.YteahhohlnoifaaaW.PrintMore Go.Proofs.Yteahhohlnoifaaa.Big
set_option linter.unusedVariables false
set_option linter.unusedSimpArgs false
def gapB (x : S53) : Prop := x.f3 = true ∧ x.f5 = 0
instance (x : S53) : Decidable (gapB x) := inferInstanceAs (Decidable (_ ∧ _))
def gflush (s : List Int × Int) : List Int := if 0 < s.2 then s.1 ++ [s.2] else s.1
def gstep (s : List Int × Int) (x : S53) : List Int × Int := if gapB x then (s.1, s.2 + 1) else (gflush s, 0)
def gst (l : List S53) (i : Nat) : List Int × Int := (l.take i).foldl gstep ([], 0)
def gaps (l : List S53) : List Int := if 40 < l.length then [] else gflush (gst l l.length)
def gst2 (l : List S53) (i : Nat) : List Int × Int := if i ≤ l.length then gst l i else (gflush (gst l l.length), 0)
theorem gst_succ {l : List S53} {i : Nat} {x : S53} (h : l[i]? = some x) : gst l (i + 1) = gstep (gst l i) x := take_foldl_snoc gstep _ l i x h
theorem gst_bnd (l : List S53) : ∀ i, i ≤ l.length → 0 ≤ (gst l i).2 ∧ (gst l i).2 ≤ i ∧ (gst l i).1.length ≤ i ∧ (gflush (gst l i)).length ≤ i := by
  intro i
  induction i with
  | zero => intro _; simp [gst, gflush]
  | succ i ih =>
    intro hi
    obtain ⟨h1, h2, h3, h4⟩ := ih (by omega)
    rw [gst_succ (List.getElem?_eq_getElem (by omega : i < l.length))]
    unfold gstep
    by_cases hg : gapB l[i]
    · rw [if_pos hg]
      refine ⟨by simp only; omega, by simp only; omega, by simp only; omega, ?_⟩
      unfold gflush
      rw [if_pos (by simp only; omega)]
      simp only [List.length_append, List.length_cons, List.length_nil]
      omega
    · rw [if_neg hg]
      refine ⟨by simp, by simp only; omega, by simp only; omega, ?_⟩
      unfold gflush
      rw [if_neg (by simp)]
      exact Nat.le_succ_of_le h4
theorem gst2_len (l : List S53) (i : Nat) (h : i ≤ l.length + 1) : (gst2 l i).1.length ≤ l.length ∧ 0 ≤ (gst2 l i).2 ∧ (gst2 l i).2 ≤ l.length := by
  unfold gst2
  by_cases hi : i ≤ l.length
  · rw [if_pos hi]
    have := gst_bnd l i hi
    omega
  · rw [if_neg hi]
    have := gst_bnd l l.length (Nat.le_refl _)
    simp only
    omega
theorem gaps_len (l : List S53) : (gaps l).length ≤ 40 := by
  unfold gaps
  by_cases h : 40 < l.length
  · rw [if_pos h]; simp
  · rw [if_neg h]
    have := gst_bnd l l.length (Nat.le_refl _)
    omega
theorem gst2_gap {l : List S53} {i : Nat} {x : S53} (h : l[i]? = some x) {ys : List Int} {r : Int} (hr : (ys, r) = gst2 l i) (hg : gapB x) : (ys, r + 1) = gst2 l (i + 1) := by
  have hi : i < l.length := (List.getElem?_eq_some_iff.1 h).1
  unfold gst2 at hr ⊢
  rw [if_pos (by omega)] at hr
  rw [if_pos (by omega), gst_succ h, ← hr]
  unfold gstep
  rw [if_pos hg]
theorem gst2_not {l : List S53} {i : Nat} {x : S53} (h : l[i]? = some x) {ys : List Int} {r : Int} (hr : (ys, r) = gst2 l i) (hg : ¬ gapB x) : (gflush (ys, r), (0 : Int)) = gst2 l (i + 1) := by
  have hi : i < l.length := (List.getElem?_eq_some_iff.1 h).1
  unfold gst2 at hr ⊢
  rw [if_pos (by omega)] at hr
  rw [if_pos (by omega), gst_succ h, ← hr]
  unfold gstep
  rw [if_neg hg]
theorem gst2_end {l : List S53} {ys : List Int} {r : Int} (hr : (ys, r) = gst2 l l.length) : (gflush (ys, r), (0 : Int)) = gst2 l (l.length + 1) := by
  unfold gst2 at hr ⊢
  rw [if_pos (Nat.le_refl _)] at hr
  rw [if_neg (by omega), ← hr]
theorem gst2_gaps {l : List S53} {ys : List Int} {r : Int} (hr : (ys, r) = gst2 l (l.length + 1)) (h40 : ¬ 40 < l.length) : ys = gflush (gst l l.length) := by
  unfold gst2 at hr
  rw [if_neg (by omega)] at hr
  injection hr
theorem flush_pos {ys : List Int} {r : Int} (h : 0 < r) : gflush (ys, r) = ys ++ [r] := if_pos h
theorem flush_neg {ys : List Int} {r : Int} (h : ¬ 0 < r) : gflush (ys, r) = ys := if_neg h
theorem own_add (g m : Nat) : (⟨g, 0, none⟩ : Addr).add m = ⟨g, m, none⟩ := by
  unfold Addr.add
  by_cases hm : m = 0 <;> simp [hm]

set_option maxHeartbeats 4000000 in
set_option maxRecDepth 100000 in
theorem spec_GapsIn_any (A : Option Addr) (c : Nat) (l : List S53) (w : World) (hC : Kd.C k53 w A l.length l) :
    Calls Try.prog 16 #[.slice A l.length c] w (ResPost (codeOf l) (gaps l) w) := by
  have HC := Aside0.mk hC
  have HB := Aside0.mk (Below.refl w.heap.size w)
  clear hC
  by_cases c2 : 40 < l.length
  · have HIF := Aside0.mk c2
    have c2b1 : decide (40 < l.length) = true := decide_eq_true c2
    have c2b0 : decide (40 < (l.length : Int)) = true := decide_eq_true (by omega)
    clear c2
    go_enter Try.func16, Try.ntmps16
    go_wp2_with (first | ((with_reducible refine gate_dst (N := 2) rfl ?_); refine alloc_big rfl 26 rfl 2 zero26 ?_; intro g2 hg_ z2 w_ hz_ hk_ hb_; have n0_ := Aside0.mk (below_step HB.out hb_); have m0_ := Aside0.mk (hk_); have m1_ := Aside0.mk (hz_); have m2_ := Aside0.mk ((show w.heap.size ≤ g2 by rw [hg_]; exact HB.out.size)); clear HB; have HB := n0_; have BK_g2 := m0_; have ZS_g2 := m1_; have GE_g2 := m2_; clear n0_ m0_ m1_ m2_; clear hg_ hz_ hk_ hb_) | ((with_reducible refine gate_store (t := 26) (p := 2) rfl ?_); refine store_big rfl rfl 26 2 _ rfl g2 rfl [.int .i64 2, .slice none 0 0] rfl z2 26 BK_g2.out size26 ZS_g2.out (by intro u hu; simp at hu; rcases hu with rfl | rfl <;> rfl) ?_; intro w_ hk_ hp_; have n0_ := Aside0.mk (hp_.below HB.out GE_g2.out); have m0_ := Aside0.mk (hk_); clear HB; have HB := n0_; have KN := m0_; clear n0_ m0_; clear hk_ hp_ BK_g2; have BK_g2 := KN; clear KN))
    refine bodyPost_ret (results_cell_row rfl _ _ g2 26 _ (0, 0) _ rfl BK_g2.out Try.underlying26 rfl (by kernel_rfl)) rfl ?_
    unfold codeOf gaps
    rw [if_pos HIF.out, if_pos HIF.out]
    exact ⟨_, rfl, Kd.R_nil _ _ _ _ _, HB.out⟩
  · have HIF := Aside0.mk c2
    have c2b1 : decide (40 < l.length) = false := decide_eq_false c2
    have c2b0 : decide (40 < (l.length : Int)) = false := decide_eq_false (by omega)
    clear c2
    go_enter Try.func16, Try.ntmps16
    go_wp2_with (first | ((with_reducible refine gate_dst (N := 2) rfl ?_); refine alloc_big rfl 26 rfl 2 zero26 ?_; intro g2 hg_ z2 w_ hz_ hk_ hb_; have n0_ := Aside0.mk (below_step HB.out hb_); have m0_ := Aside0.mk (hk_); have m1_ := Aside0.mk (hz_); have m2_ := Aside0.mk ((show w.heap.size ≤ g2 by rw [hg_]; exact HB.out.size)); clear HB; have HB := n0_; have BK_g2 := m0_; have ZS_g2 := m1_; have GE_g2 := m2_; clear n0_ m0_ m1_ m2_; clear hg_ hz_ hk_ hb_) | ((with_reducible refine gate_dst (N := 10) rfl ?_); refine Kd.R_lit (Kd.int .i64) _ 2 ?hg (N := 10) ?hd (xs := ([] : List Int)) (inner := []) (ok := fun _ => True) (okp := fun _ => True) ?hr ?hp (fun _ hk => hk) trivial (Below.refl _ _) (Nat.le_refl _) (by simp) ?_; (case hd => rfl); (case hg => rfl); (case hr => first | (go_simp; done) | (go_simp; rfl)); (case hp => exact (Reps.none _ _)); intro v3 w_ ho_ hb_ hg_ hnew_; have n0_ := Aside0.mk (below_step HB.out hb_); have n1_ := Aside0.mk (blk_below BK_g2.out hb_); have m0_ := Aside0.mk (Kd.R_lower ho_ HB.out.size); clear HB BK_g2; have HB := n0_; have BK_g2 := n1_; have HO := m0_; clear n0_ n1_ m0_; clear ho_ hb_ hg_ hnew_))
    go_loopg [3, 4, 5] (l.length + 1) (fun gk v3 v4 v5 w' => ∃ (i : Nat) (ys : List Int) (r : Int), v4 = .int .i64 r ∧ v5 = .int .i64 (i : Int) ∧ Aside0 (i + gk = l.length + 1) ∧ Aside0 ((ys, r) = gst2 l i) ∧ Aside0 (Kd.R (Kd.int .i64) 2 w' w.heap.size (fun _ => True) v3 ys) ∧ Aside0 (w'.heap[g2]? = some (.cells z2 26 (0, 0))) ∧ Aside0 (Below w.heap.size w w'))
    case atStart => exact ⟨0, [], 0, rfl, rfl, ⟨by omega⟩, ⟨by simp [gst2, gst]⟩, HO, BK_g2, HB⟩
    case round =>
      clear HO BK_g2 HB
      obtain ⟨i, ys, r, rfl, rfl, HI, HY, HO, BK_g2, HB⟩ := hrel
      have HBD := Aside0.mk (by have h1 := gst2_len l i (by have := HI.out; omega); rw [← HY.out] at h1; exact h1 : ys.length ≤ l.length ∧ 0 ≤ r ∧ r ≤ l.length)
      have LY := Aside0.mk (show (ys.length + 1) * 8 ≤ 140737488355328 by have h1 := HIF.out; have h2 := HBD.out; omega)
      by_cases hlt : i < l.length
      · have c8b0 : decide (i < l.length) = true := decide_eq_true hlt
        have c8b1 : decide ((i : Int) < (l.length : Int)) = true := decide_eq_true (by omega)
        have c8b2 : (i : Int) < (l.length : Int) := by omega
        have HLT := Aside0.mk hlt
        have c9b0 : decide (i ≤ l.length) = true := decide_eq_true (by omega)
        have c9b1 : decide ((i : Int) ≤ (l.length : Int)) = true := decide_eq_true (by omega)
        obtain ⟨ad, cs, x, hA, hx, hl, hK, hc⟩ := elem53 HC.out i hlt
        subst hA
        have HX := Aside0.mk hx
        have HL := Aside0.mk hl
        have HK := Aside0.mk hK
        have HCC := Aside0.mk hc
        clear hx hl hK hc hlt
        by_cases hf : x.f3 = true
        · have HF := Aside0.mk hf
          have H13 := Aside0.mk (show cs[13]? = some (.bool true) by rw [← hf]; exact k53_13 HK.out)
          clear hf
          have hp13 : World.cell? _ ⟨(ad.add (i * 19)).block, (ad.add (i * 19)).off + 13, none⟩ = some (.bool true) := cell_add (HCC.out.below HB.out) 12 H13.out
          by_cases h5 : x.f5 = 0
          · have HZ5 := Aside0.mk h5
            have H15 := Aside0.mk (show cs[15]? = some (.int .i64 0) by rw [← h5]; exact k53_15 HK.out)
            clear h5
            have hp15 : World.cell? _ ⟨(ad.add (i * 19)).block, (ad.add (i * 19)).off + 15, none⟩ = some (.int .i64 0) := cell_add (HCC.out.below HB.out) 14 H15.out
            go_wp2
            go_roundg (l.length + 1 - (i + 1))
            case measure => have := HI.out; have := HLT.out; omega
            case rel => exact ⟨i + 1, ys, r + 1, by rw [show wrap64 (r + 1) = r + 1 from by have h1 := HBD.out; have h2 := HIF.out; unfold wrap64; omega], by rw [show wrap64 ((i : Int) + 1) = ((i + 1 : Nat) : Int) from by have h1 := HIF.out; have h2 := HLT.out; unfold wrap64; omega], ⟨by have := HLT.out; omega⟩, ⟨gst2_gap HX.out HY.out ⟨HF.out, HZ5.out⟩⟩, HO, BK_g2, HB⟩
          · have HZ5 := Aside0.mk h5
            have H15 := Aside0.mk (k53_15 HK.out)
            have c5b : (x.f5 == 0) = false := beq_eq_false_iff_ne.2 h5
            clear h5
            have hp15 : World.cell? _ ⟨(ad.add (i * 19)).block, (ad.add (i * 19)).off + 15, none⟩ = some (.int .i64 x.f5) := cell_add (HCC.out.below HB.out) 14 H15.out
            by_cases hrp : 0 < r
            · have HRP := Aside0.mk hrp
              have crb : decide (0 < r) = true := decide_eq_true hrp
              clear hrp
              go_wp2_with (first | ((with_reducible refine gate_builtin (b := .append) (xs := #[.tmp 40, .tmp 42]) rfl ?_); at_builtin; refine Kd.R_append (Kd.int .i64) (w0 := w) w.heap.size rfl (.tmp 40) (.tmp 42) 24 2 (.int .i64 0) 8 rfl Try.underlying24 info2 rfl (by decide) (by omega) u3 ys r [.int .i64 r] (fun _ => True) (fun _ => False) rfl (by first | (go_simp; done) | (go_simp; rfl)) rfl (fun _ hk => hk.elim) (fun _ _ => trivial) HO.out HB.out HB.out.size LY.out ?_; intro v7 w7 ho7 hb7 hg7 hat7; have n0_ := Aside0.mk ho7; have n1_ := Aside0.mk hb7; have n2_ := Aside0.mk (blk_grownN BK_g2.out hg7 (Kd.R_ne HO.out BK_g2.out (by decide))); clear ho7 hb7 hg7 hat7 HO HB BK_g2; have HO := n0_; have HB := n1_; have BK_g2 := n2_; clear n0_ n1_ n2_))
              go_roundg (l.length + 1 - (i + 1))
              case measure => have := HI.out; have := HLT.out; omega
              case rel => exact ⟨i + 1, ys ++ [r], 0, rfl, by rw [show wrap64 ((i : Int) + 1) = ((i + 1 : Nat) : Int) from by have h1 := HIF.out; have h2 := HLT.out; unfold wrap64; omega], ⟨by have := HLT.out; omega⟩, ⟨by rw [show (ys ++ [r], (0 : Int)) = (gflush (ys, r), 0) from by rw [flush_pos HRP.out]]; exact gst2_not HX.out HY.out (fun h => HZ5.out h.2)⟩, HO, BK_g2, HB⟩
            · have HRP := Aside0.mk hrp
              have crb : decide (0 < r) = false := decide_eq_false hrp
              clear hrp
              go_wp2
              go_roundg (l.length + 1 - (i + 1))
              case measure => have := HI.out; have := HLT.out; omega
              case rel => exact ⟨i + 1, ys, 0, rfl, by rw [show wrap64 ((i : Int) + 1) = ((i + 1 : Nat) : Int) from by have h1 := HIF.out; have h2 := HLT.out; unfold wrap64; omega], ⟨by have := HLT.out; omega⟩, ⟨by rw [show (ys, (0 : Int)) = (gflush (ys, r), 0) from by rw [flush_neg (by have := HRP.out; omega)]]; exact gst2_not HX.out HY.out (fun h => HZ5.out h.2)⟩, HO, BK_g2, HB⟩
        · have HF := Aside0.mk hf
          have H13 := Aside0.mk (show cs[13]? = some (.bool false) by rw [← (Bool.eq_false_iff.2 hf)]; exact k53_13 HK.out)
          clear hf
          have hp13 : World.cell? _ ⟨(ad.add (i * 19)).block, (ad.add (i * 19)).off + 13, none⟩ = some (.bool false) := cell_add (HCC.out.below HB.out) 12 H13.out
          by_cases hrp : 0 < r
          · have HRP := Aside0.mk hrp
            have crb : decide (0 < r) = true := decide_eq_true hrp
            clear hrp
            go_wp2_with (first | ((with_reducible refine gate_builtin (b := .append) (xs := #[.tmp 40, .tmp 42]) rfl ?_); at_builtin; refine Kd.R_append (Kd.int .i64) (w0 := w) w.heap.size rfl (.tmp 40) (.tmp 42) 24 2 (.int .i64 0) 8 rfl Try.underlying24 info2 rfl (by decide) (by omega) u3 ys r [.int .i64 r] (fun _ => True) (fun _ => False) rfl (by first | (go_simp; done) | (go_simp; rfl)) rfl (fun _ hk => hk.elim) (fun _ _ => trivial) HO.out HB.out HB.out.size LY.out ?_; intro v7 w7 ho7 hb7 hg7 hat7; have n0_ := Aside0.mk ho7; have n1_ := Aside0.mk hb7; have n2_ := Aside0.mk (blk_grownN BK_g2.out hg7 (Kd.R_ne HO.out BK_g2.out (by decide))); clear ho7 hb7 hg7 hat7 HO HB BK_g2; have HO := n0_; have HB := n1_; have BK_g2 := n2_; clear n0_ n1_ n2_))
            go_roundg (l.length + 1 - (i + 1))
            case measure => have := HI.out; have := HLT.out; omega
            case rel => exact ⟨i + 1, ys ++ [r], 0, rfl, by rw [show wrap64 ((i : Int) + 1) = ((i + 1 : Nat) : Int) from by have h1 := HIF.out; have h2 := HLT.out; unfold wrap64; omega], ⟨by have := HLT.out; omega⟩, ⟨by rw [show (ys ++ [r], (0 : Int)) = (gflush (ys, r), 0) from by rw [flush_pos HRP.out]]; exact gst2_not HX.out HY.out (fun h => HF.out h.1)⟩, HO, BK_g2, HB⟩
          · have HRP := Aside0.mk hrp
            have crb : decide (0 < r) = false := decide_eq_false hrp
            clear hrp
            go_wp2
            go_roundg (l.length + 1 - (i + 1))
            case measure => have := HI.out; have := HLT.out; omega
            case rel => exact ⟨i + 1, ys, 0, rfl, by rw [show wrap64 ((i : Int) + 1) = ((i + 1 : Nat) : Int) from by have h1 := HIF.out; have h2 := HLT.out; unfold wrap64; omega], ⟨by have := HLT.out; omega⟩, ⟨by rw [show (ys, (0 : Int)) = (gflush (ys, r), 0) from by rw [flush_neg (by have := HRP.out; omega)]]; exact gst2_not HX.out HY.out (fun h => HF.out h.1)⟩, HO, BK_g2, HB⟩
      · by_cases hle : i = l.length
        · have HLE := Aside0.mk hle
          have c8b0 : decide (i < l.length) = false := decide_eq_false hlt
          have c8b1 : decide ((i : Int) < (l.length : Int)) = false := decide_eq_false (by omega)
          have c9b0 : decide (i ≤ l.length) = true := decide_eq_true (by omega)
          have c9b1 : decide ((i : Int) ≤ (l.length : Int)) = true := decide_eq_true (by omega)
          clear hlt hle
          by_cases hrp : 0 < r
          · have HRP := Aside0.mk hrp
            have crb : decide (0 < r) = true := decide_eq_true hrp
            clear hrp
            go_wp2_with (first | ((with_reducible refine gate_builtin (b := .append) (xs := #[.tmp 40, .tmp 42]) rfl ?_); at_builtin; refine Kd.R_append (Kd.int .i64) (w0 := w) w.heap.size rfl (.tmp 40) (.tmp 42) 24 2 (.int .i64 0) 8 rfl Try.underlying24 info2 rfl (by decide) (by omega) u3 ys r [.int .i64 r] (fun _ => True) (fun _ => False) rfl (by first | (go_simp; done) | (go_simp; rfl)) rfl (fun _ hk => hk.elim) (fun _ _ => trivial) HO.out HB.out HB.out.size LY.out ?_; intro v7 w7 ho7 hb7 hg7 hat7; have n0_ := Aside0.mk ho7; have n1_ := Aside0.mk hb7; have n2_ := Aside0.mk (blk_grownN BK_g2.out hg7 (Kd.R_ne HO.out BK_g2.out (by decide))); clear ho7 hb7 hg7 hat7 HO HB BK_g2; have HO := n0_; have HB := n1_; have BK_g2 := n2_; clear n0_ n1_ n2_))
            go_roundg (l.length + 1 - (i + 1))
            case measure => have := HI.out; have := HLE.out; omega
            case rel => exact ⟨i + 1, ys ++ [r], 0, rfl, by rw [show wrap64 ((i : Int) + 1) = ((i + 1 : Nat) : Int) from by have h1 := HIF.out; have h2 := HLE.out; unfold wrap64; omega], ⟨by have := HLE.out; omega⟩, ⟨by rw [show (ys ++ [r], (0 : Int)) = (gflush (ys, r), 0) from by rw [flush_pos HRP.out]]; rw [HLE.out]; exact gst2_end (by rw [← HLE.out]; exact HY.out)⟩, HO, BK_g2, HB⟩
          · have HRP := Aside0.mk hrp
            have crb : decide (0 < r) = false := decide_eq_false hrp
            clear hrp
            go_wp2
            go_roundg (l.length + 1 - (i + 1))
            case measure => have := HI.out; have := HLE.out; omega
            case rel => exact ⟨i + 1, ys, 0, rfl, by rw [show wrap64 ((i : Int) + 1) = ((i + 1 : Nat) : Int) from by have h1 := HIF.out; have h2 := HLE.out; unfold wrap64; omega], ⟨by have := HLE.out; omega⟩, ⟨by rw [show (ys, (0 : Int)) = (gflush (ys, r), 0) from by rw [flush_neg (by have := HRP.out; omega)]]; rw [HLE.out]; exact gst2_end (by rw [← HLE.out]; exact HY.out)⟩, HO, BK_g2, HB⟩
        · have c9b0 : decide (i ≤ l.length) = false := decide_eq_false (by omega)
          have c9b1 : decide ((i : Int) ≤ (l.length : Int)) = false := decide_eq_false (by omega)
          have HLE := Aside0.mk (show i = l.length + 1 by have := HI.out; omega)
          clear hlt hle
          obtain ⟨Ao, co, eo⟩ := Kd.R_slice HO.out
          subst eo
          go_wp2_with (first | ((with_reducible refine gate_store (t := 26) (p := 2) rfl ?_); refine store_big rfl rfl 26 2 _ rfl g2 rfl [.int .i64 0, .slice Ao ys.length co] rfl z2 26 BK_g2.out size26 ZS_g2.out (by intro u hu; simp at hu; rcases hu with rfl | rfl <;> rfl) ?_; intro w_ hk_ hp_; have n0_ := Aside0.mk (hp_.below HB.out GE_g2.out); have n1_ := Aside0.mk (hp_.R_types HO.out BK_g2.out (by first | decide | exact n26)); have m0_ := Aside0.mk (hk_); clear HB HO; have HB := n0_; have HO := n1_; have KN := m0_; clear n0_ n1_ m0_; clear hk_ hp_ BK_g2; have BK_g2 := KN; clear KN))
          refine bodyPost_ret (results_cell_row rfl _ _ g2 26 _ (0, 0) _ rfl BK_g2.out Try.underlying26 rfl (by kernel_rfl)) rfl ?_
          unfold codeOf gaps
          rw [if_neg HIF.out, if_neg HIF.out]
          refine ⟨_, rfl, ?_, HB.out⟩
          rw [← show ys = gflush (gst l l.length) from gst2_gaps (r := r) (by rw [← HLE.out]; exact HY.out) HIF.out]
          exact HO.out

theorem elemLast {w : World} {g : Nat} {zs ys : List Int} {r : Int} (h : (Kd.int .i64).C w (some ⟨g, 0, none⟩) ys.length ys) (he : ys = zs ++ [r]) : w.cell? ⟨g, zs.length, none⟩ = some (.int .i64 r) := by
  obtain ⟨ad, x, hA, hx, hc⟩ := elemI h zs.length (by rw [he]; simp)
  injection hA with hA
  subst hA
  rw [he, List.getElem?_concat_length] at hx
  injection hx with hx
  subst hx
  rw [own_add] at hc
  exact hc
theorem set_last {zs ys : List Int} {r : Int} {m : Nat} (he : ys = zs ++ [r]) (hm : m = zs.length) (h0 : 0 < r) (h1 : r ≤ 40) : ys.set m (wrap64 (r + 1)) = gflush (zs, r + 1) := by
  subst hm he
  rw [show wrap64 (r + 1) = r + 1 from by unfold wrap64; omega, flush_pos (by omega)]
  simp

set_option maxHeartbeats 4000000 in
set_option maxRecDepth 100000 in
theorem impl_GapsIn_any (A : Option Addr) (c : Nat) (l : List S53) (w : World) (hC : Kd.C k53 w A l.length l) :
    Calls Try.prog 17 #[.slice A l.length c] w (ResPost (codeOf l) (gaps l) w) := by
  have HC := Aside0.mk hC
  have HB := Aside0.mk (Below.refl w.heap.size w)
  clear hC
  by_cases c2 : 40 < l.length
  · have HIF := Aside0.mk c2
    have c2b1 : decide (40 < l.length) = true := decide_eq_true c2
    have c2b0 : decide (40 < (l.length : Int)) = true := decide_eq_true (by omega)
    clear c2
    go_enter Try.func17, Try.ntmps17
    go_wp2_with (first | ((with_reducible refine gate_dst (N := 2) rfl ?_); refine alloc_big rfl 26 rfl 2 zero26 ?_; intro g2 hg_ z2 w_ hz_ hk_ hb_; have n0_ := Aside0.mk (below_step HB.out hb_); have m0_ := Aside0.mk (hk_); have m1_ := Aside0.mk (hz_); have m2_ := Aside0.mk ((show w.heap.size ≤ g2 by rw [hg_]; exact HB.out.size)); clear HB; have HB := n0_; have BK_g2 := m0_; have ZS_g2 := m1_; have GE_g2 := m2_; clear n0_ m0_ m1_ m2_; clear hg_ hz_ hk_ hb_) | ((with_reducible refine gate_store (t := 26) (p := 2) rfl ?_); refine store_big rfl rfl 26 2 _ rfl g2 rfl [.int .i64 2, .slice none 0 0] rfl z2 26 BK_g2.out size26 ZS_g2.out (by intro u hu; simp at hu; rcases hu with rfl | rfl <;> rfl) ?_; intro w_ hk_ hp_; have n0_ := Aside0.mk (hp_.below HB.out GE_g2.out); have m0_ := Aside0.mk (hk_); clear HB; have HB := n0_; have KN := m0_; clear n0_ m0_; clear hk_ hp_ BK_g2; have BK_g2 := KN; clear KN))
    refine bodyPost_ret (results_cell_row rfl _ _ g2 26 _ (0, 0) _ rfl BK_g2.out Try.underlying26 rfl (by kernel_rfl)) rfl ?_
    unfold codeOf gaps
    rw [if_pos HIF.out, if_pos HIF.out]
    exact ⟨_, rfl, Kd.R_nil _ _ _ _ _, HB.out⟩
  · have HIF := Aside0.mk c2
    have c2b1 : decide (40 < l.length) = false := decide_eq_false c2
    have c2b0 : decide (40 < (l.length : Int)) = false := decide_eq_false (by omega)
    clear c2
    go_enter Try.func17, Try.ntmps17
    go_wp2_with (first | ((with_reducible refine gate_dst (N := 2) rfl ?_); refine alloc_big rfl 26 rfl 2 zero26 ?_; intro g2 hg_ z2 w_ hz_ hk_ hb_; have n0_ := Aside0.mk (below_step HB.out hb_); have m0_ := Aside0.mk (hk_); have m1_ := Aside0.mk (hz_); have m2_ := Aside0.mk ((show w.heap.size ≤ g2 by rw [hg_]; exact HB.out.size)); clear HB; have HB := n0_; have BK_g2 := m0_; have ZS_g2 := m1_; have GE_g2 := m2_; clear n0_ m0_ m1_ m2_; clear hg_ hz_ hk_ hb_) | ((with_reducible refine gate_dst (N := 12) rfl ?_); refine Kd.R_lit (Kd.int .i64) _ 2 ?hg (N := 12) ?hd (xs := ([] : List Int)) (inner := []) (ok := fun _ => True) (okp := fun _ => True) ?hr ?hp (fun _ hk => hk) trivial (Below.refl _ _) (Nat.le_refl _) (by simp) ?_; (case hd => rfl); (case hg => rfl); (case hr => first | (go_simp; done) | (go_simp; rfl)); (case hp => exact (Reps.none _ _)); intro v3 w_ ho_ hb_ hg_ hnew_; have n0_ := Aside0.mk (below_step HB.out hb_); have n1_ := Aside0.mk (blk_below BK_g2.out hb_); have m0_ := Aside0.mk (Kd.R_lower ho_ HB.out.size); clear HB BK_g2; have HB := n0_; have BK_g2 := n1_; have HO := m0_; clear n0_ n1_ m0_; clear ho_ hb_ hg_ hnew_))
    go_loopg [3, 4, 15] l.length (fun gk v3 v4 v15 w' => ∃ (i : Nat) (ys : List Int) (b : Bool), v4 = .bool b ∧ v15 = .int .i64 (i : Int) ∧ Aside0 (i + gk = l.length) ∧ Aside0 (ys = gflush (gst l i)) ∧ Aside0 (b = decide (0 < (gst l i).2)) ∧ Aside0 (Kd.R (Kd.int .i64) 2 w' w.heap.size (fun _ => True) v3 ys) ∧ Aside0 (w'.heap[g2]? = some (.cells z2 26 (0, 0))) ∧ Aside0 (Below w.heap.size w w'))
    case atStart => exact ⟨0, [], false, rfl, rfl, ⟨by omega⟩, ⟨rfl⟩, ⟨rfl⟩, HO, BK_g2, HB⟩
    case round =>
      clear HO BK_g2 HB
      obtain ⟨i, ys, b, rfl, rfl, HI, HY, HBB, HO, BK_g2, HB⟩ := hrel
      have HBD := Aside0.mk (gst_bnd l i (by have := HI.out; omega))
      have LY := Aside0.mk (show (ys.length + 1) * 8 ≤ 140737488355328 by have h1 := HIF.out; have h2 := HBD.out; have h3 := HI.out; rw [HY.out]; omega)
      by_cases hlt : i < l.length
      · have c8b0 : decide (i < l.length) = true := decide_eq_true hlt
        have c8b1 : decide ((i : Int) < (l.length : Int)) = true := decide_eq_true (by omega)
        have c8b2 : (i : Int) < (l.length : Int) := by omega
        have HLT := Aside0.mk hlt
        obtain ⟨ad, cs, x, hA, hx, hl, hK, hc⟩ := elem53 HC.out i hlt
        subst hA
        have HX := Aside0.mk hx
        have HL := Aside0.mk hl
        have HK := Aside0.mk hK
        have HCC := Aside0.mk hc
        clear hx hl hK hc hlt
        by_cases hf : x.f3 = true
        · have HF := Aside0.mk hf
          have H13 := Aside0.mk (show cs[13]? = some (.bool true) by rw [← hf]; exact k53_13 HK.out)
          clear hf
          by_cases h5 : x.f5 = 0
          · have HZ5 := Aside0.mk h5
            have H15 := Aside0.mk (show cs[15]? = some (.int .i64 0) by rw [← h5]; exact k53_15 HK.out)
            clear h5
            by_cases hrun : 0 < (gst l i).2
            · have HRB := Aside0.mk (show 0 < (gst l i).2 ∧ (gst l i).2 ≤ 40 by have h1 := HBD.out; have h2 := HIF.out; have h3 := HI.out; omega)
              obtain rfl : b = true := by rw [HBB.out]; exact decide_eq_true hrun
              obtain ⟨zs, hzs⟩ : ∃ zs, (gst l i).1 = zs := ⟨_, rfl⟩
              obtain ⟨r, hr⟩ : ∃ r, (gst l i).2 = r := ⟨_, rfl⟩
              obtain ⟨m, hm⟩ : ∃ m, m = zs.length := ⟨_, rfl⟩
              have hy : ys = zs ++ [r] := by rw [HY.out, ← hzs, ← hr]; exact if_pos hrun
              have HYZ := Aside0.mk hy
              have HML := Aside0.mk (show m < ys.length by rw [hy, hm]; simp)
              have hw1 : wrap64 ((ys.length : Int) - 1) = (m : Int) := by
                have h1 := LY.out
                have h2 : ys.length = m + 1 := by rw [hy, hm]; simp
                unfold wrap64
                omega
              have hm2 : (m : Int) < (ys.length : Int) := by have := HML.out; omega
              obtain ⟨g, cap, ev, _, _, _⟩ := Kd.R_form HO.out (by have := HML.out; omega)
              subst ev
              have HM := Aside0.mk hm
              have HST := Aside0.mk (show gst l i = (zs, r) from by rw [← hzs, ← hr])
              clear hy hzs hr hrun hm
              go_wp2_with (first | ((with_reducible refine gate_dst (N := 18) rfl ?_); refine load_big rfl 53 _ rfl (ad.add (i * 19)) rfl _ Try.underlying53 19 size53 cs HL.out (HCC.out.below HB.out) ?_) | ((with_reducible refine gate_dst (N := 6) rfl ?_); refine alloc_big rfl 53 rfl 19 zero53 ?_; intro g5 hg_ z5 w_ hz_ hk_ hb_; have n0_ := Aside0.mk (below_step HB.out hb_); have n1_ := Aside0.mk (Kd.R_below HO.out hb_); have n2_ := Aside0.mk (blk_below BK_g2.out hb_); have m0_ := Aside0.mk (hk_); have m1_ := Aside0.mk (hz_); have m2_ := Aside0.mk ((show w.heap.size ≤ g5 by rw [hg_]; exact HB.out.size)); have m3_ := Aside0.mk ((show g2 ≠ g5 by rw [hg_]; exact Nat.ne_of_lt (blk_lt BK_g2.out))); have m4_ := Aside0.mk ((show g5 ≠ g2 by rw [hg_]; exact Nat.ne_of_gt (blk_lt BK_g2.out))); clear HB HO BK_g2; have HB := n0_; have HO := n1_; have BK_g2 := n2_; have BK_g5 := m0_; have ZS_g5 := m1_; have GE_g5 := m2_; have NE_g2_g5 := m3_; have NE_g5_g2 := m4_; clear n0_ n1_ n2_ m0_ m1_ m2_ m3_ m4_; clear hg_ hz_ hk_ hb_) | ((with_reducible refine gate_store (t := 53) (p := 6) rfl ?_); refine store_big rfl rfl 53 6 _ rfl g5 rfl cs rfl z5 53 BK_g5.out (by rw [HL.out]; exact size53) (by rw [HL.out]; exact ZS_g5.out) (fun u hu => k53.K_one HK.out u hu) ?_; intro w_ hk_ hp_; have n0_ := Aside0.mk (hp_.below HB.out GE_g5.out); have n1_ := Aside0.mk (hp_.R_types HO.out BK_g5.out (by first | decide | exact n26)); have n2_ := Aside0.mk (hp_.blk BK_g2.out NE_g2_g5.out); have m0_ := Aside0.mk (hk_); clear HB HO BK_g2; have HB := n0_; have HO := n1_; have BK_g2 := n2_; have KN := m0_; clear n0_ n1_ n2_ m0_; have hc13 : w_.cell? ⟨g5, 13, none⟩ = some (.bool true) := blk_one hk_ H13.out; have hc15 : w_.cell? ⟨g5, 15, none⟩ = some (.int .i64 0) := blk_one hk_ H15.out; clear hk_ hp_ BK_g5; have BK_g5 := KN; clear KN) | ((with_reducible refine gate_dst (N := 35) rfl ?_); simp only [hw1]) | ((with_reducible refine gate_dst (N := 36) rfl ?_); refine load_one rfl 2 _ rfl ⟨g, _, none⟩ rfl (ag2 _) (.int .i64 r) (by have h9 := elemLast (Kd.R_reads' HO.out).2.2 HYZ.out; rw [← HM.out] at h9; first | exact h9 | (simp only [Nat.zero_add]; exact h9)) ?_) | ((with_reducible refine gate_store (t := 2) (p := 38) rfl ?_); refine store_elem (Kd.int .i64) (w0 := w) w.heap.size rfl rfl 2 _ _ rfl 2 m ys 0 (wrap64 (r + 1)) _ [.int .i64 (wrap64 (r + 1))] rfl (by simp [Kd.int, Kd.scalar]) rfl (by rfl) size2 HO.out HML.out rfl (by decide) HB.out ?_; intro w8 ho8 hb8 hg8; have n0_ := Aside0.mk ho8; have n1_ := Aside0.mk hb8; have n2_ := Aside0.mk (blk_grownN BK_g2.out hg8 (Kd.R_ne HO.out BK_g2.out (by decide))); clear ho8 hb8 hg8 HO HB BK_g2; have HO := n0_; have HB := n1_; have BK_g2 := n2_; clear n0_ n1_ n2_))
              go_roundg (l.length - (i + 1))
              case measure => have := HI.out; have := HLT.out; omega
              case rel => exact ⟨i + 1, _, true, rfl, by rw [show wrap64 ((i : Int) + 1) = ((i + 1 : Nat) : Int) from by have h1 := HIF.out; have h2 := HLT.out; unfold wrap64; omega], ⟨by have := HLT.out; omega⟩, ⟨by rw [gst_succ HX.out]; unfold gstep; rw [if_pos ⟨HF.out, HZ5.out⟩]; rw [HST.out]; have h1 := HRB.out; rw [HST.out] at h1; exact set_last HYZ.out HM.out h1.1 h1.2⟩, ⟨by rw [gst_succ HX.out]; unfold gstep; rw [if_pos ⟨HF.out, HZ5.out⟩]; exact (decide_eq_true (by have := HRB.out; simp only; omega)).symm⟩, HO, BK_g2, HB⟩
            · obtain rfl : b = false := by rw [HBB.out]; exact decide_eq_false hrun
              have HNP := Aside0.mk (show (gst l i).2 = 0 by have := HBD.out; omega)
              clear hrun
              go_wp2_with (first | ((with_reducible refine gate_dst (N := 18) rfl ?_); refine load_big rfl 53 _ rfl (ad.add (i * 19)) rfl _ Try.underlying53 19 size53 cs HL.out (HCC.out.below HB.out) ?_) | ((with_reducible refine gate_dst (N := 6) rfl ?_); refine alloc_big rfl 53 rfl 19 zero53 ?_; intro g5 hg_ z5 w_ hz_ hk_ hb_; have n0_ := Aside0.mk (below_step HB.out hb_); have n1_ := Aside0.mk (Kd.R_below HO.out hb_); have n2_ := Aside0.mk (blk_below BK_g2.out hb_); have m0_ := Aside0.mk (hk_); have m1_ := Aside0.mk (hz_); have m2_ := Aside0.mk ((show w.heap.size ≤ g5 by rw [hg_]; exact HB.out.size)); have m3_ := Aside0.mk ((show g2 ≠ g5 by rw [hg_]; exact Nat.ne_of_lt (blk_lt BK_g2.out))); have m4_ := Aside0.mk ((show g5 ≠ g2 by rw [hg_]; exact Nat.ne_of_gt (blk_lt BK_g2.out))); clear HB HO BK_g2; have HB := n0_; have HO := n1_; have BK_g2 := n2_; have BK_g5 := m0_; have ZS_g5 := m1_; have GE_g5 := m2_; have NE_g2_g5 := m3_; have NE_g5_g2 := m4_; clear n0_ n1_ n2_ m0_ m1_ m2_ m3_ m4_; clear hg_ hz_ hk_ hb_) | ((with_reducible refine gate_store (t := 53) (p := 6) rfl ?_); refine store_big rfl rfl 53 6 _ rfl g5 rfl cs rfl z5 53 BK_g5.out (by rw [HL.out]; exact size53) (by rw [HL.out]; exact ZS_g5.out) (fun u hu => k53.K_one HK.out u hu) ?_; intro w_ hk_ hp_; have n0_ := Aside0.mk (hp_.below HB.out GE_g5.out); have n1_ := Aside0.mk (hp_.R_types HO.out BK_g5.out (by first | decide | exact n26)); have n2_ := Aside0.mk (hp_.blk BK_g2.out NE_g2_g5.out); have m0_ := Aside0.mk (hk_); clear HB HO BK_g2; have HB := n0_; have HO := n1_; have BK_g2 := n2_; have KN := m0_; clear n0_ n1_ n2_ m0_; have hc13 : w_.cell? ⟨g5, 13, none⟩ = some (.bool true) := blk_one hk_ H13.out; have hc15 : w_.cell? ⟨g5, 15, none⟩ = some (.int .i64 0) := blk_one hk_ H15.out; clear hk_ hp_ BK_g5; have BK_g5 := KN; clear KN) | ((with_reducible refine gate_builtin (b := .append) (xs := #[.tmp 41, .tmp 42]) rfl ?_); at_builtin; refine Kd.R_append (Kd.int .i64) (w0 := w) w.heap.size rfl (.tmp 41) (.tmp 42) 24 2 (.int .i64 0) 8 rfl Try.underlying24 info2 rfl (by decide) (by omega) u3 ys 1 [.int .i64 1] (fun _ => True) (fun _ => False) rfl (by first | (go_simp; done) | (go_simp; rfl)) rfl (fun _ hk => hk.elim) (fun _ _ => trivial) HO.out HB.out HB.out.size LY.out ?_; intro v7 w7 ho7 hb7 hg7 hat7; have n0_ := Aside0.mk ho7; have n1_ := Aside0.mk hb7; have n2_ := Aside0.mk (blk_grownN BK_g2.out hg7 (Kd.R_ne HO.out BK_g2.out (by decide))); clear ho7 hb7 hg7 hat7 HO HB BK_g2; have HO := n0_; have HB := n1_; have BK_g2 := n2_; clear n0_ n1_ n2_))
              go_roundg (l.length - (i + 1))
              case measure => have := HI.out; have := HLT.out; omega
              case rel => exact ⟨i + 1, ys ++ [1], true, rfl, by rw [show wrap64 ((i : Int) + 1) = ((i + 1 : Nat) : Int) from by have h1 := HIF.out; have h2 := HLT.out; unfold wrap64; omega], ⟨by have := HLT.out; omega⟩, ⟨by rw [gst_succ HX.out]; unfold gstep; rw [if_pos ⟨HF.out, HZ5.out⟩]; have h1 := HY.out; have h2 := HNP.out; rw [h1, show gflush (gst l i) = (gst l i).1 from if_neg (by omega)]; rw [h2]; exact (if_pos (by simp)).symm⟩, ⟨by rw [gst_succ HX.out]; unfold gstep; rw [if_pos ⟨HF.out, HZ5.out⟩]; have h2 := HNP.out; rw [h2]; rfl⟩, HO, BK_g2, HB⟩
          · have HZ5 := Aside0.mk h5
            have H15 := Aside0.mk (k53_15 HK.out)
            have c5b : (x.f5 == 0) = false := beq_eq_false_iff_ne.2 h5
            clear h5
            go_wp2_with (first | ((with_reducible refine gate_dst (N := 18) rfl ?_); refine load_big rfl 53 _ rfl (ad.add (i * 19)) rfl _ Try.underlying53 19 size53 cs HL.out (HCC.out.below HB.out) ?_) | ((with_reducible refine gate_dst (N := 6) rfl ?_); refine alloc_big rfl 53 rfl 19 zero53 ?_; intro g5 hg_ z5 w_ hz_ hk_ hb_; have n0_ := Aside0.mk (below_step HB.out hb_); have n1_ := Aside0.mk (Kd.R_below HO.out hb_); have n2_ := Aside0.mk (blk_below BK_g2.out hb_); have m0_ := Aside0.mk (hk_); have m1_ := Aside0.mk (hz_); have m2_ := Aside0.mk ((show w.heap.size ≤ g5 by rw [hg_]; exact HB.out.size)); have m3_ := Aside0.mk ((show g2 ≠ g5 by rw [hg_]; exact Nat.ne_of_lt (blk_lt BK_g2.out))); have m4_ := Aside0.mk ((show g5 ≠ g2 by rw [hg_]; exact Nat.ne_of_gt (blk_lt BK_g2.out))); clear HB HO BK_g2; have HB := n0_; have HO := n1_; have BK_g2 := n2_; have BK_g5 := m0_; have ZS_g5 := m1_; have GE_g5 := m2_; have NE_g2_g5 := m3_; have NE_g5_g2 := m4_; clear n0_ n1_ n2_ m0_ m1_ m2_ m3_ m4_; clear hg_ hz_ hk_ hb_) | ((with_reducible refine gate_store (t := 53) (p := 6) rfl ?_); refine store_big rfl rfl 53 6 _ rfl g5 rfl cs rfl z5 53 BK_g5.out (by rw [HL.out]; exact size53) (by rw [HL.out]; exact ZS_g5.out) (fun u hu => k53.K_one HK.out u hu) ?_; intro w_ hk_ hp_; have n0_ := Aside0.mk (hp_.below HB.out GE_g5.out); have n1_ := Aside0.mk (hp_.R_types HO.out BK_g5.out (by first | decide | exact n26)); have n2_ := Aside0.mk (hp_.blk BK_g2.out NE_g2_g5.out); have m0_ := Aside0.mk (hk_); clear HB HO BK_g2; have HB := n0_; have HO := n1_; have BK_g2 := n2_; have KN := m0_; clear n0_ n1_ n2_ m0_; have hc13 : w_.cell? ⟨g5, 13, none⟩ = some (.bool true) := blk_one hk_ H13.out; have hc15 : w_.cell? ⟨g5, 15, none⟩ = some (.int .i64 x.f5) := blk_one hk_ H15.out; clear hk_ hp_ BK_g5; have BK_g5 := KN; clear KN))
            go_roundg (l.length - (i + 1))
            case measure => have := HI.out; have := HLT.out; omega
            case rel => exact ⟨i + 1, ys, false, rfl, by rw [show wrap64 ((i : Int) + 1) = ((i + 1 : Nat) : Int) from by have h1 := HIF.out; have h2 := HLT.out; unfold wrap64; omega], ⟨by have := HLT.out; omega⟩, ⟨by rw [gst_succ HX.out]; unfold gstep; rw [if_neg (fun h => HZ5.out h.2)]; rw [HY.out]; exact (if_neg (by simp)).symm⟩, ⟨by rw [gst_succ HX.out]; unfold gstep; rw [if_neg (fun h => HZ5.out h.2)]; rfl⟩, HO, BK_g2, HB⟩
        · have HF := Aside0.mk hf
          have H13 := Aside0.mk (show cs[13]? = some (.bool false) by rw [← (Bool.eq_false_iff.2 hf)]; exact k53_13 HK.out)
          have H15 := Aside0.mk (k53_15 HK.out)
          clear hf
          go_wp2_with (first | ((with_reducible refine gate_dst (N := 18) rfl ?_); refine load_big rfl 53 _ rfl (ad.add (i * 19)) rfl _ Try.underlying53 19 size53 cs HL.out (HCC.out.below HB.out) ?_) | ((with_reducible refine gate_dst (N := 6) rfl ?_); refine alloc_big rfl 53 rfl 19 zero53 ?_; intro g5 hg_ z5 w_ hz_ hk_ hb_; have n0_ := Aside0.mk (below_step HB.out hb_); have n1_ := Aside0.mk (Kd.R_below HO.out hb_); have n2_ := Aside0.mk (blk_below BK_g2.out hb_); have m0_ := Aside0.mk (hk_); have m1_ := Aside0.mk (hz_); have m2_ := Aside0.mk ((show w.heap.size ≤ g5 by rw [hg_]; exact HB.out.size)); have m3_ := Aside0.mk ((show g2 ≠ g5 by rw [hg_]; exact Nat.ne_of_lt (blk_lt BK_g2.out))); have m4_ := Aside0.mk ((show g5 ≠ g2 by rw [hg_]; exact Nat.ne_of_gt (blk_lt BK_g2.out))); clear HB HO BK_g2; have HB := n0_; have HO := n1_; have BK_g2 := n2_; have BK_g5 := m0_; have ZS_g5 := m1_; have GE_g5 := m2_; have NE_g2_g5 := m3_; have NE_g5_g2 := m4_; clear n0_ n1_ n2_ m0_ m1_ m2_ m3_ m4_; clear hg_ hz_ hk_ hb_) | ((with_reducible refine gate_store (t := 53) (p := 6) rfl ?_); refine store_big rfl rfl 53 6 _ rfl g5 rfl cs rfl z5 53 BK_g5.out (by rw [HL.out]; exact size53) (by rw [HL.out]; exact ZS_g5.out) (fun u hu => k53.K_one HK.out u hu) ?_; intro w_ hk_ hp_; have n0_ := Aside0.mk (hp_.below HB.out GE_g5.out); have n1_ := Aside0.mk (hp_.R_types HO.out BK_g5.out (by first | decide | exact n26)); have n2_ := Aside0.mk (hp_.blk BK_g2.out NE_g2_g5.out); have m0_ := Aside0.mk (hk_); clear HB HO BK_g2; have HB := n0_; have HO := n1_; have BK_g2 := n2_; have KN := m0_; clear n0_ n1_ n2_ m0_; have hc13 : w_.cell? ⟨g5, 13, none⟩ = some (.bool false) := blk_one hk_ H13.out; have hc15 : w_.cell? ⟨g5, 15, none⟩ = some (.int .i64 x.f5) := blk_one hk_ H15.out; clear hk_ hp_ BK_g5; have BK_g5 := KN; clear KN))
          go_roundg (l.length - (i + 1))
          case measure => have := HI.out; have := HLT.out; omega
          case rel => exact ⟨i + 1, ys, false, rfl, by rw [show wrap64 ((i : Int) + 1) = ((i + 1 : Nat) : Int) from by have h1 := HIF.out; have h2 := HLT.out; unfold wrap64; omega], ⟨by have := HLT.out; omega⟩, ⟨by rw [gst_succ HX.out]; unfold gstep; rw [if_neg (fun h => HF.out h.1)]; rw [HY.out]; exact (if_neg (by simp)).symm⟩, ⟨by rw [gst_succ HX.out]; unfold gstep; rw [if_neg (fun h => HF.out h.1)]; rfl⟩, HO, BK_g2, HB⟩
      · have c8b0 : decide (i < l.length) = false := decide_eq_false hlt
        have c8b1 : decide ((i : Int) < (l.length : Int)) = false := decide_eq_false (by omega)
        have HLE := Aside0.mk (show i = l.length by have := HI.out; omega)
        clear hlt
        obtain ⟨Ao, co, eo⟩ := Kd.R_slice HO.out
        subst eo
        go_wp2_with (first | ((with_reducible refine gate_store (t := 26) (p := 2) rfl ?_); refine store_big rfl rfl 26 2 _ rfl g2 rfl [.int .i64 0, .slice Ao ys.length co] rfl z2 26 BK_g2.out size26 ZS_g2.out (by intro u hu; simp at hu; rcases hu with rfl | rfl <;> rfl) ?_; intro w_ hk_ hp_; have n0_ := Aside0.mk (hp_.below HB.out GE_g2.out); have n1_ := Aside0.mk (hp_.R_types HO.out BK_g2.out (by first | decide | exact n26)); have m0_ := Aside0.mk (hk_); clear HB HO; have HB := n0_; have HO := n1_; have KN := m0_; clear n0_ n1_ m0_; clear hk_ hp_ BK_g2; have BK_g2 := KN; clear KN))
        refine bodyPost_ret (results_cell_row rfl _ _ g2 26 _ (0, 0) _ rfl BK_g2.out Try.underlying26 rfl (by kernel_rfl)) rfl ?_
        unfold codeOf gaps
        rw [if_neg HIF.out, if_neg HIF.out]
        refine ⟨_, rfl, ?_, HB.out⟩
        rw [← show ys = gflush (gst l l.length) from by rw [HY.out, HLE.out]]
        exact HO.out

end Go.Proofs.Yteahhohlnoifaaa.QZ
