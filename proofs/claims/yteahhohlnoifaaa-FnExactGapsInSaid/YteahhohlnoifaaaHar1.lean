/- What the laws' functions that count how much an argument holds return: -1, or what is left of the allowance; the allowance lies from 0 to 2^40. -/
import Derived.Test.YteahhohlnoifaaaQZx0
import Derived.Test.YteahhohlnoifaaaBig
namespace Go.Proofs.Yteahhohlnoifaaa.QZ
open Go.RowKit Go.Proofs.YteahhohlnoifaaaW.PrintWords Go.Proofs.YteahhohlnoifaaaW.PrintLast Go.Proofs.YteahhohlnoifaaaW.PrintMore Go.Proofs.Yteahhohlnoifaaa.Big
set_option linter.unusedVariables false
set_option linter.unusedSimpArgs false

theorem k49_parts {w : World} {x : S49} {cs : List Value} (h : k49.K w x cs) : ∃ c0 c1 A2 n2 A6 n6 A7 n7 A8 n8, cs = c0 ++ (c1 ++ [.slice A2 x.f2.length n2, .bool x.f3, .int .i64 x.f4, .int .i64 x.f5, .slice A6 x.f6.length n6, .slice A7 x.f7.length n7, .slice A8 x.f8.length n8]) ∧ c0.length = 4 ∧ c1.length = 8 ∧ k45.K w x.f0 c0 ∧ k47.K w x.f1 c1 ∧ (x.f2.length ≤ n2 ∧ (Kd.int .i64).C w A2 x.f2.length x.f2) ∧ (x.f6.length ≤ n6 ∧ (Kd.int .i64).C w A6 x.f6.length x.f6) ∧ (x.f7.length ≤ n7 ∧ (Kd.int .i64).C w A7 x.f7.length x.f7) ∧ (x.f8.length ≤ n8 ∧ (Kd.int .i64).C w A8 x.f8.length x.f8) := by
  obtain ⟨c0, _, rfl, h0, ⟨c1, _, rfl, h1, ⟨_, _, rfl, ⟨A2, n2, rfl, l2, g2⟩, ⟨_, _, rfl, rfl, ⟨_, _, rfl, rfl, ⟨_, _, rfl, rfl, ⟨_, _, rfl, ⟨A6, n6, rfl, l6, g6⟩, ⟨_, _, rfl, ⟨A7, n7, rfl, l7, g7⟩, ⟨A8, n8, rfl, l8, g8⟩⟩⟩⟩⟩⟩⟩⟩⟩ := h
  exact ⟨c0, c1, A2, n2, A6, n6, A7, n7, A8, n8, rfl, k45.K_len h0, k47.K_len h1, h0, h1, ⟨l2, g2⟩, ⟨l6, g6⟩, ⟨l7, g7⟩, ⟨l8, g8⟩⟩

theorem k53_parts {w : World} {x : S53} {cs : List Value} (h : k53.K w x cs) : ∃ c0 c1 A2 n2 A6 n6 A7 n7 A8 n8, cs = c0 ++ (c1 ++ [.slice A2 x.f2.length n2, .bool x.f3, .int .i64 x.f4, .int .i64 x.f5, .slice A6 x.f6.length n6, .slice A7 x.f7.length n7, .slice A8 x.f8.length n8]) ∧ c0.length = 4 ∧ c1.length = 8 ∧ k50.K w x.f0 c0 ∧ k51.K w x.f1 c1 ∧ (x.f2.length ≤ n2 ∧ (Kd.int .i64).C w A2 x.f2.length x.f2) ∧ (x.f6.length ≤ n6 ∧ (Kd.int .i64).C w A6 x.f6.length x.f6) ∧ (x.f7.length ≤ n7 ∧ (Kd.int .i64).C w A7 x.f7.length x.f7) ∧ (x.f8.length ≤ n8 ∧ (Kd.int .i64).C w A8 x.f8.length x.f8) := by
  obtain ⟨c0, _, rfl, h0, ⟨c1, _, rfl, h1, ⟨_, _, rfl, ⟨A2, n2, rfl, l2, g2⟩, ⟨_, _, rfl, rfl, ⟨_, _, rfl, rfl, ⟨_, _, rfl, rfl, ⟨_, _, rfl, ⟨A6, n6, rfl, l6, g6⟩, ⟨_, _, rfl, ⟨A7, n7, rfl, l7, g7⟩, ⟨A8, n8, rfl, l8, g8⟩⟩⟩⟩⟩⟩⟩⟩⟩ := h
  exact ⟨c0, c1, A2, n2, A6, n6, A7, n7, A8, n8, rfl, k50.K_len h0, k51.K_len h1, h0, h1, ⟨l2, g2⟩, ⟨l6, g6⟩, ⟨l7, g7⟩, ⟨l8, g8⟩⟩


theorem idx_head {c0 r : List Value} (j : Nat) {u : Value} (h : c0[j]? = some u) : (c0 ++ r)[0 + j]? = some u := by
  rw [Nat.zero_add, List.getElem?_append_left (List.getElem?_eq_some_iff.1 h).1]; exact h
theorem idx_mid {c0 c1 r : List Value} {k : Nat} (hk : c0.length = k) (j : Nat) {u : Value} (h : c1[j]? = some u) : (c0 ++ (c1 ++ r))[k + j]? = some u := by
  rw [List.getElem?_append_right (by omega), hk, Nat.add_sub_cancel_left, List.getElem?_append_left (List.getElem?_eq_some_iff.1 h).1]; exact h
theorem idx_tail {c0 c1 r : List Value} {k m : Nat} (hk : c0.length = k) (hm : c1.length = m) (j : Nat) : (c0 ++ (c1 ++ r))[k + m + j]? = r[j]? := by
  rw [List.getElem?_append_right (by omega), hk, List.getElem?_append_right (by omega), hm, show k + m + j - k - m = j by omega]
theorem blk_seg {W : World} {g t off : Nat} {cs seg : List Value} (hb : W.heap[g]? = some (.cells cs.toArray t (0, 0))) (hs : ∀ j u, seg[j]? = some u → cs[off + j]? = some u) : ∀ j u, seg[j]? = some u → W.cell? ((⟨g, off, none⟩ : Addr).add j) = some u := by
  intro j u h
  have e : (⟨g, off, none⟩ : Addr).add j = ⟨g, off + j, none⟩ := by unfold Addr.add; split <;> simp_all
  rw [e, blk_cell hb (off + j)]
  simpa using hs j u h
theorem blk_one {W : World} {g t i : Nat} {cs : List Value} {u : Value} (hb : W.heap[g]? = some (.cells cs.toArray t (0, 0))) (hs : cs[i]? = some u) : W.cell? ⟨g, i, none⟩ = some u := by
  rw [blk_cell hb i]
  simpa using hs
theorem ag24 (W : World) : (isAgg 24).run Try.prog W = .ok false W := by unfold isAgg; rw [Sem.run_bind, run_underlying Try.underlying24 W]; rfl
theorem ag35 (W : World) : (isAgg 35).run Try.prog W = .ok false W := by unfold isAgg; rw [Sem.run_bind, run_underlying Try.underlying35 W]; rfl
theorem ag4 (W : World) : (isAgg 4).run Try.prog W = .ok false W := by unfold isAgg; rw [Sem.run_bind, run_underlying Try.underlying4 W]; rfl
theorem ag2 (W : World) : (isAgg 2).run Try.prog W = .ok false W := by unfold isAgg; rw [Sem.run_bind, run_underlying Try.underlying2 W]; rfl
theorem size49 : (Try.prog.info? 49).map (·.size) = some 19 := by kernel_rfl
theorem size53 : (Try.prog.info? 53).map (·.size) = some 19 := by kernel_rfl
theorem size47 : (Try.prog.info? 47).map (·.size) = some 8 := by kernel_rfl
theorem size51 : (Try.prog.info? 51).map (·.size) = some 8 := by kernel_rfl
theorem size45 : (Try.prog.info? 45).map (·.size) = some 4 := by kernel_rfl
theorem size50 : (Try.prog.info? 50).map (·.size) = some 4 := by kernel_rfl
theorem size26 : (Try.prog.info? 26).map (·.size) = some 2 := by kernel_rfl

def lenSum (l : List (List Int)) : Nat := (l.map List.length).sum
def szF (x : S47) : Nat := x.f5.length + x.f6.length + (x.f7.length + lenSum x.f7)
def szO (x : S49) : Nat := szF x.f1 + x.f2.length + x.f6.length + x.f7.length + x.f8.length
def szOs (l : List S49) : Nat := l.length + (l.map szO).sum
/-- It returns -1, or what is left. -/
def SzPost (t : Nat) (a : Int) (w : World) (e : Ending) (w' : World) : Prop := ∃ r : Int, e = .returned (.int .i64 r) ∧ (r = -1 ∨ (0 ≤ r ∧ r + t = a)) ∧ Below w.heap.size w w'

set_option maxHeartbeats 4000000 in
set_option maxRecDepth 100000 in
theorem szInt64S_any (A : Option Addr) (c : Nat) (l : List Int) (a : Int) (w : World) (hC : (Kd.int .i64).C w A l.length l) (h0 : 0 ≤ a) (h1 : a ≤ 1099511627776) :
    Calls Try.prog 32 #[.slice A l.length c, .int .i64 a] w (SzPost l.length a w) := by
  have hm := hC.2.1
  have HM := Aside0.mk hm
  have H01 := Aside0.mk (And.intro h0 h1)
  have e1 : wrap64 (a - (l.length : Int)) = a - (l.length : Int) := by unfold wrap64; omega
  have E1 := Aside0.mk e1
  clear hC hm e1
  by_cases hlt : a < (l.length : Int)
  · have b1 : decide (wrap64 (a - (l.length : Int)) < 0) = true := decide_eq_true (by rw [E1.out]; omega)
    have HLT := Aside0.mk hlt
    clear hlt h0 h1
    go_enter Try.func32, Try.ntmps32
    go_wp2
    go_ret
    exact ⟨_, rfl, .inl rfl, Below.refl _ _⟩
  · have b1 : decide (wrap64 (a - (l.length : Int)) < 0) = false := decide_eq_false (by rw [E1.out]; omega)
    have HLT := Aside0.mk hlt
    clear hlt h0 h1
    go_enter Try.func32, Try.ntmps32
    go_wp2
    go_ret
    exact ⟨_, rfl, .inr (by rw [E1.out]; have := HLT.out; omega), Below.refl _ _⟩

theorem sum_snoc {α : Type} (f : α → Nat) (l : List α) (i : Nat) (x : α) (h : l[i]? = some x) : ((l.take (i + 1)).map f).sum = ((l.take i).map f).sum + f x := by
  obtain ⟨hlt, rfl⟩ := List.getElem?_eq_some_iff.1 h
  rw [List.take_succ_eq_append_getElem hlt, List.map_append, List.sum_append]
  simp
theorem elemL {w : World} {A : Option Addr} {n : Nat} {xs : List (List Int)} (h : Kd.C (Kd.slice 2 (Kd.int .i64)) w A n xs) (i : Nat) (h1 : i < n) :
    ∃ ad A0 c0 x, A = some ad ∧ xs[i]? = some x ∧ w.cell? (ad.add i) = some (.slice A0 x.length c0) ∧ x.length ≤ c0 ∧ (Kd.int .i64).C w A0 x.length x := by
  have hl : xs.length = n := h.1
  obtain ⟨ad, A0, c0, hA, hc, hl0, hC⟩ := at_L1 h (i : Int) (by omega) (by omega)
  have e : rd_L1 xs (i : Int) = xs[i] := by unfold rd_L1; simp [List.getD_eq_getElem?_getD, List.getElem?_eq_getElem (show i < xs.length by omega)]
  rw [e] at hc hl0 hC
  rw [Int.toNat_natCast] at hc
  exact ⟨ad, A0, c0, _, hA, List.getElem?_eq_getElem (by omega), hc, hl0, hC⟩
set_option maxHeartbeats 4000000 in
set_option maxRecDepth 100000 in
theorem szInt64SS_any (A : Option Addr) (c : Nat) (l : List (List Int)) (a : Int) (w : World) (hC : Kd.C (Kd.slice 2 (Kd.int .i64)) w A l.length l) (h0 : 0 ≤ a) (h1 : a ≤ 1099511627776) :
    Calls Try.prog 18 #[.slice A l.length c, .int .i64 a] w (SzPost (l.length + (l.map List.length).sum) a w) := by
  have hm := hC.2.1
  have HM := Aside0.mk hm
  have H01 := Aside0.mk (And.intro h0 h1)
  have e1 : wrap64 (a - (l.length : Int)) = a - (l.length : Int) := by unfold wrap64; omega
  have E1 := Aside0.mk e1
  have HC := Aside0.mk hC
  clear hC hm e1
  by_cases hlt : a < (l.length : Int)
  · have b1 : decide (wrap64 (a - (l.length : Int)) < 0) = true := decide_eq_true (by rw [E1.out]; omega)
    clear hlt h0 h1
    go_enter Try.func18, Try.ntmps18
    go_wp2
    go_ret
    exact ⟨_, rfl, .inl rfl, Below.refl _ _⟩
  · have b1 : decide (wrap64 (a - (l.length : Int)) < 0) = false := decide_eq_false (by rw [E1.out]; omega)
    have HLT := Aside0.mk hlt
    clear hlt h0 h1
    go_enter Try.func18, Try.ntmps18
    go_wp2
    go_loopg [1, 5] l.length (fun gk v1 v5 w' => ∃ (r : Int) (i : Nat), v1 = .int .i64 r ∧ v5 = .int .i64 (i : Int) ∧ Aside0 (i + gk = l.length) ∧ Aside0 (0 ≤ r ∧ r ≤ 1099511627776 ∧ r + ((l.length + ((l.take i).map List.length).sum : Nat) : Int) = a) ∧ Aside0 (Below w.heap.size w w'))
    case atStart => exact ⟨_, 0, rfl, rfl, ⟨by omega⟩, ⟨by rw [E1.out]; have := HLT.out; have := H01.out; simp; omega⟩, ⟨Below.refl _ _⟩⟩
    case round =>
      obtain ⟨r, i, rfl, rfl, HI, HR, HB⟩ := hrel
      clear b1
      by_cases hlt : i < l.length
      · have b2 : decide (i < l.length) = true := decide_eq_true hlt
        have b3 : (i : Int) < (l.length : Int) := by omega
        have HLT2 := Aside0.mk hlt
        obtain ⟨ad, A0, c0, x, hA, hx, hc, _, hC0⟩ := elemL HC.out i hlt
        subst hA
        have HX := Aside0.mk hx
        have HCC := Aside0.mk hc
        have HKK := Aside0.mk hC0
        clear hx hc hC0
        clear hlt
        go_wp2_with (first | ((with_reducible refine gate_dst (N := 21) rfl ?_); refine load_one rfl 24 _ rfl (ad.add i) rfl (ag24 _) (.slice A0 x.length c0) (pw_cell_below HB.out HCC.out) ?_) | ((with_reducible refine gate_dst (N := 23) rfl ?_); refine goesL_ (some 23) rfl rfl Try.func32 (by kernel_rfl) rfl #[.slice A0 x.length c0, .int .i64 r] rfl (by (try simp only [List.map_toArray, List.map_cons, List.map_nil]); first | done | rfl) ?_; (refine (szInt64S_any A0 c0 x r _ (Kd.C_below HKK.out HB.out) HR.out.1 HR.out.2.1).mono ?_); rintro e w_ ⟨r1, rfl, hr1, hb1⟩; refine ⟨_, rfl, ?_⟩; have HR1 := Aside0.mk hr1; have HBn := Aside0.mk (below_step HB.out hb1); clear hr1 hb1 HB; have HB := HBn; clear HBn))
        · go_ret
          exact ⟨_, rfl, .inl rfl, HB.out⟩
        · have h1 : ¬ r1 < 0 := by omega
          have h2 := HR1.out
          have h3 := HR.out
          go_roundg (l.length - (i + 1))
          case measure => have := HI.out; have := HLT2.out; omega
          case rel => exact ⟨r1, i + 1, rfl, by rw [show wrap64 ((i : Int) + 1) = ((i + 1 : Nat) : Int) from by have h1 := HM.out; have h2 := HLT2.out; unfold wrap64; omega], ⟨by have := HLT2.out; omega⟩, ⟨by rw [sum_snoc List.length l i x HX.out]; omega⟩, HB⟩
      · have b2 : decide (i < l.length) = false := decide_eq_false hlt
        have HLE := Aside0.mk (show l.take i = l from List.take_of_length_le (by have := HI.out; omega))
        clear hlt
        go_wp2
        go_ret
        exact ⟨_, rfl, .inr (by have h := HR.out; rw [HLE.out] at h; exact ⟨h.1, h.2.2⟩), HB.out⟩

theorem k47_cells {w : World} {x : S47} {cs : List Value} (h : k47.K w x cs) : ∃ A5 c5 A6 c6 A7 c7, cs = [.int .i64 x.f0, .int .i64 x.f1, .int .i64 x.f2, .int .i64 x.f3, .int .i64 x.f4, .slice A5 x.f5.length c5, .slice A6 x.f6.length c6, .slice A7 x.f7.length c7] ∧ (x.f5.length ≤ c5 ∧ (Kd.int .i64).C w A5 x.f5.length x.f5) ∧ (x.f6.length ≤ c6 ∧ (Kd.int .i64).C w A6 x.f6.length x.f6) ∧ (x.f7.length ≤ c7 ∧ (Kd.slice 2 (Kd.int .i64)).C w A7 x.f7.length x.f7) := by
  obtain ⟨A5, c5, A6, c6, A7, c7, h1, h2, h3, h4, h5, h6, h7⟩ := k47_open h
  exact ⟨A5, c5, A6, c6, A7, c7, h1, ⟨h2, h3⟩, ⟨h4, h5⟩, ⟨h6, h7⟩⟩

theorem k51_cells {w : World} {x : S51} {cs : List Value} (h : k51.K w x cs) : ∃ A5 c5 A6 c6 A7 c7, cs = [.int .i64 x.f0, .int .i64 x.f1, .int .i64 x.f2, .int .i64 x.f3, .int .i64 x.f4, .slice A5 x.f5.length c5, .slice A6 x.f6.length c6, .slice A7 x.f7.length c7] ∧ (x.f5.length ≤ c5 ∧ (Kd.int .i64).C w A5 x.f5.length x.f5) ∧ (x.f6.length ≤ c6 ∧ (Kd.int .i64).C w A6 x.f6.length x.f6) ∧ (x.f7.length ≤ c7 ∧ (Kd.slice 2 (Kd.int .i64)).C w A7 x.f7.length x.f7) := by
  obtain ⟨A5, c5, A6, c6, A7, c7, h1, h2, h3, h4, h5, h6, h7⟩ := k51_open h
  exact ⟨A5, c5, A6, c6, A7, c7, h1, ⟨h2, h3⟩, ⟨h4, h5⟩, ⟨h6, h7⟩⟩

theorem lft {r a : Int} {t : Nat} (h : r = -1 ∨ (0 ≤ r ∧ r + t = a)) (h2 : 0 ≤ a ∧ a ≤ 1099511627776) (h3 : ¬ r < 0) : 0 ≤ r ∧ r ≤ 1099511627776 := by omega
theorem lftn {r a : Int} {t : Nat} (h : r = -1 ∨ (0 ≤ r ∧ r + t = a)) (h2 : 0 ≤ a ∧ a ≤ 1099511627776) (h3 : 0 ≤ r) : 0 ≤ r ∧ r ≤ 1099511627776 := by omega
set_option maxHeartbeats 4000000 in
set_option maxRecDepth 100000 in
theorem szFrame_any (x : S47) (cs : List Value) (a : Int) (w : World) (hK : k47.K w x cs) (h0 : 0 ≤ a) (h1 : a ≤ 1099511627776) :
    Calls Try.prog 48 #[.agg cs.toArray, .int .i64 a] w (SzPost (szF x) a w) := by
  obtain ⟨A5, c5, A6, c6, A7, c7, hcs, ⟨_, g5⟩, ⟨_, g6⟩, ⟨_, g7⟩⟩ := k47_cells hK
  have H01 := Aside0.mk (And.intro h0 h1)
  have E5 := Aside0.mk (show cs[5]? = some (.slice A5 x.f5.length c5) by rw [hcs]; rfl)
  have E6 := Aside0.mk (show cs[6]? = some (.slice A6 x.f6.length c6) by rw [hcs]; rfl)
  have E7 := Aside0.mk (show cs[7]? = some (.slice A7 x.f7.length c7) by rw [hcs]; rfl)
  have G5 := Aside0.mk g5
  have G6 := Aside0.mk g6
  have G7 := Aside0.mk g7
  have HB := Aside0.mk (Below.refl w.heap.size w)
  clear hcs g5 g6 g7 hK h0 h1
  go_enter Try.func48, Try.ntmps48
  go_wp2_with (first | ((with_reducible refine gate_dst (N := 2) rfl ?_); refine box_big rfl 47 _ rfl cs rfl ?_; intro g2 hg_ w_ hk_ hb_; have n0_ := Aside0.mk (below_step HB.out hb_); have m0_ := Aside0.mk (hk_); have m1_ := Aside0.mk ((show w.heap.size ≤ g2 by rw [hg_]; exact HB.out.size)); clear HB; have HB := n0_; have BK2 := m0_; have GE_g2 := m1_; clear n0_ m0_ m1_; clear hg_ hk_ hb_) | ((with_reducible refine gate_dst (N := 6) rfl ?_); refine load_one rfl 24 _ rfl ⟨g2, 5, none⟩ rfl (ag24 _) (.slice A5 x.f5.length c5) (blk_one BK2.out E5.out) ?_) | ((with_reducible refine gate_dst (N := 8) rfl ?_); refine goesL_ (some 8) rfl rfl Try.func32 (by kernel_rfl) rfl #[.slice A5 x.f5.length c5, .int .i64 a] rfl (by (try simp only [List.map_toArray, List.map_cons, List.map_nil]); first | done | rfl) ?_; (refine (szInt64S_any A5 c5 x.f5 a _ (Kd.C_below G5.out HB.out) H01.out.1 H01.out.2).mono ?_); rintro e w_ ⟨r1, rfl, hr_, hb_⟩; refine ⟨_, rfl, ?_⟩; have HR_r1 := Aside0.mk hr_; have n0_ := Aside0.mk (below_step HB.out hb_); have n1_ := Aside0.mk (blk_below BK2.out hb_); clear HB BK2; have HB := n0_; have BK2 := n1_; clear n0_ n1_; clear hr_ hb_) | ((with_reducible refine gate_dst (N := 12) rfl ?_); refine load_one rfl 24 _ rfl ⟨g2, 6, none⟩ rfl (ag24 _) (.slice A6 x.f6.length c6) (blk_one BK2.out E6.out) ?_) | ((with_reducible refine gate_dst (N := 14) rfl ?_); refine goesL_ (some 14) rfl rfl Try.func32 (by kernel_rfl) rfl #[.slice A6 x.f6.length c6, .int .i64 r1] rfl (by (try simp only [List.map_toArray, List.map_cons, List.map_nil]); first | done | rfl) ?_; (refine (szInt64S_any A6 c6 x.f6 r1 _ (Kd.C_below G6.out HB.out) (lftn HR_r1.out H01.out (by omega)).1 (lftn HR_r1.out H01.out (by omega)).2).mono ?_); rintro e w_ ⟨r2, rfl, hr_, hb_⟩; refine ⟨_, rfl, ?_⟩; have HR_r2 := Aside0.mk hr_; have n0_ := Aside0.mk (below_step HB.out hb_); have n1_ := Aside0.mk (blk_below BK2.out hb_); clear HB BK2; have HB := n0_; have BK2 := n1_; clear n0_ n1_; clear hr_ hb_) | ((with_reducible refine gate_dst (N := 18) rfl ?_); refine load_one rfl 35 _ rfl ⟨g2, 7, none⟩ rfl (ag35 _) (.slice A7 x.f7.length c7) (blk_one BK2.out E7.out) ?_) | ((with_reducible refine gate_dst (N := 20) rfl ?_); refine goesL_ (some 20) rfl rfl Try.func18 (by kernel_rfl) rfl #[.slice A7 x.f7.length c7, .int .i64 r2] rfl (by (try simp only [List.map_toArray, List.map_cons, List.map_nil]); first | done | rfl) ?_; (refine (szInt64SS_any A7 c7 x.f7 r2 _ (Kd.C_below G7.out HB.out) (lftn HR_r2.out (lftn HR_r1.out H01.out (by omega)) (by omega)).1 (lftn HR_r2.out (lftn HR_r1.out H01.out (by omega)) (by omega)).2).mono ?_); rintro e w_ ⟨r3, rfl, hr_, hb_⟩; refine ⟨_, rfl, ?_⟩; have HR_r3 := Aside0.mk hr_; have n0_ := Aside0.mk (below_step HB.out hb_); have n1_ := Aside0.mk (blk_below BK2.out hb_); clear HB BK2; have HB := n0_; have BK2 := n1_; clear n0_ n1_; clear hr_ hb_))
  all_goals
    go_ret
  · exact ⟨_, rfl, .inl rfl, HB.out⟩
  · exact ⟨_, rfl, .inl rfl, HB.out⟩
  · exact ⟨_, rfl, .inl rfl, HB.out⟩
  · refine ⟨_, rfl, ?_, HB.out⟩
    have h1 := HR_r1.out
    have h2 := HR_r2.out
    have h3 := HR_r3.out
    unfold szF lenSum
    omega

set_option maxHeartbeats 4000000 in
set_option maxRecDepth 100000 in
theorem szOutcome_any (x : S49) (cs : List Value) (a : Int) (w : World) (hK : k49.K w x cs) (h0 : 0 ≤ a) (h1 : a ≤ 1099511627776) :
    Calls Try.prog 25 #[.agg cs.toArray, .int .i64 a] w (SzPost (szO x) a w) := by
  obtain ⟨c0, c1, A2, n2, A6, n6, A7, n7, A8, n8, hcs, l0, l1, _, hk1, ⟨_, g2⟩, ⟨_, g6⟩, ⟨_, g7⟩, ⟨_, g8⟩⟩ := k49_parts hK
  have H01 := Aside0.mk (And.intro h0 h1)
  obtain ⟨rr, hrr⟩ : ∃ rr : List Value, rr = [.slice A2 x.f2.length n2, .bool x.f3, .int .i64 x.f4, .int .i64 x.f5, .slice A6 x.f6.length n6, .slice A7 x.f7.length n7, .slice A8 x.f8.length n8] := ⟨_, rfl⟩
  rw [← hrr] at hcs
  have L0 := Aside0.mk l0
  have L1 := Aside0.mk l1
  have HK1 := Aside0.mk hk1
  have E2 := Aside0.mk (show (c0 ++ (c1 ++ rr))[12]? = some (.slice A2 x.f2.length n2) from (idx_tail l0 l1 0).trans (by rw [hrr]; rfl))
  have E6 := Aside0.mk (show (c0 ++ (c1 ++ rr))[16]? = some (.slice A6 x.f6.length n6) from (idx_tail l0 l1 4).trans (by rw [hrr]; rfl))
  have E7 := Aside0.mk (show (c0 ++ (c1 ++ rr))[17]? = some (.slice A7 x.f7.length n7) from (idx_tail l0 l1 5).trans (by rw [hrr]; rfl))
  have E8 := Aside0.mk (show (c0 ++ (c1 ++ rr))[18]? = some (.slice A8 x.f8.length n8) from (idx_tail l0 l1 6).trans (by rw [hrr]; rfl))
  have G2 := Aside0.mk g2
  have G6 := Aside0.mk g6
  have G7 := Aside0.mk g7
  have G8 := Aside0.mk g8
  have HB := Aside0.mk (Below.refl w.heap.size w)
  subst hcs
  clear hrr l0 l1 hk1 g2 g6 g7 g8 hK h0 h1
  go_enter Try.func25, Try.ntmps25
  go_wp2_with (first | ((with_reducible refine gate_dst (N := 2) rfl ?_); refine box_big rfl 49 _ rfl (c0 ++ (c1 ++ rr)) rfl ?_; intro g2 hg_ w_ hk_ hb_; have n0_ := Aside0.mk (below_step HB.out hb_); have m0_ := Aside0.mk (hk_); have m1_ := Aside0.mk ((show w.heap.size ≤ g2 by rw [hg_]; exact HB.out.size)); clear HB; have HB := n0_; have BK2 := m0_; have GE_g2 := m1_; clear n0_ m0_ m1_; clear hg_ hk_ hb_) | ((with_reducible refine gate_dst (N := 6) rfl ?_); refine load_big rfl 47 _ rfl ⟨g2, 4, none⟩ rfl _ Try.underlying47 8 size47 c1 L1.out (blk_seg BK2.out (fun j u h => idx_mid L0.out j h)) ?_) | ((with_reducible refine gate_dst (N := 8) rfl ?_); refine goesL_ (some 8) rfl rfl Try.func48 (by kernel_rfl) rfl #[.agg c1.toArray, .int .i64 a] rfl (by (try simp only [List.map_toArray, List.map_cons, List.map_nil]); first | done | rfl) ?_; (refine (szFrame_any x.f1 c1 a _ (k47.K_below HB.out HK1.out) H01.out.1 H01.out.2).mono ?_); rintro e w_ ⟨r1, rfl, hr_, hb_⟩; refine ⟨_, rfl, ?_⟩; have HR_r1 := Aside0.mk hr_; have n0_ := Aside0.mk (below_step HB.out hb_); have n1_ := Aside0.mk (blk_below BK2.out hb_); clear HB BK2; have HB := n0_; have BK2 := n1_; clear n0_ n1_; clear hr_ hb_) | ((with_reducible refine gate_dst (N := 12) rfl ?_); refine load_one rfl 24 _ rfl ⟨g2, 12, none⟩ rfl (ag24 _) (.slice A2 x.f2.length n2) (blk_one BK2.out (E2.out)) ?_) | ((with_reducible refine gate_dst (N := 14) rfl ?_); refine goesL_ (some 14) rfl rfl Try.func32 (by kernel_rfl) rfl #[.slice A2 x.f2.length n2, .int .i64 r1] rfl (by (try simp only [List.map_toArray, List.map_cons, List.map_nil]); first | done | rfl) ?_; (refine (szInt64S_any A2 n2 x.f2 r1 _ (Kd.C_below G2.out HB.out) (lftn HR_r1.out H01.out (by omega)).1 (lftn HR_r1.out H01.out (by omega)).2).mono ?_); rintro e w_ ⟨r2, rfl, hr_, hb_⟩; refine ⟨_, rfl, ?_⟩; have HR_r2 := Aside0.mk hr_; have n0_ := Aside0.mk (below_step HB.out hb_); have n1_ := Aside0.mk (blk_below BK2.out hb_); clear HB BK2; have HB := n0_; have BK2 := n1_; clear n0_ n1_; clear hr_ hb_) | ((with_reducible refine gate_dst (N := 18) rfl ?_); refine load_one rfl 24 _ rfl ⟨g2, 16, none⟩ rfl (ag24 _) (.slice A6 x.f6.length n6) (blk_one BK2.out (E6.out)) ?_) | ((with_reducible refine gate_dst (N := 20) rfl ?_); refine goesL_ (some 20) rfl rfl Try.func32 (by kernel_rfl) rfl #[.slice A6 x.f6.length n6, .int .i64 r2] rfl (by (try simp only [List.map_toArray, List.map_cons, List.map_nil]); first | done | rfl) ?_; (refine (szInt64S_any A6 n6 x.f6 r2 _ (Kd.C_below G6.out HB.out) (lftn HR_r2.out (lftn HR_r1.out H01.out (by omega)) (by omega)).1 (lftn HR_r2.out (lftn HR_r1.out H01.out (by omega)) (by omega)).2).mono ?_); rintro e w_ ⟨r3, rfl, hr_, hb_⟩; refine ⟨_, rfl, ?_⟩; have HR_r3 := Aside0.mk hr_; have n0_ := Aside0.mk (below_step HB.out hb_); have n1_ := Aside0.mk (blk_below BK2.out hb_); clear HB BK2; have HB := n0_; have BK2 := n1_; clear n0_ n1_; clear hr_ hb_) | ((with_reducible refine gate_dst (N := 24) rfl ?_); refine load_one rfl 24 _ rfl ⟨g2, 17, none⟩ rfl (ag24 _) (.slice A7 x.f7.length n7) (blk_one BK2.out (E7.out)) ?_) | ((with_reducible refine gate_dst (N := 26) rfl ?_); refine goesL_ (some 26) rfl rfl Try.func32 (by kernel_rfl) rfl #[.slice A7 x.f7.length n7, .int .i64 r3] rfl (by (try simp only [List.map_toArray, List.map_cons, List.map_nil]); first | done | rfl) ?_; (refine (szInt64S_any A7 n7 x.f7 r3 _ (Kd.C_below G7.out HB.out) (lftn HR_r3.out (lftn HR_r2.out (lftn HR_r1.out H01.out (by omega)) (by omega)) (by omega)).1 (lftn HR_r3.out (lftn HR_r2.out (lftn HR_r1.out H01.out (by omega)) (by omega)) (by omega)).2).mono ?_); rintro e w_ ⟨r4, rfl, hr_, hb_⟩; refine ⟨_, rfl, ?_⟩; have HR_r4 := Aside0.mk hr_; have n0_ := Aside0.mk (below_step HB.out hb_); have n1_ := Aside0.mk (blk_below BK2.out hb_); clear HB BK2; have HB := n0_; have BK2 := n1_; clear n0_ n1_; clear hr_ hb_) | ((with_reducible refine gate_dst (N := 30) rfl ?_); refine load_one rfl 24 _ rfl ⟨g2, 18, none⟩ rfl (ag24 _) (.slice A8 x.f8.length n8) (blk_one BK2.out (E8.out)) ?_) | ((with_reducible refine gate_dst (N := 32) rfl ?_); refine goesL_ (some 32) rfl rfl Try.func32 (by kernel_rfl) rfl #[.slice A8 x.f8.length n8, .int .i64 r4] rfl (by (try simp only [List.map_toArray, List.map_cons, List.map_nil]); first | done | rfl) ?_; (refine (szInt64S_any A8 n8 x.f8 r4 _ (Kd.C_below G8.out HB.out) (lftn HR_r4.out (lftn HR_r3.out (lftn HR_r2.out (lftn HR_r1.out H01.out (by omega)) (by omega)) (by omega)) (by omega)).1 (lftn HR_r4.out (lftn HR_r3.out (lftn HR_r2.out (lftn HR_r1.out H01.out (by omega)) (by omega)) (by omega)) (by omega)).2).mono ?_); rintro e w_ ⟨r5, rfl, hr_, hb_⟩; refine ⟨_, rfl, ?_⟩; have HR_r5 := Aside0.mk hr_; have n0_ := Aside0.mk (below_step HB.out hb_); have n1_ := Aside0.mk (blk_below BK2.out hb_); clear HB BK2; have HB := n0_; have BK2 := n1_; clear n0_ n1_; clear hr_ hb_))
  all_goals
    go_ret
  · exact ⟨_, rfl, .inl rfl, HB.out⟩
  · exact ⟨_, rfl, .inl rfl, HB.out⟩
  · exact ⟨_, rfl, .inl rfl, HB.out⟩
  · exact ⟨_, rfl, .inl rfl, HB.out⟩
  · exact ⟨_, rfl, .inl rfl, HB.out⟩
  · refine ⟨_, rfl, ?_, HB.out⟩
    have h1 := HR_r1.out
    have h2 := HR_r2.out
    have h3 := HR_r3.out
    have h4 := HR_r4.out
    have h5 := HR_r5.out
    unfold szO
    omega

theorem elem49 {w : World} {A : Option Addr} {n : Nat} {xs : List S49} (h : Kd.C k49 w A n xs) (i : Nat) (h1 : i < n) :
    ∃ ad cs x, A = some ad ∧ xs[i]? = some x ∧ cs.length = 19 ∧ k49.K w x cs ∧ ∀ j u, cs[j]? = some u → w.cell? ((ad.add (i * 19)).add j) = some u := by
  have hl : xs.length = n := h.1
  obtain ⟨ad, cs, hA, hl, hK, hc⟩ := ReadsRow.get_ h z49 (i : Int) (by omega) (by omega)
  refine ⟨ad, cs, _, hA, ?_, hl, hK, fun j u hj => ?_⟩
  · rw [List.getD_eq_getElem?_getD, Int.toNat_natCast, List.getElem?_eq_getElem (by omega)]
    rfl
  · have := hc j u hj
    rw [Int.toNat_natCast] at this
    rw [add_add]
    exact this

set_option maxHeartbeats 4000000 in
set_option maxRecDepth 100000 in
theorem szOutcomeS_any (A : Option Addr) (c : Nat) (l : List S49) (a : Int) (w : World) (hC : Kd.C k49 w A l.length l) (h0 : 0 ≤ a) (h1 : a ≤ 1099511627776) :
    Calls Try.prog 7 #[.slice A l.length c, .int .i64 a] w (SzPost (l.length + (l.map szO).sum) a w) := by
  have hm := hC.2.1
  have HM := Aside0.mk hm
  have H01 := Aside0.mk (And.intro h0 h1)
  have e1 : wrap64 (a - (l.length : Int)) = a - (l.length : Int) := by unfold wrap64; omega
  have E1 := Aside0.mk e1
  have HC := Aside0.mk hC
  clear hC hm e1
  by_cases hlt : a < (l.length : Int)
  · have b1 : decide (wrap64 (a - (l.length : Int)) < 0) = true := decide_eq_true (by rw [E1.out]; omega)
    clear hlt h0 h1
    go_enter Try.func7, Try.ntmps7
    go_wp2
    go_ret
    exact ⟨_, rfl, .inl rfl, Below.refl _ _⟩
  · have b1 : decide (wrap64 (a - (l.length : Int)) < 0) = false := decide_eq_false (by rw [E1.out]; omega)
    have HLT := Aside0.mk hlt
    clear hlt h0 h1
    go_enter Try.func7, Try.ntmps7
    go_wp2
    go_loopg [1, 5] l.length (fun gk v1 v5 w' => ∃ (r : Int) (i : Nat), v1 = .int .i64 r ∧ v5 = .int .i64 (i : Int) ∧ Aside0 (i + gk = l.length) ∧ Aside0 (0 ≤ r ∧ r ≤ 1099511627776 ∧ r + ((l.length + ((l.take i).map szO).sum : Nat) : Int) = a) ∧ Aside0 (Below w.heap.size w w'))
    case atStart => exact ⟨_, 0, rfl, rfl, ⟨by omega⟩, ⟨by rw [E1.out]; have := HLT.out; have := H01.out; simp; omega⟩, ⟨Below.refl _ _⟩⟩
    case round =>
      obtain ⟨r, i, rfl, rfl, HI, HR, HB⟩ := hrel
      clear b1
      by_cases hlt : i < l.length
      · have b2 : decide (i < l.length) = true := decide_eq_true hlt
        have b3 : (i : Int) < (l.length : Int) := by omega
        have HLT2 := Aside0.mk hlt
        obtain ⟨ad, cs, x, hA, hx, hl, hK, hc⟩ := elem49 HC.out i hlt
        subst hA
        have HX := Aside0.mk hx
        have HL := Aside0.mk hl
        have HKK := Aside0.mk hK
        have HCC := Aside0.mk hc
        clear hx hc hl hK
        clear hlt
        go_wp2_with (first | ((with_reducible refine gate_dst (N := 21) rfl ?_); refine load_big rfl 49 _ rfl (ad.add (i * 19)) rfl _ Try.underlying49 19 size49 cs HL.out (fun j u hj => pw_cell_below HB.out (HCC.out j u hj)) ?_) | ((with_reducible refine gate_dst (N := 23) rfl ?_); refine goesL_ (some 23) rfl rfl Try.func25 (by kernel_rfl) rfl #[.agg cs.toArray, .int .i64 r] rfl (by (try simp only [List.map_toArray, List.map_cons, List.map_nil]); first | done | rfl) ?_; (refine (szOutcome_any x cs r _ (k49.K_below HB.out HKK.out) HR.out.1 HR.out.2.1).mono ?_); rintro e w_ ⟨r1, rfl, hr1, hb1⟩; refine ⟨_, rfl, ?_⟩; have HR1 := Aside0.mk hr1; have HBn := Aside0.mk (below_step HB.out hb1); clear hr1 hb1 HB; have HB := HBn; clear HBn))
        · go_ret
          exact ⟨_, rfl, .inl rfl, HB.out⟩
        · have h1 : ¬ r1 < 0 := by omega
          have h2 := HR1.out
          have h3 := HR.out
          go_roundg (l.length - (i + 1))
          case measure => have := HI.out; have := HLT2.out; omega
          case rel => exact ⟨r1, i + 1, rfl, by rw [show wrap64 ((i : Int) + 1) = ((i + 1 : Nat) : Int) from by have h1 := HM.out; have h2 := HLT2.out; unfold wrap64; omega], ⟨by have := HLT2.out; omega⟩, ⟨by rw [sum_snoc szO l i x HX.out]; omega⟩, HB⟩
      · have b2 : decide (i < l.length) = false := decide_eq_false hlt
        have HLE := Aside0.mk (show l.take i = l from List.take_of_length_le (by have := HI.out; omega))
        clear hlt
        go_wp2
        go_ret
        exact ⟨_, rfl, .inr (by have h := HR.out; rw [HLE.out] at h; exact ⟨h.1, h.2.2⟩), HB.out⟩

end Go.Proofs.Yteahhohlnoifaaa.QZ
