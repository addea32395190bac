/- A row of the call's own is one that the marks may be written into; what markIntsResult and heldIntsResult return; counts below 2^60. -/
import Derived.Test.YteahhohlnoifaaaHar5
namespace Go.Proofs.Yteahhohlnoifaaa.QZ
open Go.RowKit Go.Proofs.YteahhohlnoifaaaW.PrintWords Go.Proofs.YteahhohlnoifaaaW.PrintLast Go.Proofs.YteahhohlnoifaaaW.PrintMore Go.Proofs.Yteahhohlnoifaaa.Big
set_option linter.unusedVariables false
set_option linter.unusedSimpArgs false


theorem introw_of_R {W : World} {base : Nat} {ok S : Nat → Prop} {v : Value} {l : List Int} (h : (Kd.int .i64).R 2 W base ok v l) (hs : ∀ k, ok k → S k) : ∃ A c, v = .slice A l.length c ∧ IntRow W S A l.length := by
  obtain ⟨A, c, rfl, _, hC⟩ := Kd.R_reads h
  refine ⟨A, c, rfl, hC.2.1, fun hn => ?_⟩
  obtain ⟨g, cap, ev, _, _, _⟩ := Kd.R_form h hn
  injection ev with e1 e2 e3
  subst e1
  refine ⟨_, rfl, hs g (h.1 g (by simp [Value.ownBlock])), fun j hj => ?_⟩
  obtain ⟨cs, _, hM, hcc, hff⟩ := Kd.R_elem h 0 (j : Int) (by omega) (by omega)
  have hM' : cs = [.int .i64 (l.getD (j : Int).toNat 0)] := hM
  have h0 := hcc 0 _ (by rw [hM']; rfl)
  have hf := hff 0
  rw [Int.toNat_natCast] at h0 hf
  rw [add_plain]
  simp only [Kd.int, Kd.scalar, Nat.mul_one, Nat.add_zero] at h0 hf
  exact ⟨⟨_, h0⟩, hf⟩
theorem rowsok_of_R {W : World} {base : Nat} {ok S : Nat → Prop} {v : Value} {l : List (List Int)} (h : (Kd.slice 2 (Kd.int .i64)).R 24 W base ok v l) (hs : ∀ k, ok k → S k) : ∃ A c, v = .slice A l.length c ∧ RowsOk W S A l := by
  obtain ⟨A, c, rfl, _, hC⟩ := Kd.R_reads h
  refine ⟨A, c, rfl, hC.2.1, fun i x hx => ?_⟩
  have hil := (List.getElem?_eq_some_iff.1 hx).1
  obtain ⟨g, cap, ev, _, _, _⟩ := Kd.R_form h (by omega)
  injection ev with e1 e2 e3
  subst e1
  obtain ⟨cs, _, hM, hcc, hff⟩ := Kd.R_elem h [] (i : Int) (by omega) (by omega)
  rw [Int.toNat_natCast, List.getD_eq_getElem?_getD, hx] at hM
  obtain ⟨v0, hv0, hR0⟩ := hM
  have h0 := hcc 0 v0 (by rw [hv0]; rfl)
  rw [Int.toNat_natCast] at h0
  obtain ⟨A0, c0, rfl, hrow⟩ := introw_of_R (S := S) hR0 (fun k hk => hs k hk.1)
  refine ⟨_, A0, c0, rfl, ?_, hrow⟩
  rw [add_plain]
  simp only [Kd.slice, Nat.mul_one, Nat.add_zero] at h0
  exact h0
theorem outs_of_R {W : World} {base : Nat} {ok : Nat → Prop} {v : Value} {l : List S53} (h : k53.R 53 W base ok v l) : ∃ A c, v = .slice A l.length c ∧ OutsOk W (fun k => base ≤ k ∧ ok k) A l := by
  have hb := Kd.R_bound h
  obtain ⟨A, c, rfl, _, hC⟩ := Kd.R_reads h
  refine ⟨A, c, rfl, hC.2.1, fun i x hx => ?_⟩
  have hil := (List.getElem?_eq_some_iff.1 hx).1
  obtain ⟨g, cap, ev, hg1, hg2, _⟩ := Kd.R_form hb (by omega)
  injection ev with e1 e2 e3
  subst e1
  obtain ⟨cs, _, hM, hcc, hff⟩ := Kd.R_elem hb z53 (i : Int) (by omega) (by omega)
  rw [Int.toNat_natCast, List.getD_eq_getElem?_getD, hx] at hM
  rw [Int.toNat_natCast] at hcc hff
  have hM1 : k53.M W base (fun k => base ≤ k ∧ ok k) x cs := k53.M_mono (fun k hk => ⟨hk.1.2.1, hk.1.1⟩) hM
  obtain ⟨v9, v10, v11, v12, v16, v17, v18, rfl, r9, r10, r11, r12, r16, r17, r18⟩ := k53_openM hM1
  obtain ⟨A9, c9, rfl, g9⟩ := introw_of_R r9 (fun k hk => hk)
  obtain ⟨A10, c10, rfl, g10⟩ := introw_of_R r10 (fun k hk => hk)
  obtain ⟨A11, c11, rfl, g11⟩ := rowsok_of_R r11 (fun k hk => hk)
  obtain ⟨A12, c12, rfl, g12⟩ := introw_of_R r12 (fun k hk => hk)
  obtain ⟨A16, c16, rfl, g16⟩ := introw_of_R r16 (fun k hk => hk)
  obtain ⟨A17, c17, rfl, g17⟩ := introw_of_R r17 (fun k hk => hk)
  obtain ⟨A18, c18, rfl, g18⟩ := introw_of_R r18 (fun k hk => hk)
  have e0 : (⟨g, 0, none⟩ : Addr).add (i * 19) = ⟨g, i * 19, none⟩ := add_plain g (i * 19)
  have ep : ∀ j, pa ((⟨g, 0, none⟩ : Addr).add (i * 19)) j = ⟨g, i * 19 + (j + 1), none⟩ := fun j => by rw [e0]; rfl
  have hz : k53.sz = 19 := rfl
  rw [hz] at hcc hff
  refine ⟨_, rfl, ⟨?_, ?_, ?_, ?_, ?_, ?_, ?_, ?_, ?_, ?_, ?_, ?_, ?_⟩⟩
  · rw [e0]; exact ⟨hg1, h.1 g (by simp [Value.ownBlock])⟩
  · rw [e0]; exact hff 0
  · intro j _; rw [ep]; exact hff (j + 1)
  · rw [e0]; exact ⟨_, hcc 0 _ rfl⟩
  · intro j hj
    rw [ep]
    rcases hj with rfl | rfl | rfl | rfl | rfl | rfl | rfl | rfl
    · exact ⟨_, hcc 1 _ rfl⟩
    · exact ⟨_, hcc 4 _ rfl⟩
    · exact ⟨_, hcc 5 _ rfl⟩
    · exact ⟨_, hcc 6 _ rfl⟩
    · exact ⟨_, hcc 7 _ rfl⟩
    · exact ⟨_, hcc 8 _ rfl⟩
    · exact ⟨_, hcc 14 _ rfl⟩
    · exact ⟨_, hcc 15 _ rfl⟩
  · intro j hj
    rw [ep]
    rcases hj with rfl | rfl | rfl
    · exact ⟨_, hcc 2 _ rfl⟩
    · exact ⟨_, hcc 3 _ rfl⟩
    · exact ⟨_, hcc 13 _ rfl⟩
  · rw [ep]; exact ⟨_, _, hcc 9 _ rfl, g9⟩
  · rw [ep]; exact ⟨_, _, hcc 10 _ rfl, g10⟩
  · rw [ep]; exact ⟨_, _, hcc 11 _ rfl, g11⟩
  · rw [ep]; exact ⟨_, _, hcc 12 _ rfl, g12⟩
  · rw [ep]; exact ⟨_, _, hcc 16 _ rfl, g16⟩
  · rw [ep]; exact ⟨_, _, hcc 17 _ rfl, g17⟩
  · rw [ep]; exact ⟨_, _, hcc 18 _ rfl, g18⟩
theorem Wr.below {w0 w w' : World} {S : Nat → Prop} {b : Nat} (h : Wr w w' S) (hB : Below b w0 w) (hS : ∀ k, S k → b ≤ k) : Below b w0 w' :=
  ⟨h.os.trans hB.os, h.tape.trans hB.tape, h.output.trans hB.output, by rw [h.size]; exact hB.size, fun k hk => (h.other k (fun hk2 => by have := hS k hk2; omega)).trans (hB.block k hk)⟩
theorem Wr.R {α : Type} {d : Kd α} {e : Nat} {w w' : World} {S : Nat → Prop} {base : Nat} {ok : Nat → Prop} {v : Value} {xs : List α} (h : Wr w w' S) (hR : d.R e w base ok v xs) (hne : ∀ k, ok k → ¬ S k) : d.R e w' base ok v xs :=
  Kd.R_step hR (fun k hk _ => h.other k (hne k hk))
theorem Wr.blk {w w' : World} {S : Nat → Prop} {k : Nat} {o : Obj} (h : Wr w w' S) (hb : w.heap[k]? = some o) (hne : ¬ S k) : w'.heap[k]? = some o := (h.other k hne).trans hb
/-- The marks: a, a + 1, .. -/
def iota (a : Int) (n : Nat) : List Int := (List.range n).map fun (i : Nat) => a + (i : Int)
theorem iota_len (a : Int) (n : Nat) : (iota a n).length = n := by simp [iota]
theorem iota_get (a : Int) (n i : Nat) (h : i < n) : (iota a n)[i]? = some (a + i) := by simp [iota, h]
theorem iota_set (a : Int) (l : List Int) (i : Nat) (h : i < l.length) : (iota a i ++ l.drop i).set i (a + i) = iota a (i + 1) ++ l.drop (i + 1) := by
  rw [List.set_append_right _ _ (by rw [iota_len]; omega), iota_len, Nat.sub_self, List.drop_eq_getElem_cons h, List.set_cons_zero]
  simp only [iota, List.range_succ, List.map_append, List.map_cons, List.map_nil, List.append_assoc, List.cons_append, List.nil_append]
def MarkR (base : Nat) (v : Value) (n : Nat) (a : Int) (w : World) (e : Ending) (w' : World) : Prop := ∃ r : Int, e = .returned (.int .i64 r) ∧ r = a + n ∧ (Kd.int .i64).R 2 w' base (fun _ => True) v (iota a n) ∧ w.grownBy w' v.ownBlock

set_option maxHeartbeats 4000000 in
set_option maxRecDepth 100000 in
theorem markInt64S_R (base : Nat) (v : Value) (l : List Int) (a : Int) (w : World) (hR : (Kd.int .i64).R 2 w base (fun _ => True) v l) (hb : base ≤ w.heap.size) (h0 : 0 ≤ a) (h1 : a + l.length ≤ 1152921504606846976) :
    Calls Try.prog 29 #[v, .int .i64 a] w (MarkR base v l.length a w) := by
  obtain ⟨A, c, rfl, _, hC⟩ := Kd.R_reads hR
  have HM := Aside0.mk hC.2.1
  have HR := Aside0.mk hR
  have HBB := Aside0.mk hb
  have H01 := Aside0.mk (And.intro h0 h1)
  clear hR h0 h1 hC hb
  go_enter Try.func29, Try.ntmps29
  go_wp2
  go_loopg [1, 5] l.length (fun gk v1 v5 w' => ∃ (r : Int) (i : Nat) (xs : List Int), v1 = .int .i64 r ∧ v5 = .int .i64 (i : Int) ∧ Aside0 (i + gk = l.length) ∧ Aside0 (r = a + i) ∧ Aside0 (xs = iota a i ++ l.drop i) ∧ Aside0 ((Kd.int .i64).R 2 w' base (fun _ => True) (.slice A l.length c) xs) ∧ Aside0 (w.grownBy w' (Value.slice A l.length c).ownBlock))
  case atStart => exact ⟨a, 0, l, rfl, rfl, ⟨by omega⟩, ⟨by simp⟩, ⟨by simp [iota]⟩, HR, ⟨World.grownBy.refl _ _⟩⟩
  case round =>
    obtain ⟨r, i, xs, rfl, rfl, HI, HRR, HXS, HO, HG⟩ := hrel
    by_cases hlt : i < l.length
    · have b2 : decide (i < l.length) = true := decide_eq_true hlt
      have b3 : (i : Int) < (l.length : Int) := by omega
      have HLT := Aside0.mk hlt
      have HXL := Aside0.mk (show i < xs.length by rw [HXS.out]; simp [iota]; omega)
      obtain ⟨g, cap, ev, _, _, _⟩ := Kd.R_form HO.out (by have := HXL.out; omega)
      injection ev with e1 e2 e3
      subst e1
      clear hlt e2 e3
      go_wp2_with (first | ((with_reducible refine gate_store (t := 2) (p := 15) rfl ?_); refine store_elem (Kd.int .i64) (w0 := wr) base rfl rfl 2 _ _ rfl 2 i xs 0 r _ [.int .i64 r] rfl (by simp [Kd.int, Kd.scalar]) rfl (by rfl) size2 HO.out HXL.out rfl (by decide) (Below.refl _ _) ?_; intro w8 ho8 hb8 hg8; have n0_ := Aside0.mk ho8; have n1_ := Aside0.mk (World.grownBy.trans HG.out (show wr.grownBy w8 (Value.slice (some ⟨g, 0, none⟩) l.length c).ownBlock from hg8)); clear ho8 hb8 hg8 HO HG; have HO := n0_; have HG := n1_; clear n0_ n1_))
      go_roundg (l.length - (i + 1))
      case measure => have := HI.out; have := HLT.out; omega
      case rel => exact ⟨r + 1, i + 1, _, by rw [show wrap64 (r + 1) = r + 1 from by have h1 := H01.out; have h2 := HLT.out; have h3 := HRR.out; unfold wrap64; omega], by rw [show wrap64 ((i : Int) + 1) = ((i + 1 : Nat) : Int) from by have h1 := HM.out; have h2 := HLT.out; unfold wrap64; omega], ⟨by have := HLT.out; omega⟩, ⟨by rw [HRR.out]; omega⟩, ⟨by rw [HXS.out, HRR.out]; exact iota_set a l i HLT.out⟩, HO, HG⟩
    · have b2 : decide (i < l.length) = false := decide_eq_false hlt
      have HE := Aside0.mk (show i = l.length by have := HI.out; omega)
      have HX2 := Aside0.mk (show xs = iota a l.length by rw [HXS.out, HE.out, List.drop_length, List.append_nil])
      clear hlt
      go_wp2
      go_ret
      exact ⟨_, rfl, by rw [HRR.out, HE.out], by rw [← HX2.out]; exact HO.out, HG.out⟩
theorem elemIota {w : World} {A : Option Addr} {a : Int} {n : Nat} (h : (Kd.int .i64).C w A n (iota a n)) (i : Nat) (h1 : i < n) : ∃ ad, A = some ad ∧ w.cell? (ad.add i) = some (.int .i64 (a + i)) := by
  obtain ⟨ad, x, hA, hx, hc⟩ := elemI h i h1
  rw [iota_get a n i h1] at hx
  injection hx with hx
  subst hx
  exact ⟨ad, hA, hc⟩

set_option maxHeartbeats 4000000 in
set_option maxRecDepth 100000 in
theorem heldInt64S_iota (A : Option Addr) (c n : Nat) (a : Int) (w : World) (hC : (Kd.int .i64).C w A n (iota a n)) (h0 : 0 ≤ a) (h1 : a + n ≤ 1152921504606846976) :
    Calls Try.prog 31 #[.slice A n c, .int .i64 a] w fun e w' => e = .returned (.int .i64 (a + n)) ∧ w = w' := by
  have HM := Aside0.mk hC.2.1
  have HC := Aside0.mk hC
  have H01 := Aside0.mk (And.intro h0 h1)
  clear h0 h1 hC
  go_enter Try.func31, Try.ntmps31
  go_wp2
  go_loopg [1, 5] n (fun gk v1 v5 w' => ∃ (r : Int) (i : Nat), v1 = .int .i64 r ∧ v5 = .int .i64 (i : Int) ∧ Aside0 (i + gk = n) ∧ Aside0 (r = a + i) ∧ w = w')
  case atStart => exact ⟨a, 0, rfl, rfl, ⟨by omega⟩, ⟨by simp⟩, rfl⟩
  case round =>
    obtain ⟨r, i, rfl, rfl, HI, HRR, rfl⟩ := hrel
    by_cases hlt : i < n
    · have b2 : decide (i < n) = true := decide_eq_true hlt
      have b3 : (i : Int) < (n : Int) := by omega
      have HLT := Aside0.mk hlt
      obtain ⟨ad, hA, hc⟩ := elemIota HC.out i hlt
      subst hA
      have HZ := Aside0.mk (show w.cell? (ad.add i) = some (.int .i64 r) by rw [HRR.out]; exact hc)
      clear hlt hc
      go_wp2_with (first | ((with_reducible refine gate_dst (N := 15) rfl ?_); refine load_one rfl 2 _ rfl (ad.add i) rfl (ag2 _) (.int .i64 r) HZ.out ?_))
      go_roundg (n - (i + 1))
      case measure => have := HI.out; have := HLT.out; omega
      case rel => exact ⟨r + 1, i + 1, by rw [show wrap64 (r + 1) = r + 1 from by have h1 := H01.out; have h2 := HLT.out; have h3 := HRR.out; unfold wrap64; omega], by rw [show wrap64 ((i : Int) + 1) = ((i + 1 : Nat) : Int) from by have h1 := HM.out; have h2 := HLT.out; unfold wrap64; omega], ⟨by have := HLT.out; omega⟩, ⟨by rw [HRR.out]; omega⟩, rfl⟩
    · have b2 : decide (i < n) = false := decide_eq_false hlt
      have HE := Aside0.mk (show r = a + n by rw [HRR.out]; have := HI.out; omega)
      clear hlt
      go_wp2
      go_ret
      exact ⟨by rw [HE.out]; rfl, rfl⟩

set_option maxHeartbeats 4000000 in
set_option maxRecDepth 100000 in
theorem markIntsResult_R (base : Nat) (v : Value) (l : List Int) (c a : Int) (w : World) (hR : (Kd.int .i64).R 2 w base (fun _ => True) v l) (hb : base ≤ w.heap.size) (h0 : 0 ≤ a) (h1 : a + l.length ≤ 1152921504606846976) :
    Calls Try.prog 14 #[.agg #[.int .i64 c, v], .int .i64 a] w (MarkR base v l.length a w) := by
  have HR := Aside0.mk hR
  have HBB := Aside0.mk hb
  have H01 := Aside0.mk (And.intro h0 h1)
  have HB := Aside0.mk (Below.refl w.heap.size w)
  clear hR h0 h1 hb
  go_enter Try.func14, Try.ntmps14
  go_wp2_with (first | ((with_reducible refine gate_dst (N := 2) rfl ?_); refine box_big rfl 26 _ rfl [.int .i64 c, v] rfl ?_; intro g2 hg_ w_ hk_ hb_; have n0_ := Aside0.mk (below_step HB.out hb_); have m0_ := Aside0.mk (hk_); have m1_ := Aside0.mk ((show w.heap.size ≤ g2 by rw [hg_]; exact HB.out.size)); clear HB; have HB := n0_; have BK_g2 := m0_; have GE_g2 := m1_; clear n0_ m0_ m1_; clear hg_ hk_ hb_) | ((with_reducible refine gate_dst (N := 6) rfl ?_); refine load_one rfl 24 _ rfl ⟨g2, 1, none⟩ rfl (ag24 _) v (blk_one BK_g2.out rfl) ?_) | ((with_reducible refine gate_dst (N := 8) rfl ?_); refine goesL_ (some 8) rfl rfl Try.func29 (by kernel_rfl) rfl #[v, .int .i64 a] rfl (by (try simp only [List.map_toArray, List.map_cons, List.map_nil]); first | done | rfl) ?_; refine (markInt64S_R base v l a _ (Kd.R_below HR.out HB.out) (Nat.le_trans HBB.out HB.out.size) H01.out.1 H01.out.2).mono ?_; rintro e w_ ⟨r, rfl, hr, hR1, hg1⟩; refine ⟨_, rfl, ?_⟩; have HRR := Aside0.mk hr; have HR1 := Aside0.mk hR1; have HG := Aside0.mk (World.grownBy.trans (grown_of_below HB.out _) hg1); clear hr hR1 hg1))
  go_ret
  exact ⟨_, rfl, HRR.out, HR1.out, HG.out⟩

set_option maxHeartbeats 4000000 in
set_option maxRecDepth 100000 in
theorem heldIntsResult_iota (A : Option Addr) (d n : Nat) (c a : Int) (w : World) (hC : (Kd.int .i64).C w A n (iota a n)) (h0 : 0 ≤ a) (h1 : a + n ≤ 1152921504606846976) :
    Calls Try.prog 15 #[.agg #[.int .i64 c, .slice A n d], .int .i64 a] w fun e w' => e = .returned (.int .i64 (a + n)) ∧ Below w.heap.size w w' := by
  have HC := Aside0.mk hC
  have H01 := Aside0.mk (And.intro h0 h1)
  have HB := Aside0.mk (Below.refl w.heap.size w)
  have b1 : decide (a + (n : Int) < 0) = false := decide_eq_false (by omega)
  have b2 : ¬ (a + (n : Int) < 0) := by omega
  clear hC h0 h1
  go_enter Try.func15, Try.ntmps15
  go_wp2_with (first | ((with_reducible refine gate_dst (N := 2) rfl ?_); refine box_big rfl 26 _ rfl [.int .i64 c, .slice A n d] rfl ?_; intro g2 hg_ w_ hk_ hb_; have n0_ := Aside0.mk (below_step HB.out hb_); have m0_ := Aside0.mk (hk_); have m1_ := Aside0.mk ((show w.heap.size ≤ g2 by rw [hg_]; exact HB.out.size)); clear HB; have HB := n0_; have BK_g2 := m0_; have GE_g2 := m1_; clear n0_ m0_ m1_; clear hg_ hk_ hb_) | ((with_reducible refine gate_dst (N := 6) rfl ?_); refine load_one rfl 24 _ rfl ⟨g2, 1, none⟩ rfl (ag24 _) (.slice A n d) (blk_one BK_g2.out rfl) ?_) | ((with_reducible refine gate_dst (N := 8) rfl ?_); refine goesL_ (some 8) rfl rfl Try.func31 (by kernel_rfl) rfl #[.slice A n d, .int .i64 a] rfl (by (try simp only [List.map_toArray, List.map_cons, List.map_nil]); first | done | rfl) ?_; refine (heldInt64S_iota A d n a _ (Kd.C_below HC.out HB.out) H01.out.1 H01.out.2).mono ?_; rintro e w_ ⟨rfl, rfl⟩; refine ⟨_, rfl, ?_⟩))
  go_ret
  exact ⟨rfl, HB.out⟩

end Go.Proofs.Yteahhohlnoifaaa.QZ
