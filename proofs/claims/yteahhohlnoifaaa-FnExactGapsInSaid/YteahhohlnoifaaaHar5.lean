/- What the laws' function that writes marks into outcomes returns, and what it writes: the count, and nothing but whole numbers and bools of the rows that it is given; counts below 2^60. -/
import Derived.Test.YteahhohlnoifaaaHar4
namespace Go.Proofs.Yteahhohlnoifaaa.QZ
open Go.RowKit Go.Proofs.YteahhohlnoifaaaW.PrintWords Go.Proofs.YteahhohlnoifaaaW.PrintLast Go.Proofs.YteahhohlnoifaaaW.PrintMore Go.Proofs.Yteahhohlnoifaaa.Big
set_option linter.unusedVariables false
set_option linter.unusedSimpArgs false


def mkF (x : S51) : Nat := x.f5.length + x.f6.length + lenSum x.f7
def mkO (x : S53) : Nat := 12 + (mkF x.f1 + x.f2.length + x.f6.length + x.f7.length + x.f8.length)
def pa (ad : Addr) (j : Nat) : Addr := ⟨ad.block, ad.off + (j + 1), none⟩
structure OutCells (w : World) (S : Nat → Prop) (ad : Addr) (x : S53) : Prop where
  blk : S ad.block
  fz0 : w.frozen? ad = false
  fz : ∀ j, j < 18 → w.frozen? (pa ad j) = false
  i0 : ∃ z, w.cell? ad = some (.int .i64 z)
  int : ∀ j, j = 0 ∨ j = 3 ∨ j = 4 ∨ j = 5 ∨ j = 6 ∨ j = 7 ∨ j = 13 ∨ j = 14 → ∃ z, w.cell? (pa ad j) = some (.int .i64 z)
  bool : ∀ j, j = 1 ∨ j = 2 ∨ j = 12 → ∃ b, w.cell? (pa ad j) = some (.bool b)
  s9 : ∃ A c, w.cell? (pa ad 8) = some (.slice A x.f1.f5.length c) ∧ IntRow w S A x.f1.f5.length
  s10 : ∃ A c, w.cell? (pa ad 9) = some (.slice A x.f1.f6.length c) ∧ IntRow w S A x.f1.f6.length
  s11 : ∃ A c, w.cell? (pa ad 10) = some (.slice A x.f1.f7.length c) ∧ RowsOk w S A x.f1.f7
  s12 : ∃ A c, w.cell? (pa ad 11) = some (.slice A x.f2.length c) ∧ IntRow w S A x.f2.length
  s16 : ∃ A c, w.cell? (pa ad 15) = some (.slice A x.f6.length c) ∧ IntRow w S A x.f6.length
  s17 : ∃ A c, w.cell? (pa ad 16) = some (.slice A x.f7.length c) ∧ IntRow w S A x.f7.length
  s18 : ∃ A c, w.cell? (pa ad 17) = some (.slice A x.f8.length c) ∧ IntRow w S A x.f8.length
def OutsOk (w : World) (S : Nat → Prop) (A : Option Addr) (l : List S53) : Prop := l.length ≤ 9223372036854775807 ∧ ∀ i x, l[i]? = some x → ∃ ad, A = some ad ∧ OutCells w S (ad.add (i * 19)) x
section
variable {P : Program} {ops : Array Oper} {rest : List Oper} {o : Oper} {a : Act} {Q : Exit → Act → World → Prop} {W : World}
theorem store_wr_int (hgd : o.guard = none) (hN : o.dst = none) (ty : TypeId) (p : Tmp) (x : Operand) (ho : o.op = .store ty (.tmp p) x) (ad : Addr) (hp : a.eval (.tmp p) = .pointer (some ad)) (u : Int) (hx : a.eval x = .int .i64 u) (S : Nat → Prop) (hS : S ad.block)
    (hc : ∃ z, W.cell? ad = some (.int .i64 z)) (hf : W.frozen? ad = false) (hi : (P.info? ty).map (·.size) = some 1) (h : ∀ w1, Wr W w1 S → wpList P ops Q rest a w1) : wpList P ops Q (o :: rest) a W := by
  obtain ⟨z, hz⟩ := hc
  exact store_one hgd hN ty p x ho ad hp (.int .i64 u) hx rfl rfl _ hz hf hi (h _ ((Wr.refl W S).setInt ⟨z, hz⟩ hS u))
theorem store_wr_bool (hgd : o.guard = none) (hN : o.dst = none) (ty : TypeId) (p : Tmp) (x : Operand) (ho : o.op = .store ty (.tmp p) x) (ad : Addr) (hp : a.eval (.tmp p) = .pointer (some ad)) (u : Bool) (hx : a.eval x = .bool u) (S : Nat → Prop) (hS : S ad.block)
    (hc : ∃ z, W.cell? ad = some (.bool z)) (hf : W.frozen? ad = false) (hi : (P.info? ty).map (·.size) = some 1) (h : ∀ w1, Wr W w1 S → wpList P ops Q rest a w1) : wpList P ops Q (o :: rest) a W := by
  obtain ⟨z, hz⟩ := hc
  exact store_one hgd hN ty p x ho ad hp (.bool u) hx rfl rfl _ hz hf hi (h _ ((Wr.refl W S).setBool ⟨z, hz⟩ hS u))
end
theorem oneCell_of {w : World} {ad : Addr} {u : Value} (h : w.cell? ad = some u) : ∃ v, w.cell? ad = some v := ⟨u, h⟩

set_option maxHeartbeats 8000000 in
set_option maxRecDepth 100000 in
theorem markOutcomeS_wr (A : Option Addr) (c : Nat) (l : List S53) (a : Int) (S : Nat → Prop) (w : World) (hR : OutsOk w S A l) (h0 : 0 ≤ a) (h1 : a + (l.map mkO).sum ≤ 1152921504606840000) :
    Calls Try.prog 13 #[.slice A l.length c, .int .i64 a] w (MarkPost S (l.map mkO).sum a w) := by
  have HR := Aside0.mk hR
  have H01 := Aside0.mk (And.intro h0 h1)
  clear hR h0 h1
  go_enter Try.func13, Try.ntmps13
  go_wp2
  go_loopg [1, 5] l.length (fun gk v1 v5 w' => ∃ (r : Int) (i : Nat), v1 = .int .i64 r ∧ v5 = .int .i64 (i : Int) ∧ Aside0 (i + gk = l.length) ∧ Aside0 (r = a + ((l.take i).map mkO).sum) ∧ Aside0 (Wr w w' S))
  case atStart => exact ⟨a, 0, rfl, rfl, ⟨by omega⟩, ⟨by simp⟩, ⟨Wr.refl _ _⟩⟩
  case round =>
    obtain ⟨r, i, rfl, rfl, HI, HRR, HW⟩ := hrel
    by_cases hlt : i < l.length
    · have b2 : decide (i < l.length) = true := decide_eq_true hlt
      have b3 : (i : Int) < (l.length : Int) := by omega
      have HLT := Aside0.mk hlt
      obtain ⟨x, hxx⟩ : ∃ x, l[i]? = some x := ⟨_, List.getElem?_eq_getElem hlt⟩
      obtain ⟨ad, hA, hO⟩ := HR.out.2 i x hxx
      subst hA
      have HV := HW
      have HO := Aside0.mk hO
      have hs := sum_snoc mkO l i x hxx
      have hm : mkO x = 12 + (x.f1.f5.length + x.f1.f6.length + lenSum x.f1.f7 + x.f2.length + x.f6.length + x.f7.length + x.f8.length) := rfl
      have hle := sum_take_le mkO l (i + 1)
      have hb0 : 0 ≤ r := by have h1 := H01.out; have h2 := HRR.out; omega
      have hb1 : r ≤ 1152921504606840000 := by have h1 := H01.out; have h2 := HRR.out; omega
      have HN := Aside0.mk (show 0 ≤ r ∧ r + 12 + x.f1.f5.length + x.f1.f6.length + lenSum x.f1.f7 + x.f2.length + x.f6.length + x.f7.length + x.f8.length ≤ 1152921504606840000 by have h1 := H01.out; have h2 := HRR.out; omega)
      have HSN := Aside0.mk hs
      obtain ⟨A9, c9, hc9, g9⟩ := hO.s9
      obtain ⟨A10, c10, hc10, g10⟩ := hO.s10
      obtain ⟨A11, c11, hc11, g11⟩ := hO.s11
      obtain ⟨A12, c12, hc12, g12⟩ := hO.s12
      obtain ⟨A16, c16, hc16, g16⟩ := hO.s16
      obtain ⟨A17, c17, hc17, g17⟩ := hO.s17
      obtain ⟨A18, c18, hc18, g18⟩ := hO.s18
      have C9 := Aside0.mk hc9
      have G9 := Aside0.mk g9
      clear hc9 g9
      have C10 := Aside0.mk hc10
      have G10 := Aside0.mk g10
      clear hc10 g10
      have C11 := Aside0.mk hc11
      have G11 := Aside0.mk g11
      clear hc11 g11
      have C12 := Aside0.mk hc12
      have G12 := Aside0.mk g12
      clear hc12 g12
      have C16 := Aside0.mk hc16
      have G16 := Aside0.mk g16
      clear hc16 g16
      have C17 := Aside0.mk hc17
      have G17 := Aside0.mk g17
      clear hc17 g17
      have C18 := Aside0.mk hc18
      have G18 := Aside0.mk g18
      clear hc18 g18
      clear hlt hxx hs hle hO HW hm
      go_wp2_with (first | ((with_reducible refine gate_store (t := 2) (p := 17) rfl ?_); refine store_wr_int rfl rfl 2 17 _ rfl (ad.add (i * 19)) rfl _ rfl S HO.out.blk (HV.out.int _ (HO.out.i0)) ((HV.out.frozen _).trans HO.out.fz0) size2 ?_; intro w_ hw_; have HVn := Aside0.mk (HV.out.trans hw_); clear HV hw_; have HV := HVn; clear HVn) | ((with_reducible refine gate_store (t := 2) (p := 25) rfl ?_); refine store_wr_int rfl rfl 2 25 _ rfl ⟨(ad.add (i * 19)).block, (ad.add (i * 19)).off + 1, none⟩ rfl _ rfl S HO.out.blk (HV.out.int _ (HO.out.int 0 (by decide))) ((HV.out.frozen _).trans (HO.out.fz 0 (by decide))) size2 ?_; intro w_ hw_; have HVn := Aside0.mk (HV.out.trans hw_); clear HV hw_; have HV := HVn; clear HVn) | ((with_reducible refine gate_store (t := 4) (p := 35) rfl ?_); refine store_wr_bool rfl rfl 4 35 _ rfl ⟨(ad.add (i * 19)).block, (ad.add (i * 19)).off + 2, none⟩ rfl _ rfl S HO.out.blk (HV.out.bool _ (HO.out.bool 1 (by decide))) ((HV.out.frozen _).trans (HO.out.fz 1 (by decide))) size4 ?_; intro w_ hw_; have HVn := Aside0.mk (HV.out.trans hw_); clear HV hw_; have HV := HVn; clear HVn) | ((with_reducible refine gate_store (t := 4) (p := 45) rfl ?_); refine store_wr_bool rfl rfl 4 45 _ rfl ⟨(ad.add (i * 19)).block, (ad.add (i * 19)).off + 3, none⟩ rfl _ rfl S HO.out.blk (HV.out.bool _ (HO.out.bool 2 (by decide))) ((HV.out.frozen _).trans (HO.out.fz 2 (by decide))) size4 ?_; intro w_ hw_; have HVn := Aside0.mk (HV.out.trans hw_); clear HV hw_; have HV := HVn; clear HVn) | ((with_reducible refine gate_store (t := 2) (p := 53) rfl ?_); refine store_wr_int rfl rfl 2 53 _ rfl ⟨(ad.add (i * 19)).block, (ad.add (i * 19)).off + 4, none⟩ rfl _ rfl S HO.out.blk (HV.out.int _ (HO.out.int 3 (by decide))) ((HV.out.frozen _).trans (HO.out.fz 3 (by decide))) size2 ?_; intro w_ hw_; have HVn := Aside0.mk (HV.out.trans hw_); clear HV hw_; have HV := HVn; clear HVn) | ((with_reducible refine gate_store (t := 2) (p := 61) rfl ?_); refine store_wr_int rfl rfl 2 61 _ rfl ⟨(ad.add (i * 19)).block, (ad.add (i * 19)).off + 5, none⟩ rfl _ rfl S HO.out.blk (HV.out.int _ (HO.out.int 4 (by decide))) ((HV.out.frozen _).trans (HO.out.fz 4 (by decide))) size2 ?_; intro w_ hw_; have HVn := Aside0.mk (HV.out.trans hw_); clear HV hw_; have HV := HVn; clear HVn) | ((with_reducible refine gate_store (t := 2) (p := 69) rfl ?_); refine store_wr_int rfl rfl 2 69 _ rfl ⟨(ad.add (i * 19)).block, (ad.add (i * 19)).off + 6, none⟩ rfl _ rfl S HO.out.blk (HV.out.int _ (HO.out.int 5 (by decide))) ((HV.out.frozen _).trans (HO.out.fz 5 (by decide))) size2 ?_; intro w_ hw_; have HVn := Aside0.mk (HV.out.trans hw_); clear HV hw_; have HV := HVn; clear HVn) | ((with_reducible refine gate_store (t := 2) (p := 77) rfl ?_); refine store_wr_int rfl rfl 2 77 _ rfl ⟨(ad.add (i * 19)).block, (ad.add (i * 19)).off + 7, none⟩ rfl _ rfl S HO.out.blk (HV.out.int _ (HO.out.int 6 (by decide))) ((HV.out.frozen _).trans (HO.out.fz 6 (by decide))) size2 ?_; intro w_ hw_; have HVn := Aside0.mk (HV.out.trans hw_); clear HV hw_; have HV := HVn; clear HVn) | ((with_reducible refine gate_store (t := 2) (p := 85) rfl ?_); refine store_wr_int rfl rfl 2 85 _ rfl ⟨(ad.add (i * 19)).block, (ad.add (i * 19)).off + 8, none⟩ rfl _ rfl S HO.out.blk (HV.out.int _ (HO.out.int 7 (by decide))) ((HV.out.frozen _).trans (HO.out.fz 7 (by decide))) size2 ?_; intro w_ hw_; have HVn := Aside0.mk (HV.out.trans hw_); clear HV hw_; have HV := HVn; clear HVn) | ((with_reducible refine gate_dst (N := 93) rfl ?_); refine load_one rfl 24 _ rfl ⟨(ad.add (i * 19)).block, (ad.add (i * 19)).off + 9, none⟩ rfl (ag24 _) (.slice A9 x.f1.f5.length c9) (HV.out.slc _ _ _ _ C9.out) ?_) | ((with_reducible refine gate_dst (N := 95) rfl ?_); refine goesL_ (some 95) rfl rfl Try.func29 (by kernel_rfl) rfl #[.slice A9 x.f1.f5.length c9, .int .i64 (r + 1 + 1 + 1 + 1 + 1 + 1 + 1 + 1 + 1)] rfl (by (try simp only [List.map_toArray, List.map_cons, List.map_nil]); first | done | rfl) ?_; (refine (markInt64S_wr A9 c9 x.f1.f5.length (r + 1 + 1 + 1 + 1 + 1 + 1 + 1 + 1 + 1) S _ (G9.out.wr HV.out) (by omega) (by have h1 := HN.out; omega)).mono ?_); rintro e w_ ⟨r1, rfl, hr_, hw_⟩; refine ⟨_, rfl, ?_⟩; have HRr1 := Aside0.mk hr_; have HVn := Aside0.mk (HV.out.trans hw_); have h0r1 : 0 ≤ r1 := (by have h1 := HN.out; omega); have h1r1 : r1 ≤ 1152921504606846976 := (by have h1 := HN.out; omega); clear HV hr_ hw_; have HV := HVn; clear HVn) | ((with_reducible refine gate_dst (N := 101) rfl ?_); refine load_one rfl 24 _ rfl ⟨(ad.add (i * 19)).block, (ad.add (i * 19)).off + 10, none⟩ rfl (ag24 _) (.slice A10 x.f1.f6.length c10) (HV.out.slc _ _ _ _ C10.out) ?_) | ((with_reducible refine gate_dst (N := 103) rfl ?_); refine goesL_ (some 103) rfl rfl Try.func29 (by kernel_rfl) rfl #[.slice A10 x.f1.f6.length c10, .int .i64 r1] rfl (by (try simp only [List.map_toArray, List.map_cons, List.map_nil]); first | done | rfl) ?_; (refine (markInt64S_wr A10 c10 x.f1.f6.length r1 S _ (G10.out.wr HV.out) (by omega) (by have h1 := HN.out; have h2 := HRr1.out; omega)).mono ?_); rintro e w_ ⟨r2, rfl, hr_, hw_⟩; refine ⟨_, rfl, ?_⟩; have HRr2 := Aside0.mk hr_; have HVn := Aside0.mk (HV.out.trans hw_); have h0r2 : 0 ≤ r2 := (by have h1 := HN.out; omega); have h1r2 : r2 ≤ 1152921504606846976 := (by have h1 := HN.out; have e1 := HRr1.out; omega); clear HV hr_ hw_; have HV := HVn; clear HVn) | ((with_reducible refine gate_dst (N := 109) rfl ?_); refine load_one rfl 35 _ rfl ⟨(ad.add (i * 19)).block, (ad.add (i * 19)).off + 11, none⟩ rfl (ag35 _) (.slice A11 x.f1.f7.length c11) (HV.out.slc _ _ _ _ C11.out) ?_) | ((with_reducible refine gate_dst (N := 111) rfl ?_); refine goesL_ (some 111) rfl rfl Try.func30 (by kernel_rfl) rfl #[.slice A11 x.f1.f7.length c11, .int .i64 r2] rfl (by (try simp only [List.map_toArray, List.map_cons, List.map_nil]); first | done | rfl) ?_; (refine (markInt64SS_wr A11 c11 x.f1.f7 r2 S _ (G11.out.wr HV.out) (by omega) (by have h1 := HN.out; have h2 := HRr1.out; have h3 := HRr2.out; omega)).mono ?_); rintro e w_ ⟨r3, rfl, hr_, hw_⟩; refine ⟨_, rfl, ?_⟩; have HRr3 := Aside0.mk hr_; have HVn := Aside0.mk (HV.out.trans hw_); have h0r3 : 0 ≤ r3 := (by have h1 := HN.out; omega); have h1r3 : r3 ≤ 1152921504606846976 := (by have h1 := HN.out; have e1 := HRr1.out; have e2 := HRr2.out; omega); clear HV hr_ hw_; have HV := HVn; clear HVn) | ((with_reducible refine gate_dst (N := 116) rfl ?_); refine load_one rfl 24 _ rfl ⟨(ad.add (i * 19)).block, (ad.add (i * 19)).off + 12, none⟩ rfl (ag24 _) (.slice A12 x.f2.length c12) (HV.out.slc _ _ _ _ C12.out) ?_) | ((with_reducible refine gate_dst (N := 118) rfl ?_); refine goesL_ (some 118) rfl rfl Try.func29 (by kernel_rfl) rfl #[.slice A12 x.f2.length c12, .int .i64 r3] rfl (by (try simp only [List.map_toArray, List.map_cons, List.map_nil]); first | done | rfl) ?_; (refine (markInt64S_wr A12 c12 x.f2.length r3 S _ (G12.out.wr HV.out) (by omega) (by have h1 := HN.out; have h2 := HRr1.out; have h3 := HRr2.out; have h4 := HRr3.out; omega)).mono ?_); rintro e w_ ⟨r4, rfl, hr_, hw_⟩; refine ⟨_, rfl, ?_⟩; have HRr4 := Aside0.mk hr_; have HVn := Aside0.mk (HV.out.trans hw_); have h0r4 : 0 ≤ r4 := (by have h1 := HN.out; omega); have h1r4 : r4 ≤ 1152921504606846976 := (by have h1 := HN.out; have e1 := HRr1.out; have e2 := HRr2.out; have e3 := HRr3.out; omega); clear HV hr_ hw_; have HV := HVn; clear HVn) | ((with_reducible refine gate_store (t := 4) (p := 125) rfl ?_); refine store_wr_bool rfl rfl 4 125 _ rfl ⟨(ad.add (i * 19)).block, (ad.add (i * 19)).off + 13, none⟩ rfl _ rfl S HO.out.blk (HV.out.bool _ (HO.out.bool 12 (by decide))) ((HV.out.frozen _).trans (HO.out.fz 12 (by decide))) size4 ?_; intro w_ hw_; have HVn := Aside0.mk (HV.out.trans hw_); clear HV hw_; have HV := HVn; clear HVn) | ((with_reducible refine gate_store (t := 2) (p := 132) rfl ?_); refine store_wr_int rfl rfl 2 132 _ rfl ⟨(ad.add (i * 19)).block, (ad.add (i * 19)).off + 14, none⟩ rfl _ rfl S HO.out.blk (HV.out.int _ (HO.out.int 13 (by decide))) ((HV.out.frozen _).trans (HO.out.fz 13 (by decide))) size2 ?_; intro w_ hw_; have HVn := Aside0.mk (HV.out.trans hw_); clear HV hw_; have HV := HVn; clear HVn) | ((with_reducible refine gate_store (t := 2) (p := 139) rfl ?_); refine store_wr_int rfl rfl 2 139 _ rfl ⟨(ad.add (i * 19)).block, (ad.add (i * 19)).off + 15, none⟩ rfl _ rfl S HO.out.blk (HV.out.int _ (HO.out.int 14 (by decide))) ((HV.out.frozen _).trans (HO.out.fz 14 (by decide))) size2 ?_; intro w_ hw_; have HVn := Aside0.mk (HV.out.trans hw_); clear HV hw_; have HV := HVn; clear HVn) | ((with_reducible refine gate_dst (N := 146) rfl ?_); refine load_one rfl 24 _ rfl ⟨(ad.add (i * 19)).block, (ad.add (i * 19)).off + 16, none⟩ rfl (ag24 _) (.slice A16 x.f6.length c16) (HV.out.slc _ _ _ _ C16.out) ?_) | ((with_reducible refine gate_dst (N := 148) rfl ?_); refine goesL_ (some 148) rfl rfl Try.func29 (by kernel_rfl) rfl #[.slice A16 x.f6.length c16, .int .i64 (r4 + 1 + 1 + 1)] rfl (by (try simp only [List.map_toArray, List.map_cons, List.map_nil]); first | done | rfl) ?_; (refine (markInt64S_wr A16 c16 x.f6.length (r4 + 1 + 1 + 1) S _ (G16.out.wr HV.out) (by omega) (by have h1 := HN.out; have h2 := HRr1.out; have h3 := HRr2.out; have h4 := HRr3.out; have h5 := HRr4.out; omega)).mono ?_); rintro e w_ ⟨r5, rfl, hr_, hw_⟩; refine ⟨_, rfl, ?_⟩; have HRr5 := Aside0.mk hr_; have HVn := Aside0.mk (HV.out.trans hw_); have h0r5 : 0 ≤ r5 := (by have h1 := HN.out; omega); have h1r5 : r5 ≤ 1152921504606846976 := (by have h1 := HN.out; have e1 := HRr1.out; have e2 := HRr2.out; have e3 := HRr3.out; have e4 := HRr4.out; omega); clear HV hr_ hw_; have HV := HVn; clear HVn) | ((with_reducible refine gate_dst (N := 153) rfl ?_); refine load_one rfl 24 _ rfl ⟨(ad.add (i * 19)).block, (ad.add (i * 19)).off + 17, none⟩ rfl (ag24 _) (.slice A17 x.f7.length c17) (HV.out.slc _ _ _ _ C17.out) ?_) | ((with_reducible refine gate_dst (N := 155) rfl ?_); refine goesL_ (some 155) rfl rfl Try.func29 (by kernel_rfl) rfl #[.slice A17 x.f7.length c17, .int .i64 r5] rfl (by (try simp only [List.map_toArray, List.map_cons, List.map_nil]); first | done | rfl) ?_; (refine (markInt64S_wr A17 c17 x.f7.length r5 S _ (G17.out.wr HV.out) (by omega) (by have h1 := HN.out; have h2 := HRr1.out; have h3 := HRr2.out; have h4 := HRr3.out; have h5 := HRr4.out; have h6 := HRr5.out; omega)).mono ?_); rintro e w_ ⟨r6, rfl, hr_, hw_⟩; refine ⟨_, rfl, ?_⟩; have HRr6 := Aside0.mk hr_; have HVn := Aside0.mk (HV.out.trans hw_); have h0r6 : 0 ≤ r6 := (by have h1 := HN.out; omega); have h1r6 : r6 ≤ 1152921504606846976 := (by have h1 := HN.out; have e1 := HRr1.out; have e2 := HRr2.out; have e3 := HRr3.out; have e4 := HRr4.out; have e5 := HRr5.out; omega); clear HV hr_ hw_; have HV := HVn; clear HVn) | ((with_reducible refine gate_dst (N := 160) rfl ?_); refine load_one rfl 24 _ rfl ⟨(ad.add (i * 19)).block, (ad.add (i * 19)).off + 18, none⟩ rfl (ag24 _) (.slice A18 x.f8.length c18) (HV.out.slc _ _ _ _ C18.out) ?_) | ((with_reducible refine gate_dst (N := 162) rfl ?_); refine goesL_ (some 162) rfl rfl Try.func29 (by kernel_rfl) rfl #[.slice A18 x.f8.length c18, .int .i64 r6] rfl (by (try simp only [List.map_toArray, List.map_cons, List.map_nil]); first | done | rfl) ?_; (refine (markInt64S_wr A18 c18 x.f8.length r6 S _ (G18.out.wr HV.out) (by omega) (by have h1 := HN.out; have h2 := HRr1.out; have h3 := HRr2.out; have h4 := HRr3.out; have h5 := HRr4.out; have h6 := HRr5.out; have h7 := HRr6.out; omega)).mono ?_); rintro e w_ ⟨r7, rfl, hr_, hw_⟩; refine ⟨_, rfl, ?_⟩; have HRr7 := Aside0.mk hr_; have HVn := Aside0.mk (HV.out.trans hw_); have h0r7 : 0 ≤ r7 := (by have h1 := HN.out; omega); have h1r7 : r7 ≤ 1152921504606846976 := (by have h1 := HN.out; have e1 := HRr1.out; have e2 := HRr2.out; have e3 := HRr3.out; have e4 := HRr4.out; have e5 := HRr5.out; have e6 := HRr6.out; omega); clear HV hr_ hw_; have HV := HVn; clear HVn))
      go_roundg (l.length - (i + 1))
      case measure => have := HI.out; have := HLT.out; omega
      case rel => exact ⟨_, i + 1, rfl, by rw [show wrap64 ((i : Int) + 1) = ((i + 1 : Nat) : Int) from by have h1 := HR.out.1; have h2 := HLT.out; unfold wrap64; omega], ⟨by have := HLT.out; omega⟩, ⟨by rw [HSN.out, HRr7.out, HRr6.out, HRr5.out, HRr4.out, HRr3.out, HRr2.out, HRr1.out, HRR.out]; unfold mkO mkF; omega⟩, HV⟩
    · have b2 : decide (i < l.length) = false := decide_eq_false hlt
      have HLE := Aside0.mk (show l.take i = l from List.take_of_length_le (by have := HI.out; omega))
      clear hlt
      go_wp2
      go_ret
      exact ⟨_, rfl, by rw [HRR.out, HLE.out], HW.out⟩

end Go.Proofs.Yteahhohlnoifaaa.QZ
