/- Laws of this session's own on structs of many cells and on single cells: such a struct is loaded, made and stored as one row of cells, whatever the cells are; a world in which only whole numbers and bools of some blocks have turned; no conditions. -/
import Derived.Test.YtknhjeabldlimaaDoorWMore
namespace Go.Proofs.YtknhjeabldlimaaDoor.Big
open Go.RowKit Go.Proofs.YtknhjeabldlimaaDoorW.PrintWords Go.Proofs.YtknhjeabldlimaaDoorW.PrintLast Go.Proofs.YtknhjeabldlimaaDoorW.PrintMore
set_option linter.unusedVariables false

/-- One block has been written, nothing else. -/
structure Put (w w' : World) (g : Nat) : Prop where
  os : w'.os = w.os
  tape : w'.tape = w.tape
  output : w'.output = w.output
  size : w'.heap.size = w.heap.size
  other : ∀ k, k ≠ g → w'.heap[k]? = w.heap[k]?
theorem Put.below {w0 w w' : World} {b g : Nat} (h : Put w w' g) (hB : Below b w0 w) (hb : b ≤ g) : Below b w0 w' :=
  ⟨h.os.trans hB.os, h.tape.trans hB.tape, h.output.trans hB.output, by rw [h.size]; exact hB.size, fun k hk => (h.other k (by omega)).trans (hB.block k hk)⟩
theorem Put.blk {w w' : World} {g k : Nat} {o : Obj} (h : Put w w' g) (hb : w.heap[k]? = some o) (hne : k ≠ g) : w'.heap[k]? = some o := (h.other k hne).trans hb
theorem Put.R {α : Type} {d : Kd α} {e : Nat} {w w' : World} {base g : Nat} {ok : Nat → Prop} {v : Value} {xs : List α} (h : Put w w' g) (hR : d.R e w base ok v xs) (hne : ∀ k, ok k → k ≠ g) : d.R e w' base ok v xs :=
  Kd.R_step hR (fun k hk _ => h.other k (hne k hk))
theorem Put.R_types {α : Type} {d : Kd α} {e t : Nat} {w w' : World} {base g : Nat} {ok : Nat → Prop} {v : Value} {xs : List α} {cells : Array Value} (h : Put w w' g) (hR : d.R e w base ok v xs) (hb : w.heap[g]? = some (.cells cells t (0, 0))) (ht : ∀ q, q ∈ e :: d.E → q ≠ t) : d.R e w' base ok v xs :=
  Kd.R_mono (h.R (Kd.R_types hR hb ht) (fun _ hk => hk.2)) (fun _ hk => hk.1)
theorem Put.M_types {α : Type} {d : Kd α} {t : Nat} {w w' : World} {base g : Nat} {ok : Nat → Prop} {x : α} {cs : List Value} {cells : Array Value} (h : Put w w' g) (hM : d.M w base ok x cs) (hb : w.heap[g]? = some (.cells cells t (0, 0))) (ht : ∀ q, q ∈ d.E → q ≠ t) : d.M w' base ok x cs :=
  d.M_mono (fun _ hk => hk.1) (d.M_move (fun k hk => h.other k hk.2) (Kd.M_types hM hb ht))
theorem blk_grownN {w w' : World} {g : Nat} {o : Obj} {row : Option Nat} (hb : w.heap[g]? = some o) (hg : w.grownBy w' row) (hne : some g ≠ row) : w'.heap[g]? = some o := (hg.block g (blk_lt hb) hne).trans hb
theorem cell_add {w : World} {ad : Addr} {cs : List Value} (h : ∀ j u, cs[j]? = some u → w.cell? (ad.add j) = some u) (j : Nat) {u : Value} (hj : cs[j + 1]? = some u) : w.cell? ⟨ad.block, ad.off + (j + 1), none⟩ = some u := by
  have := h (j + 1) u hj
  simpa [Addr.add] using this
theorem cell_add0 {w : World} {ad : Addr} {cs : List Value} (h : ∀ j u, cs[j]? = some u → w.cell? (ad.add j) = some u) {u : Value} (hj : cs[0]? = some u) : w.cell? ad = some u := by
  have := h 0 u hj
  simpa [Addr.add] using this

/-- What stands in a block from a place on. -/
def D (cur : Array Value) (off : Nat) (seg : List Value) : Prop := ∀ j u, seg[j]? = some u → cur[off + j]? = some u
theorem D.other {cur cur' : Array Value} {off j0 n0 : Nat} {seg : List Value} (h : D cur off seg) (ho : ∀ i, i < j0 ∨ j0 + n0 ≤ i → cur'[i]? = cur[i]?) (hs : off + seg.length ≤ j0 ∨ j0 + n0 ≤ off) : D cur' off seg := by
  intro j u hj
  have hl := (List.getElem?_eq_some_iff.1 hj).1
  rw [ho _ (by omega)]
  exact h j u hj
theorem D.nil (cur : Array Value) (off : Nat) : D cur off [] := fun j u h => by simp at h
theorem D.append {cur : Array Value} {off off2 : Nat} {s1 s2 : List Value} (h1 : D cur off s1) (h2 : D cur off2 s2) (e : off2 = off + s1.length) : D cur off (s1 ++ s2) := by
  subst e
  intro j u hj
  by_cases hl : j < s1.length
  · rw [List.getElem?_append_left hl] at hj; exact h1 j u hj
  · rw [List.getElem?_append_right (by omega)] at hj
    have := h2 _ u hj
    rwa [show off + s1.length + (j - s1.length) = off + j by omega] at this
theorem D.cells {cur : Array Value} {cs : List Value} {W : World} {g t : Nat} (hb : W.heap[g]? = some (.cells cur t (0, 0))) (h : D cur 0 cs) : ∀ j u, cs[j]? = some u → W.cell? ((⟨g, 0, none⟩ : Addr).add j) = some u := by
  intro j u hj
  rw [add_plain, blk_cell hb j]
  have := h j u hj
  rwa [Nat.zero_add] at this

section
variable {P : Program} {ops : Array Oper} {rest : List Oper} {o : Oper} {a : Act} {Q : Exit → Act → World → Prop} {W : World}

/-- A struct is read out of memory. -/
theorem load_big (hgd : o.guard = none) (ty : TypeId) (x : Operand) (ho : o.op = .load ty x) (ad : Addr) (hx : a.eval x = .pointer (some ad)) (fs : Array Field) (hu : P.underlying ty = some (.struct fs)) (n : Nat) (hi : (P.info? ty).map (·.size) = some n)
    (cs : List Value) (hl : cs.length = n) (hc : ∀ j u, cs[j]? = some u → W.cell? (ad.add j) = some u)
    (h : wpList P ops Q rest (a.put o.dst (.agg cs.toArray)) W) : wpList P ops Q (o :: rest) a W := by
  refine wpList_plain hgd fun K hK => ?_
  have hlc := run_loadCells_list (P := P) W ad cs hc
  obtain ⟨i, hq, hs⟩ := Option.map_eq_some_iff.1 hi
  have hagg : (isAgg ty).run P W = .ok true W := by
    unfold isAgg
    rw [Sem.run_bind, run_underlying hu W]
    rfl
  have hv : (loadVar ty ad).run P W = .ok (.agg cs.toArray) W := by
    simp [loadVar, Sem.run_bind, hagg, sizeOf, typeInfo, hq, hs, ← hl, hlc]
  unfold Oper.wp execOp
  simp only [ho, hx, Instr.loadAt, Instr.sureAddr, Sem.run_bind, Sem.run_pure, Result.andThen_ok, hv]
  exact hK _ _ h

theorem run_load_big (ty : TypeId) (x : Operand) (ho : o.op = .load ty x) (ad : Addr) (hx : a.eval x = .pointer (some ad)) (fs : Array Field) (hu : P.underlying ty = some (.struct fs)) (n : Nat) (hi : (P.info? ty).map (·.size) = some n)
    (cs : List Value) (hl : cs.length = n) (hc : ∀ j u, cs[j]? = some u → W.cell? (ad.add j) = some u) : (execOp a.eval o).run P W = .ok (.value (.agg cs.toArray)) W := by
  have hlc := run_loadCells_list (P := P) W ad cs hc
  obtain ⟨i, hq, hs⟩ := Option.map_eq_some_iff.1 hi
  have hagg : (isAgg ty).run P W = .ok true W := by
    unfold isAgg
    rw [Sem.run_bind, run_underlying hu W]
    rfl
  have hv : (loadVar ty ad).run P W = .ok (.agg cs.toArray) W := by
    simp [loadVar, Sem.run_bind, hagg, sizeOf, typeInfo, hq, hs, ← hl, hlc]
  unfold execOp
  simp only [ho, hx, Instr.loadAt, Instr.sureAddr, Sem.run_bind, Sem.run_pure, Result.andThen_ok, hv]
/-- What a struct's cells at a place are, in a world. -/
def At (cs : List Value) (ad : Addr) (W : World) : Prop := ∀ j u, cs[j]? = some u → W.cell? (ad.add j) = some u
theorem At.below {cs : List Value} {ad : Addr} {w W : World} (h : At cs ad w) (hb : Below w.heap.size w W) : At cs ad W := fun j u hj => pw_cell_below hb (h j u hj)

/-- One cell is read out of memory. -/
theorem load_one (hgd : o.guard = none) (ty : TypeId) (x : Operand) (ho : o.op = .load ty x) (ad : Addr) (hx : a.eval x = .pointer (some ad)) (hag : (isAgg ty).run P W = .ok false W) (u : Value) (hc : W.cell? ad = some u)
    (h : wpList P ops Q rest (a.put o.dst u) W) : wpList P ops Q (o :: rest) a W := by
  refine wpList_plain hgd fun K hK => ?_
  have hv : (loadVar ty ad).run P W = .ok u W := by
    simp [loadVar, Sem.run_bind, hag, hc]
  unfold Oper.wp execOp
  simp only [ho, hx, Instr.loadAt, Instr.sureAddr, Sem.run_bind, Sem.run_pure, Result.andThen_ok, hv]
  exact hK _ _ h

/-- A variable of a struct type is made. -/
theorem alloc_big (hgd : o.guard = none) (ty : TypeId) (ho : o.op = .alloc ty) (n : Nat) (hz : ∃ z : Array Value, z.size = n ∧ (P.info? ty).map (·.zero) = some (some (.agg z)))
    (h : ∀ g, g = W.heap.size → ∀ (z : Array Value) w1, z.size = n → w1.heap[g]? = some (.cells z ty (0, 0)) → Below W.heap.size W w1 → wpList P ops Q rest (a.put o.dst (.pointer (some ⟨g, 0, none⟩))) w1) : wpList P ops Q (o :: rest) a W := by
  obtain ⟨z, hzs, hzi⟩ := hz
  obtain ⟨i, hq, hs⟩ := Option.map_eq_some_iff.1 hzi
  refine Kd.event_run (v := .pointer (some ⟨W.heap.size, 0, none⟩)) (w1 := W.alloc (.cells z ty)) hgd ?_ (h _ rfl z _ hzs (blk_new W _) (below_alloc (Below.refl _ _) _))
  unfold execOp
  simp [ho, Instr.alloc, zeroValue, typeInfo, hq, hs, newVar, newRow, newObj, Value.cells]
  rfl

/-- A struct value is laid into a variable of its own. -/
theorem box_big (hgd : o.guard = none) (ty : TypeId) (x : Operand) (ho : o.op = .box ty x) (cs : List Value) (hx : a.eval x = .agg cs.toArray)
    (h : ∀ g, g = W.heap.size → ∀ w1, w1.heap[g]? = some (.cells cs.toArray ty (0, 0)) → Below W.heap.size W w1 → wpList P ops Q rest (a.put o.dst (.pointer (some ⟨g, 0, none⟩))) w1) : wpList P ops Q (o :: rest) a W := by
  refine Kd.event_run (v := .pointer (some ⟨W.heap.size, 0, none⟩)) (w1 := W.alloc (.cells cs.toArray ty)) hgd ?_ (h _ rfl _ (blk_new W _) (below_alloc (Below.refl _ _) _))
  unfold execOp
  simp [ho, hx, Instr.box, newVar, newRow, newObj, Value.cells]
  rfl

/-- A struct is written into a variable of its own. -/
theorem store_big (hgd : o.guard = none) (hN : o.dst = none) (ty : TypeId) (p : Tmp) (x : Operand) (ho : o.op = .store ty (.tmp p) x) (g : Nat) (hp : a.eval (.tmp p) = .pointer (some ⟨g, 0, none⟩)) (cs : List Value) (hx : a.eval x = .agg cs.toArray)
    (old : Array Value) (t : TypeId) (hg : W.heap[g]? = some (.cells old t (0, 0))) (hi : (P.info? ty).map (·.size) = some cs.length) (hs : old.size = cs.length) (h1 : ∀ u ∈ cs, u.oneCell' = true)
    (h : ∀ w1, w1.heap[g]? = some (.cells cs.toArray t (0, 0)) → Put W w1 g → wpList P ops Q rest a w1) : wpList P ops Q (o :: rest) a W := by
  refine store_event hgd ho hN (w1 := W.setRow g cs.toArray) ?_ (fun w' hw' => hw' ▸ h _ (setRow_heap W g old _ t _ hg) ⟨rfl, rfl, rfl, by simp, fun k hk => setRow_other W g k _ hk⟩)
  have hr := run_storeVar_row (P := P) W g t ty old cs.toArray hg (by simpa using hi) (by simpa using hs) (by rw [Array.all_eq_true_iff_forall_mem]; intro u hu; exact h1 u (by simpa using hu))
  unfold execOp
  simp only [ho, hp, hx, Instr.storeAt, Instr.sureAddr, Sem.run_bind, Sem.run_pure, Result.andThen_ok, hr]

/-- A run of cells of a variable's block is written. -/
theorem store_seg (hgd : o.guard = none) (hN : o.dst = none) (ty : TypeId) (p : Tmp) (x : Operand) (ho : o.op = .store ty (.tmp p) x) (g j : Nat) (hp : a.eval (.tmp p) = .pointer (some ⟨g, j, none⟩)) (u : Value) (hx : a.eval x = u) (seg : List Value) (hu : u.cells.toList = seg)
    (cur : Array Value) (t : TypeId) (hg : W.heap[g]? = some (.cells cur t (0, 0))) (hi : (P.info? ty).map (·.size) = some seg.length) (hfit : j + seg.length ≤ cur.size) (h1 : ∀ q ∈ seg, q.oneCell' = true)
    (h : ∀ w1 (cur' : Array Value), w1.heap[g]? = some (.cells cur' t (0, 0)) → cur'.size = cur.size → (∀ i q, seg[i]? = some q → cur'[j + i]? = some q) → (∀ i, i < j ∨ j + seg.length ≤ i → cur'[i]? = cur[i]?) → Put W w1 g → wpList P ops Q rest a w1) : wpList P ops Q (o :: rest) a W := by
  have hr := run_store_run (P := P) (o := j) ty u seg hg hu hi hfit h1
  obtain ⟨cur', h3, h4, h5⟩ := setCells_row seg j W cur hg hfit
  obtain ⟨s1, s2, s3, s4⟩ := setCells_same g seg j W
  have hlt : (cur.toList.take j).length = j := by rw [List.length_take, Array.length_toList]; omega
  refine store_event hgd ho hN (w1 := W.setCells g j seg) ?_ (fun w' hw' => hw' ▸ h _ cur' h3 h4 ?_ ?_ ⟨s1, s2, s3, s4, fun k hk => setCells_far seg j k hk⟩)
  · unfold execOp
    simp only [ho, hp, hx, Sem.run_bind, Sem.run_pure, Result.andThen_ok, hr]
  · intro i q hq
    have hil := (List.getElem?_eq_some_iff.1 hq).1
    rw [← Array.getElem?_toList, h5, List.append_assoc, List.getElem?_append_right (by omega), hlt, List.getElem?_append_left (by omega), show j + i - j = i by omega, hq]
  · intro i hi2
    rw [← Array.getElem?_toList, h5, ← Array.getElem?_toList, List.append_assoc]
    rcases hi2 with hi2 | hi2
    · rw [List.getElem?_append_left (by omega), List.getElem?_take, if_pos hi2]
    · rw [List.getElem?_append_right (by omega), hlt, List.getElem?_append_right (by omega), List.getElem?_drop, show j + seg.length + (i - j - seg.length) = i by omega]

/-- One cell is written: the world is the one with the cell set. -/
theorem store_one (hgd : o.guard = none) (hN : o.dst = none) (ty : TypeId) (p : Tmp) (x : Operand) (ho : o.op = .store ty (.tmp p) x) (ad : Addr) (hp : a.eval (.tmp p) = .pointer (some ad)) (u : Value) (hx : a.eval x = u) (hu : u.cells.toList = [u]) (h1 : u.oneCell' = true)
    (old : Value) (hc : W.cell? ad = some old) (hf : W.frozen? ad = false) (hi : (P.info? ty).map (·.size) = some 1)
    (h : wpList P ops Q rest a (W.setCell ad u)) : wpList P ops Q (o :: rest) a W := by
  refine store_event hgd ho hN (w1 := W.setCell ad u) ?_ (fun w' hw' => hw' ▸ h)
  obtain ⟨i, hq, hs⟩ := Option.map_eq_some_iff.1 hi
  have hsz : u.cells.size = 1 := by rw [← Array.length_toList, hu]; rfl
  have ha : ad.add 0 = ad := by simp [Addr.add]
  unfold execOp
  simp [ho, hp, hx, Instr.storeAt, Instr.sureAddr, storeVar, sizeOf, typeInfo, hq, hs, hsz, hu, storeCells, ha, run_store P W ad u _ h1, hc, hf]

/-- An element of a row of the call's own is written whole. -/
theorem store_elem {α : Type} (d : Kd α) {w0 : World} (base : Nat) (hN : o.dst = none) (hgd : o.guard = none) (t : TypeId) (p x : Operand) (ho : o.op = .store t p x) (e : TypeId) {g n cap o' : Nat} (i : Nat) (xs : List α) (z x' : α) (u : Value) (seg : List Value)
    (haddr : a.eval p = .pointer (some ⟨g, o', none⟩)) (hoff : o' = i * d.sz) (hx : a.eval x = u) (hu : u.cells.toList = seg) (ht : (P.info? t).map (·.size) = some d.sz)
    (HO : d.R e W base (fun _ => True) (.slice (some ⟨g, 0, none⟩) n cap) xs) (hi : i < xs.length) (hM : d.M W base (fun _ => True) x' seg) (hE : ∀ q, q ∈ d.E → q ≠ e) (HB : Below base w0 W)
    (h : ∀ w1, d.R e w1 base (fun _ => True) (.slice (some ⟨g, 0, none⟩) n cap) (xs.set i x') → Below base w0 w1 → W.grownBy w1 (some g) → wpList P ops Q rest a w1) : wpList P ops Q (o :: rest) a W := by
  have hn : n = xs.length := (Kd.R_reads' HO).1
  obtain ⟨c, hcl, _, hcc, _⟩ := Kd.R_elem HO z (i : Int) (by omega) (by omega)
  have hsl : seg.length = d.sz := d.K_len (d.K_of_M hM)
  obtain ⟨cells, hg⟩ := Kd.R_typed HO g (by simp [Value.ownBlock])
  refine Kd.R_store d (w0 := w0) base hN hgd t p x ho e (i : Int) 0 xs x' u seg c (fun _ => True) (fun k => True ∧ k ≠ g) haddr (by rw [hoff, Int.toNat_natCast, Nat.add_zero]) hx hu (by rw [ht, hsl]) (fun q hq => d.K_one (d.K_of_M hM) q hq) HO (by omega) (by omega) hcl hcc (by omega) ?_ (fun k hk => hk) HB (fun w1 h1 h2 h3 => h w1 (by rw [Int.toNat_natCast] at h1; exact h1) h2 h3)
  rw [List.take_zero, List.nil_append, show c.drop (0 + seg.length) = [] from List.drop_of_length_le (by omega), List.append_nil]
  exact Kd.M_types hM hg hE
end
end Go.Proofs.YtknhjeabldlimaaDoor.Big
