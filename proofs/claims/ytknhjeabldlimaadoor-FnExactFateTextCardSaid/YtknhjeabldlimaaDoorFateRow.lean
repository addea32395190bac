/- The row of the law FnExactFateText and its tied card: the argument opened, the walk, its memory as it was; the listed variables tied to the program's text by the given tie. -/
import Derived.Test.YtknhjeabldlimaaDoorRows
import Derived.Test.YtknhjeabldlimaaDoorTie
import Derived.Test.YtknhjeabldlimaaDoorCards
import Derived.Test.YtknhjeabldlimaaDoorFate7
import Derived.WalkKit
import Derived.ProofKit
import Derived.OpenShut
import Derived.OpenVars
import Derived.ShutString
import Derived.ChangeOld
import Derived.Below
import Derived.SizedLaws
import Derived.LaidMore
import Derived.Lib.LaidTab
import Derived.Lib.SmallJoins
import Derived.Stop.Joined
import Derived.SevenTiedAt
namespace Go.Proofs.YtknhjeabldlimaaDoor.fnExactFateText
open Go.ChangeShapes Go.WideShapes Go.ChangeAt Go.RowKit Go.Joins
set_option linter.unusedVariables false
theorem own : ownKnob Tryd.prog.godebug = none := by kernel_rfl
theorem laidOut : laidOutB Tryd.prog = true := by kernel_rfl
abbrev laid : List (String × DataW Unit) := Rows.fnExactFateTextRow.laid
set_option maxRecDepth 100000 in
theorem door_met (os : Os) (args : Array Value) : laidMetH Tryd.prog laid ((World.doorLaid Tryd.prog 77 os).forCall (fun _ _ => 0) ⟨#[], args, []⟩).memory :=
  laidMetH_of_parts3 (fuel := 8) (laidMet_of_run' 8 (by kernel_rfl) (by kernel_rfl)) (by kernel_rfl) (by kernel_rfl)
theorem gWords : Tryd.prog.globalNamed "loop.example/g00657/impl.fateWords" = some 0 := by kernel_rfl
theorem tWords : (Tryd.prog.globals[0]?).map (·.type) = some 55 := by kernel_rfl
theorem gPow : Tryd.prog.globalNamed "internal/strconv.uint64pow10" = some 4 := by kernel_rfl
theorem tPow : (Tryd.prog.globals[4]?).map (·.type) = some 105 := by kernel_rfl
/-- What the listed variables give the walk. -/
theorem of_laid {W : World} (h : laidMetH Tryd.prog laid W) : Fate.WordsIn W ∧ Fate.Tab W := by
  rw [MakeChecks.laidMetH_plain _ _ _ (by kernel_rfl)] at h
  obtain ⟨ps, ⟨g0, t0, cs0, f0, p0, q0, hg0, ht0, hv0, hd0, ⟨g1, t1, cs1, f1, p1, q1, hg1, ht1, hv1, hd1, ⟨g2, t2, cs2, f2, p2, q2, hg2, ht2, hv2, hd2, ⟨g3, t3, cs3, f3, p3, q3, hg3, ht3, hv3, hd3, _, _⟩, _⟩, _⟩, _⟩, _, _⟩ := h
  obtain rfl := Option.some.inj (gPow.symm.trans hg2)
  obtain rfl := Option.some.inj (tPow.symm.trans ht2)
  obtain rfl := Option.some.inj (gWords.symm.trans hg3)
  obtain rfl := Option.some.inj (tWords.symm.trans ht3)
  refine ⟨?_, ?_⟩
  · obtain ⟨xs, m1, rfl, hx1, hlen, hn, hel⟩ := DataW.trod_array Tryd.underlying55 hd3
    have c9 : Tryd.prog.cellsOf 9 = 1 := by kernel_rfl
    have one : ∀ (i : Nat) (bs : List UInt8), i < 4 → (xs.map (·.1))[i]? = some (.lit (.string bs)) → W.cell? ⟨0, i, none⟩ = some (.string ⟨bs.toArray⟩) := by
      intro i bs hi hb
      have hl := hel i hi
      rw [List.getElem?_map] at hb
      obtain ⟨x, hx, hxb⟩ := Option.map_eq_some_iff.1 hb
      rw [hx, c9, Nat.mul_one] at hl
      obtain ⟨s, e1, e2, _⟩ := DataW.trod_string Tryd.underlying9 hl
      have := World.var?_cell hg3 hv3 i
      have e3 : cs3[i]? = some (.string s) := by
        have := congrArg (·[0]?) e1
        simpa [List.getElem?_take, List.getElem?_drop] using this
      rw [e2] at hxb
      have hs : bs = s.data.toList := by simpa using hxb.symm
      rw [this, e3, hs]
    have hxs : xs.map (·.1) = [.lit (.string [108, 111, 115, 116]), .lit (.string [99, 111, 109, 101, 115]), .lit (.string [116, 119, 105, 99, 101]), .lit (.string [116, 117, 114, 110, 101, 100])] := by
      have := congrArg Prod.fst hx1
      exact (DataW.agg.inj this).symm
    exact ⟨one 0 _ (by omega) (by rw [hxs]; rfl), one 1 _ (by omega) (by rw [hxs]; rfl), one 2 _ (by omega) (by rw [hxs]; rfl), one 3 _ (by omega) (by rw [hxs]; rfl)⟩
  · unfold Fate.Tab Lib.TabIs
    rw [hv2]
    have := Lib.cells_of_tab (zs := Lib.pow10Tab) Tryd.underlying105 (by kernel_rfl) (by kernel_rfl) (by kernel_rfl) (show DataW.trod _ _ _ _ _ _ _ _ _ = some (Lib.tabData .u64 Lib.pow10Tab, p2) from hd2)
    rw [← this]
set_option maxRecDepth 100000 in
theorem lifted (os : Os) (started : os.Started) (H : Type) (enc : TypeId × Value → H) :
    ReturnsInHanded {} Tryd.checked os 3 .any (fun w args => (Rows.fnExactFateTextSpec.pre enc Tryd.prog Tryd.f3 [] false w args ∧ laidMetH Tryd.prog laid w) ∧ sizedMet enc Tryd.prog Tryd.f3 (OpenSpec.ofChange Rows.fnExactFateTextSpec) false w args)
      (Rows.fnExactFateTextSpec.post enc Tryd.prog Tryd.f3 false true false false) := by
  refine returnsInHanded_of_change_and (C := Tryd.checked) (X := fun w _ => laidMetH Tryd.prog laid w) (fun _ _ _ hh h => h.of_heap hh) own started (by kernel_rfl) Tryd.func3
    (ChangeSpec.witness_shaped (enc := enc) (C := Tryd.checked) (os := os) (X := fun w _ => laidMetH Tryd.prog laid w) false (World.doorLaid Tryd.prog 77 os) #[.agg #[.int .i64 0, .int .i64 0, .int .i64 0, .int .i64 0]] 8 rfl (World.shaped_of_RefB (by kernel_rfl) (by kernel_rfl)) (by kernel_rfl) (by kernel_rfl) (by kernel_rfl) (door_met os _)) ?_
  intro W base args ds gs before hval0 hW _ _ hL _
  have hval : ∀ (j : Nat) t v, Tryd.f3.params[j]? = some t → args[j]? = some v → Value.okWide Tryd.prog W .any base t v := hval0
  have hW' := hW
  obtain ⟨p, q, hA0, hV, rfl, hfz, hnd⟩ := hW
  have hA : DataW.TrodAll enc Tryd.prog W 0 (fun _ => true) true Tryd.f3.params.toList args.toList ds p := hA0
  rw [Tryd.params3] at hA hval
  obtain ⟨v0, d0, rfl, rfl, h0⟩ := trodAll_one hA
  have lt0 : ∀ x ∈ p, x.block < W.heap.size := by obtain ⟨m, hm⟩ := h0; exact DataW.trod_lt m _ _ _ hm
  obtain ⟨c0, c1, c2, c3, y0, y1, y2, y3, m, rfl, rfl, rfl, hy0, hy1, hy2, hy3⟩ := open_agg4 Tryd.underlying23 (by kernel_rfl) (by kernel_rfl) (hval 0 23 v0 rfl rfl) h0
  obtain ⟨a0, e0, rfl, w0⟩ := DataW.trod_int Tryd.underlying2 hy0
  obtain ⟨a1, e1, rfl, w1⟩ := DataW.trod_int Tryd.underlying2 hy1
  obtain ⟨a2, e2, rfl, w2⟩ := DataW.trod_int Tryd.underlying2 hy2
  obtain ⟨a3, e3, rfl, w3⟩ := DataW.trod_int Tryd.underlying2 hy3
  simp only [List.cons.injEq, and_true] at e0 e1 e2 e3
  subst e0 e1 e2 e3
  obtain ⟨hw, ht⟩ := of_laid hL
  clear hA0 hval0
  have hV2 := hV
  obtain ⟨_, _, _, _, g1, _, rfl, _, _, _, _, _⟩ := trodVars_one hV2
  have hVt := fun (W' : World) (bel : Below W.heap.size W W') => Below.trodVars laidOut bel (by kernel_rfl) hV
  refine (Fate.FateText_walk a0 a1 a2 a3 W hw ht).mono fun e W' ⟨he, bel⟩ => ?_
  subst he
  exact ⟨_, rfl, _, _, _, [], _, _, hW', trodAll_mk1 (shut_bool Tryd.underlying4 _), (trodAll_cons_mk (Below.trod laidOut (by kernel_rfl) (of_decide_eq_true (by kernel_rfl)) h0 bel lt0) trodAll_mk0), hVt W' bel, bel.frame _, fun h => by cases h⟩
theorem over : Rows.FnExactFateTextSaid :=
  OpenClaim.holds_of_wide 3 Tryd.f3 rfl rfl rfl rfl rfl rfl rfl ⟨rfl, rfl, rfl, rfl, rfl⟩ rfl rfl rfl rfl rfl (by kernel_rfl) Tryd.func3 (by kernel_rfl)
    (of_decide_eq_true (by kernel_rfl)) (by unfold Func.isWrapper; first | (rw [if_pos (by decide +kernel)]; kernel_rfl) | (rw [if_neg (by decide +kernel)]; exact ⟨rfl, rfl⟩))
    (fun os started H enc _ => lifted os started H enc)
theorem card : Rows.FnExactFateTextCardSaid :=
  Claim7.holds_tied_plain_at .later [] [.data, .data, .data, .widerDeep] true (true, "c2981be070c649e737c6dc7928d4cf82ff4f603961e9b185cbe86951aae1750f") true
    over (fun _ h => by cases h) (by kernel_rfl) (fun _ h => by cases h) fnExactFateText_row_tie rfl ⟨rfl, rfl⟩ (by kernel_rfl) rfl
    (fun f fn hf hfn => by
      obtain rfl : f = 3 := Option.some.inj ((show Tryd.prog.funcNamed "loop.example/g00657/laws.FnExactFateText" = some 3 by kernel_rfl).symm.trans hf) |>.symm
      obtain rfl : fn = Tryd.f3 := (Option.some.inj (Tryd.func3.symm.trans hfn)).symm
      exact ⟨by kernel_rfl, fun j t ht => by
        rw [Tryd.params3] at ht
        have hm : t ∈ [23] := by simpa using Array.mem_of_getElem? ht
        have hall : ([23].all fun u => !Tryd.prog.wantsStandIn u) = true := by kernel_rfl
        exact (show Tryd.prog.wantsStandIn t = false by simpa using List.all_eq_true.1 hall t hm)⟩)
    (by kernel_rfl)
end Go.Proofs.YtknhjeabldlimaaDoor.fnExactFateText
namespace Go.Proofs.YtknhjeabldlimaaDoor
/-- The card, under a short name, for the claim. -/
theorem fnExactFateText_holds : Rows.FnExactFateTextCardSaid := fnExactFateText.card
end Go.Proofs.YtknhjeabldlimaaDoor
