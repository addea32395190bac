/- What Go functions of this seat compute, as Lean functions (the word 'none': a panic, or the rounds are used up), each proved of the translation; no conditions. Written by the kit's print.py, called for this claim. -/
import Derived.Test.YteahhohlnoifaaaProg
import Derived.Below
import Derived.Deep.Draws
import Derived.Deep.AppendLies
import Derived.Maps.AppendAt
import Derived.OwnWalk
import Derived.Laws.BytesArg
import Derived.Laws.MakeOwn
import Derived.Laws.OwnMore
import Derived.Deep.OwnRows
import Derived.Tactics
import Derived.Lib.ConvBytes
import Derived.Laws.Slices
import Derived.WalkKit
import Derived.KernelRfl
import Derived.RowKit3
import Derived.Deep.LoopGhost
import Derived.Deep.QuietTactic
import Derived.BigQuiet
import Derived.WideLaws
import Derived.Deep.DeepCutAuto
import Derived.Deep.CutBlock
import Derived.Deep.RegionHeld3
import Derived.Laws.Rows
import Derived.Lib.AppendStr
import Derived.ArgAppend
import Derived.Laws.IdiomCopy
import Derived.OrdersHeld
import Derived.Laws.BitsLemmas
import Derived.RowKit
import Derived.Test.YteahhohlnoifaaaWWords
import Derived.Test.YteahhohlnoifaaaWLast
import Derived.Test.YteahhohlnoifaaaWTab
import Derived.Test.YteahhohlnoifaaaWFour
import Derived.Test.YteahhohlnoifaaaWQPut
import Derived.Test.YteahhohlnoifaaaWApart
import Derived.Test.YteahhohlnoifaaaWArr
import Derived.Test.YteahhohlnoifaaaWZeros
import Derived.Test.YteahhohlnoifaaaWFoot
import Derived.Test.YteahhohlnoifaaaWKept
import Derived.Test.YteahhohlnoifaaaWShare
import Derived.Test.YteahhohlnoifaaaWN
import Derived.Test.YteahhohlnoifaaaWFootNe
import Derived.Test.YteahhohlnoifaaaWAt
import Derived.Test.YteahhohlnoifaaaWEqStruct
import Derived.Test.YteahhohlnoifaaaWRepsOne
import Derived.Test.YteahhohlnoifaaaWInv
import Derived.Test.YteahhohlnoifaaaWInvWords
import Derived.Test.YteahhohlnoifaaaWGuard
import Derived.Test.YteahhohlnoifaaaWNEv
import Derived.Test.YteahhohlnoifaaaWMore
namespace Go.Proofs.Yteahhohlnoifaaa.QZ
open Go.RowKit Go.Proofs.YteahhohlnoifaaaW.PrintWords Go.Proofs.YteahhohlnoifaaaW.PrintLast Go.Proofs.YteahhohlnoifaaaW.PrintMore
attribute [local go_sem] max2_int min2_int max_two min_two max_three min_three max_four min_four   -- for this text's walks alone
set_option linter.unusedVariables false
set_option linter.unusedSimpArgs false



def errW : Option Int → Value
  | none => .nilIface
  | some c => .iface 0 (.int .i64 c)
theorem errW_none : errW none = .nilIface := rfl
theorem errW_some (c : Int) : errW (some c) = .iface 0 (.int .i64 c) := rfl

theorem info2 : (Try.prog.info? 2).map (fun i => (i.zero, i.size, i.bytes)) = some (some (.int .i64 0), 1, 8) := by kernel_rfl
theorem info24 : (Try.prog.info? 24).map (fun i => (i.zero, i.size, i.bytes)) = some (some (.slice none 0 0), 1, 24) := by kernel_rfl
theorem info53 : (Try.prog.info? 53).map (fun i => (i.zero, i.size, i.bytes)) = some (some (.agg #[(.int .i64 0), (.int .i64 0), (.bool false), (.bool false), (.int .i64 0), (.int .i64 0), (.int .i64 0), (.int .i64 0), (.int .i64 0), (.slice none 0 0), (.slice none 0 0), (.slice none 0 0), (.slice none 0 0), (.bool false), (.int .i64 0), (.int .i64 0), (.slice none 0 0), (.slice none 0 0), (.slice none 0 0)]), 19, 256) := by kernel_rfl
-- the values' own types
def rd_L1 (xs : List (List Int)) (i : Int) : (List Int) := xs.getD i.toNat ([] : List Int)
theorem at_L1 {w : World} {A : Option Addr} {n : Nat} {xs : List (List Int)} (h : Kd.C (Kd.slice 2 (Kd.int .i64)) w A n xs) (i : Int) (h0 : 0 ≤ i) (h1 : i < n) : ∃ ad A0 c0, A = some ad ∧ w.cell? (ad.add i.toNat) = some (.slice A0 (rd_L1 xs i).length c0) ∧ (rd_L1 xs i).length ≤ c0 ∧ (Kd.int .i64).C w A0 (rd_L1 xs i).length (rd_L1 xs i) := by
  obtain ⟨ad, c, e, _, hK, hc0⟩ := Kd.C_get h ([] : List Int) i h0 h1
  have hc : ∀ j u, c[j]? = some u → w.cell? (ad.add (i.toNat * 1 + j)) = some u := hc0
  obtain ⟨A0, c0, rfl, l0, g0⟩ := hK
  exact ⟨ad, A0, c0, e, by have hq := hc 0 _ rfl; rwa [Nat.mul_one, Nat.add_zero] at hq, l0, g0⟩

/-! #### struct type 45 -/
structure S45 where
  f0 : Int
  f1 : Int
  f2 : Bool
  f3 : Bool
def z45 : S45 := ⟨(0 : Int), (0 : Int), false, false⟩
def k45 : Kd S45 := Kd.iso (Kd.pair (Kd.int .i64) (Kd.pair (Kd.int .i64) (Kd.pair Kd.bool Kd.bool))) (fun x : S45 => (x.f0, x.f1, x.f2, x.f3))
theorem k45_open {w : World} {x : S45} {cs : List Value} (h : k45.K w x cs) : cs = [.int .i64 x.f0, .int .i64 x.f1, .bool x.f2, .bool x.f3] := by
  obtain ⟨_, _, rfl, rfl, ⟨_, _, rfl, rfl, ⟨_, _, rfl, rfl, rfl⟩⟩⟩ := h
  exact rfl
theorem k45_openM {w : World} {base : Nat} {ok : Nat → Prop} {x : S45} {cs : List Value} (h : k45.M w base ok x cs) : cs = [.int .i64 x.f0, .int .i64 x.f1, .bool x.f2, .bool x.f3] := by
  obtain ⟨_, _, rfl, rfl, ⟨_, _, rfl, rfl, ⟨_, _, rfl, rfl, rfl⟩⟩⟩ := h
  exact rfl
theorem k45_mk (w : World) (x : S45)  : k45.K w x [.int .i64 x.f0, .int .i64 x.f1, .bool x.f2, .bool x.f3] := ⟨[.int .i64 x.f0], [.int .i64 x.f1, .bool x.f2, .bool x.f3], rfl, rfl, ⟨[.int .i64 x.f1], [.bool x.f2, .bool x.f3], rfl, rfl, ⟨[.bool x.f2], [.bool x.f3], rfl, rfl, rfl⟩⟩⟩
theorem k45_mkM (w : World) (base : Nat) (ok : Nat → Prop) (x : S45)  : k45.M w base ok x [.int .i64 x.f0, .int .i64 x.f1, .bool x.f2, .bool x.f3] := ⟨[.int .i64 x.f0], [.int .i64 x.f1, .bool x.f2, .bool x.f3], rfl, rfl, ⟨[.int .i64 x.f1], [.bool x.f2, .bool x.f3], rfl, rfl, ⟨[.bool x.f2], [.bool x.f3], rfl, rfl, rfl⟩⟩⟩
def rd_T45 (xs : List S45) (i : Int) : S45 := xs.getD i.toNat z45
theorem at_T45 {w : World} {A : Option Addr} {n : Nat} {xs : List S45} (h : Kd.C k45 w A n xs) (i : Int) (h0 : 0 ≤ i) (h1 : i < n) : ∃ ad , A = some ad ∧ w.cell? (ad.add (i.toNat * 4)) = some (.int .i64 (rd_T45 xs i).f0) ∧ w.cell? ⟨(ad.add (i.toNat * 4)).block, (ad.add (i.toNat * 4)).off + 1, none⟩ = some (.int .i64 (rd_T45 xs i).f1) ∧ w.cell? ⟨(ad.add (i.toNat * 4)).block, (ad.add (i.toNat * 4)).off + 2, none⟩ = some (.bool (rd_T45 xs i).f2) ∧ w.cell? ⟨(ad.add (i.toNat * 4)).block, (ad.add (i.toNat * 4)).off + 3, none⟩ = some (.bool (rd_T45 xs i).f3) := by
  obtain ⟨ad, c, e, _, hK, hc0⟩ := Kd.C_get h z45 i h0 h1
  have hc : ∀ j u, c[j]? = some u → w.cell? (ad.add (i.toNat * 4 + j)) = some u := hc0
  obtain rfl := k45_open hK
  exact ⟨ad, e, hc 0 _ rfl, by rw [← add_field _ _ 1 (by omega)]; exact hc 1 _ rfl, by rw [← add_field _ _ 2 (by omega)]; exact hc 2 _ rfl, by rw [← add_field _ _ 3 (by omega)]; exact hc 3 _ rfl⟩

def rd_L4 (xs : List (List (List Int))) (i : Int) : (List (List Int)) := xs.getD i.toNat ([] : List (List Int))
theorem at_L4 {w : World} {A : Option Addr} {n : Nat} {xs : List (List (List Int))} (h : Kd.C (Kd.slice 24 (Kd.slice 2 (Kd.int .i64))) w A n xs) (i : Int) (h0 : 0 ≤ i) (h1 : i < n) : ∃ ad A0 c0, A = some ad ∧ w.cell? (ad.add i.toNat) = some (.slice A0 (rd_L4 xs i).length c0) ∧ (rd_L4 xs i).length ≤ c0 ∧ (Kd.slice 2 (Kd.int .i64)).C w A0 (rd_L4 xs i).length (rd_L4 xs i) := by
  obtain ⟨ad, c, e, _, hK, hc0⟩ := Kd.C_get h ([] : List (List Int)) i h0 h1
  have hc : ∀ j u, c[j]? = some u → w.cell? (ad.add (i.toNat * 1 + j)) = some u := hc0
  obtain ⟨A0, c0, rfl, l0, g0⟩ := hK
  exact ⟨ad, A0, c0, e, by have hq := hc 0 _ rfl; rwa [Nat.mul_one, Nat.add_zero] at hq, l0, g0⟩

/-! #### struct type 47 -/
structure S47 where
  f0 : Int
  f1 : Int
  f2 : Int
  f3 : Int
  f4 : Int
  f5 : (List Int)
  f6 : (List Int)
  f7 : (List (List Int))
def z47 : S47 := ⟨(0 : Int), (0 : Int), (0 : Int), (0 : Int), (0 : Int), ([] : List Int), ([] : List Int), ([] : List (List Int))⟩
def k47 : Kd S47 := Kd.iso (Kd.pair (Kd.int .i64) (Kd.pair (Kd.int .i64) (Kd.pair (Kd.int .i64) (Kd.pair (Kd.int .i64) (Kd.pair (Kd.int .i64) (Kd.pair (Kd.slice 2 (Kd.int .i64)) (Kd.pair (Kd.slice 2 (Kd.int .i64)) (Kd.slice 24 (Kd.slice 2 (Kd.int .i64)))))))))) (fun x : S47 => (x.f0, x.f1, x.f2, x.f3, x.f4, x.f5, x.f6, x.f7))
theorem k47_open {w : World} {x : S47} {cs : List Value} (h : k47.K w x cs) : ∃ A5 c5 A6 c6 A7 c7, cs = [.int .i64 x.f0, .int .i64 x.f1, .int .i64 x.f2, .int .i64 x.f3, .int .i64 x.f4, .slice A5 x.f5.length c5, .slice A6 x.f6.length c6, .slice A7 x.f7.length c7] ∧ x.f5.length ≤ c5 ∧ (Kd.int .i64).C w A5 x.f5.length x.f5 ∧ x.f6.length ≤ c6 ∧ (Kd.int .i64).C w A6 x.f6.length x.f6 ∧ x.f7.length ≤ c7 ∧ (Kd.slice 2 (Kd.int .i64)).C w A7 x.f7.length x.f7 := by
  obtain ⟨_, _, rfl, rfl, ⟨_, _, rfl, rfl, ⟨_, _, rfl, rfl, ⟨_, _, rfl, rfl, ⟨_, _, rfl, rfl, ⟨_, _, rfl, ⟨A5, c5, rfl, l5, g5⟩, ⟨_, _, rfl, ⟨A6, c6, rfl, l6, g6⟩, ⟨A7, c7, rfl, l7, g7⟩⟩⟩⟩⟩⟩⟩⟩ := h
  exact ⟨A5, c5, A6, c6, A7, c7, rfl, l5, g5, l6, g6, l7, g7⟩
theorem k47_openM {w : World} {base : Nat} {ok : Nat → Prop} {x : S47} {cs : List Value} (h : k47.M w base ok x cs) : ∃ v5 v6 v7, cs = [.int .i64 x.f0, .int .i64 x.f1, .int .i64 x.f2, .int .i64 x.f3, .int .i64 x.f4, v5, v6, v7] ∧ (Kd.int .i64).R 2 w base ok v5 x.f5 ∧ (Kd.int .i64).R 2 w base ok v6 x.f6 ∧ (Kd.slice 2 (Kd.int .i64)).R 24 w base ok v7 x.f7 := by
  obtain ⟨_, _, rfl, rfl, ⟨_, _, rfl, rfl, ⟨_, _, rfl, rfl, ⟨_, _, rfl, rfl, ⟨_, _, rfl, rfl, ⟨_, _, rfl, ⟨v5, rfl, g5⟩, ⟨_, _, rfl, ⟨v6, rfl, g6⟩, ⟨v7, rfl, g7⟩⟩⟩⟩⟩⟩⟩⟩ := h
  exact ⟨v5, v6, v7, rfl, g5, g6, g7⟩
theorem k47_mk (w : World) (x : S47) {A5 : Option Addr} {c5 : Nat} (l5 : x.f5.length ≤ c5) (g5 : (Kd.int .i64).C w A5 x.f5.length x.f5) {A6 : Option Addr} {c6 : Nat} (l6 : x.f6.length ≤ c6) (g6 : (Kd.int .i64).C w A6 x.f6.length x.f6) {A7 : Option Addr} {c7 : Nat} (l7 : x.f7.length ≤ c7) (g7 : (Kd.slice 2 (Kd.int .i64)).C w A7 x.f7.length x.f7) : k47.K w x [.int .i64 x.f0, .int .i64 x.f1, .int .i64 x.f2, .int .i64 x.f3, .int .i64 x.f4, .slice A5 x.f5.length c5, .slice A6 x.f6.length c6, .slice A7 x.f7.length c7] := ⟨[.int .i64 x.f0], [.int .i64 x.f1, .int .i64 x.f2, .int .i64 x.f3, .int .i64 x.f4, .slice A5 x.f5.length c5, .slice A6 x.f6.length c6, .slice A7 x.f7.length c7], rfl, rfl, ⟨[.int .i64 x.f1], [.int .i64 x.f2, .int .i64 x.f3, .int .i64 x.f4, .slice A5 x.f5.length c5, .slice A6 x.f6.length c6, .slice A7 x.f7.length c7], rfl, rfl, ⟨[.int .i64 x.f2], [.int .i64 x.f3, .int .i64 x.f4, .slice A5 x.f5.length c5, .slice A6 x.f6.length c6, .slice A7 x.f7.length c7], rfl, rfl, ⟨[.int .i64 x.f3], [.int .i64 x.f4, .slice A5 x.f5.length c5, .slice A6 x.f6.length c6, .slice A7 x.f7.length c7], rfl, rfl, ⟨[.int .i64 x.f4], [.slice A5 x.f5.length c5, .slice A6 x.f6.length c6, .slice A7 x.f7.length c7], rfl, rfl, ⟨[.slice A5 x.f5.length c5], [.slice A6 x.f6.length c6, .slice A7 x.f7.length c7], rfl, ⟨A5, c5, rfl, l5, g5⟩, ⟨[.slice A6 x.f6.length c6], [.slice A7 x.f7.length c7], rfl, ⟨A6, c6, rfl, l6, g6⟩, ⟨A7, c7, rfl, l7, g7⟩⟩⟩⟩⟩⟩⟩⟩
theorem k47_mkM (w : World) (base : Nat) (ok : Nat → Prop) (x : S47) {v5 : Value} (g5 : (Kd.int .i64).R 2 w base ok v5 x.f5) {v6 : Value} (g6 : (Kd.int .i64).R 2 w base ok v6 x.f6) {v7 : Value} (g7 : (Kd.slice 2 (Kd.int .i64)).R 24 w base ok v7 x.f7) : k47.M w base ok x [.int .i64 x.f0, .int .i64 x.f1, .int .i64 x.f2, .int .i64 x.f3, .int .i64 x.f4, v5, v6, v7] := ⟨[.int .i64 x.f0], [.int .i64 x.f1, .int .i64 x.f2, .int .i64 x.f3, .int .i64 x.f4, v5, v6, v7], rfl, rfl, ⟨[.int .i64 x.f1], [.int .i64 x.f2, .int .i64 x.f3, .int .i64 x.f4, v5, v6, v7], rfl, rfl, ⟨[.int .i64 x.f2], [.int .i64 x.f3, .int .i64 x.f4, v5, v6, v7], rfl, rfl, ⟨[.int .i64 x.f3], [.int .i64 x.f4, v5, v6, v7], rfl, rfl, ⟨[.int .i64 x.f4], [v5, v6, v7], rfl, rfl, ⟨[v5], [v6, v7], rfl, ⟨v5, rfl, g5⟩, ⟨[v6], [v7], rfl, ⟨v6, rfl, g6⟩, ⟨v7, rfl, g7⟩⟩⟩⟩⟩⟩⟩⟩
def rd_T47 (xs : List S47) (i : Int) : S47 := xs.getD i.toNat z47
theorem at_T47 {w : World} {A : Option Addr} {n : Nat} {xs : List S47} (h : Kd.C k47 w A n xs) (i : Int) (h0 : 0 ≤ i) (h1 : i < n) : ∃ ad A5 c5 A6 c6 A7 c7, A = some ad ∧ w.cell? (ad.add (i.toNat * 8)) = some (.int .i64 (rd_T47 xs i).f0) ∧ w.cell? ⟨(ad.add (i.toNat * 8)).block, (ad.add (i.toNat * 8)).off + 1, none⟩ = some (.int .i64 (rd_T47 xs i).f1) ∧ w.cell? ⟨(ad.add (i.toNat * 8)).block, (ad.add (i.toNat * 8)).off + 2, none⟩ = some (.int .i64 (rd_T47 xs i).f2) ∧ w.cell? ⟨(ad.add (i.toNat * 8)).block, (ad.add (i.toNat * 8)).off + 3, none⟩ = some (.int .i64 (rd_T47 xs i).f3) ∧ w.cell? ⟨(ad.add (i.toNat * 8)).block, (ad.add (i.toNat * 8)).off + 4, none⟩ = some (.int .i64 (rd_T47 xs i).f4) ∧ w.cell? ⟨(ad.add (i.toNat * 8)).block, (ad.add (i.toNat * 8)).off + 5, none⟩ = some (.slice A5 (rd_T47 xs i).f5.length c5) ∧ w.cell? ⟨(ad.add (i.toNat * 8)).block, (ad.add (i.toNat * 8)).off + 6, none⟩ = some (.slice A6 (rd_T47 xs i).f6.length c6) ∧ w.cell? ⟨(ad.add (i.toNat * 8)).block, (ad.add (i.toNat * 8)).off + 7, none⟩ = some (.slice A7 (rd_T47 xs i).f7.length c7) ∧ (rd_T47 xs i).f5.length ≤ c5 ∧ (Kd.int .i64).C w A5 (rd_T47 xs i).f5.length (rd_T47 xs i).f5 ∧ (rd_T47 xs i).f6.length ≤ c6 ∧ (Kd.int .i64).C w A6 (rd_T47 xs i).f6.length (rd_T47 xs i).f6 ∧ (rd_T47 xs i).f7.length ≤ c7 ∧ (Kd.slice 2 (Kd.int .i64)).C w A7 (rd_T47 xs i).f7.length (rd_T47 xs i).f7 := by
  obtain ⟨ad, c, e, _, hK, hc0⟩ := Kd.C_get h z47 i h0 h1
  have hc : ∀ j u, c[j]? = some u → w.cell? (ad.add (i.toNat * 8 + j)) = some u := hc0
  obtain ⟨A5, c5, A6, c6, A7, c7, rfl, l5, g5, l6, g6, l7, g7⟩ := k47_open hK
  exact ⟨ad, A5, c5, A6, c6, A7, c7, e, hc 0 _ rfl, by rw [← add_field _ _ 1 (by omega)]; exact hc 1 _ rfl, by rw [← add_field _ _ 2 (by omega)]; exact hc 2 _ rfl, by rw [← add_field _ _ 3 (by omega)]; exact hc 3 _ rfl, by rw [← add_field _ _ 4 (by omega)]; exact hc 4 _ rfl, by rw [← add_field _ _ 5 (by omega)]; exact hc 5 _ rfl, by rw [← add_field _ _ 6 (by omega)]; exact hc 6 _ rfl, by rw [← add_field _ _ 7 (by omega)]; exact hc 7 _ rfl, l5, g5, l6, g6, l7, g7⟩

/-! #### struct type 49 -/
structure S49 where
  f0 : S45
  f1 : S47
  f2 : (List Int)
  f3 : Bool
  f4 : Int
  f5 : Int
  f6 : (List Int)
  f7 : (List Int)
  f8 : (List Int)
def z49 : S49 := ⟨z45, z47, ([] : List Int), false, (0 : Int), (0 : Int), ([] : List Int), ([] : List Int), ([] : List Int)⟩
def k49 : Kd S49 := Kd.iso (Kd.pair k45 (Kd.pair k47 (Kd.pair (Kd.slice 2 (Kd.int .i64)) (Kd.pair Kd.bool (Kd.pair (Kd.int .i64) (Kd.pair (Kd.int .i64) (Kd.pair (Kd.slice 2 (Kd.int .i64)) (Kd.pair (Kd.slice 2 (Kd.int .i64)) (Kd.slice 2 (Kd.int .i64)))))))))) (fun x : S49 => (x.f0, x.f1, x.f2, x.f3, x.f4, x.f5, x.f6, x.f7, x.f8))
theorem k49_open {w : World} {x : S49} {cs : List Value} (h : k49.K w x cs) : ∃ A9 c9 A10 c10 A11 c11 A12 c12 A16 c16 A17 c17 A18 c18, cs = [.int .i64 x.f0.f0, .int .i64 x.f0.f1, .bool x.f0.f2, .bool x.f0.f3, .int .i64 x.f1.f0, .int .i64 x.f1.f1, .int .i64 x.f1.f2, .int .i64 x.f1.f3, .int .i64 x.f1.f4, .slice A9 x.f1.f5.length c9, .slice A10 x.f1.f6.length c10, .slice A11 x.f1.f7.length c11, .slice A12 x.f2.length c12, .bool x.f3, .int .i64 x.f4, .int .i64 x.f5, .slice A16 x.f6.length c16, .slice A17 x.f7.length c17, .slice A18 x.f8.length c18] ∧ x.f1.f5.length ≤ c9 ∧ (Kd.int .i64).C w A9 x.f1.f5.length x.f1.f5 ∧ x.f1.f6.length ≤ c10 ∧ (Kd.int .i64).C w A10 x.f1.f6.length x.f1.f6 ∧ x.f1.f7.length ≤ c11 ∧ (Kd.slice 2 (Kd.int .i64)).C w A11 x.f1.f7.length x.f1.f7 ∧ x.f2.length ≤ c12 ∧ (Kd.int .i64).C w A12 x.f2.length x.f2 ∧ x.f6.length ≤ c16 ∧ (Kd.int .i64).C w A16 x.f6.length x.f6 ∧ x.f7.length ≤ c17 ∧ (Kd.int .i64).C w A17 x.f7.length x.f7 ∧ x.f8.length ≤ c18 ∧ (Kd.int .i64).C w A18 x.f8.length x.f8 := by
  obtain ⟨_, _, rfl, s0, ⟨_, _, rfl, s4, ⟨_, _, rfl, ⟨A12, c12, rfl, l12, g12⟩, ⟨_, _, rfl, rfl, ⟨_, _, rfl, rfl, ⟨_, _, rfl, rfl, ⟨_, _, rfl, ⟨A16, c16, rfl, l16, g16⟩, ⟨_, _, rfl, ⟨A17, c17, rfl, l17, g17⟩, ⟨A18, c18, rfl, l18, g18⟩⟩⟩⟩⟩⟩⟩⟩⟩ := h
  obtain rfl := k45_open s0
  obtain ⟨A9, c9, A10, c10, A11, c11, rfl, l9, g9, l10, g10, l11, g11⟩ := k47_open s4
  exact ⟨A9, c9, A10, c10, A11, c11, A12, c12, A16, c16, A17, c17, A18, c18, rfl, l9, g9, l10, g10, l11, g11, l12, g12, l16, g16, l17, g17, l18, g18⟩
theorem k49_openM {w : World} {base : Nat} {ok : Nat → Prop} {x : S49} {cs : List Value} (h : k49.M w base ok x cs) : ∃ v9 v10 v11 v12 v16 v17 v18, cs = [.int .i64 x.f0.f0, .int .i64 x.f0.f1, .bool x.f0.f2, .bool x.f0.f3, .int .i64 x.f1.f0, .int .i64 x.f1.f1, .int .i64 x.f1.f2, .int .i64 x.f1.f3, .int .i64 x.f1.f4, v9, v10, v11, v12, .bool x.f3, .int .i64 x.f4, .int .i64 x.f5, v16, v17, v18] ∧ (Kd.int .i64).R 2 w base ok v9 x.f1.f5 ∧ (Kd.int .i64).R 2 w base ok v10 x.f1.f6 ∧ (Kd.slice 2 (Kd.int .i64)).R 24 w base ok v11 x.f1.f7 ∧ (Kd.int .i64).R 2 w base ok v12 x.f2 ∧ (Kd.int .i64).R 2 w base ok v16 x.f6 ∧ (Kd.int .i64).R 2 w base ok v17 x.f7 ∧ (Kd.int .i64).R 2 w base ok v18 x.f8 := by
  obtain ⟨_, _, rfl, s0, ⟨_, _, rfl, s4, ⟨_, _, rfl, ⟨v12, rfl, g12⟩, ⟨_, _, rfl, rfl, ⟨_, _, rfl, rfl, ⟨_, _, rfl, rfl, ⟨_, _, rfl, ⟨v16, rfl, g16⟩, ⟨_, _, rfl, ⟨v17, rfl, g17⟩, ⟨v18, rfl, g18⟩⟩⟩⟩⟩⟩⟩⟩⟩ := h
  obtain rfl := k45_openM s0
  obtain ⟨v9, v10, v11, rfl, g9, g10, g11⟩ := k47_openM s4
  exact ⟨v9, v10, v11, v12, v16, v17, v18, rfl, g9, g10, g11, g12, g16, g17, g18⟩
theorem k49_mk (w : World) (x : S49) {A9 : Option Addr} {c9 : Nat} (l9 : x.f1.f5.length ≤ c9) (g9 : (Kd.int .i64).C w A9 x.f1.f5.length x.f1.f5) {A10 : Option Addr} {c10 : Nat} (l10 : x.f1.f6.length ≤ c10) (g10 : (Kd.int .i64).C w A10 x.f1.f6.length x.f1.f6) {A11 : Option Addr} {c11 : Nat} (l11 : x.f1.f7.length ≤ c11) (g11 : (Kd.slice 2 (Kd.int .i64)).C w A11 x.f1.f7.length x.f1.f7) {A12 : Option Addr} {c12 : Nat} (l12 : x.f2.length ≤ c12) (g12 : (Kd.int .i64).C w A12 x.f2.length x.f2) {A16 : Option Addr} {c16 : Nat} (l16 : x.f6.length ≤ c16) (g16 : (Kd.int .i64).C w A16 x.f6.length x.f6) {A17 : Option Addr} {c17 : Nat} (l17 : x.f7.length ≤ c17) (g17 : (Kd.int .i64).C w A17 x.f7.length x.f7) {A18 : Option Addr} {c18 : Nat} (l18 : x.f8.length ≤ c18) (g18 : (Kd.int .i64).C w A18 x.f8.length x.f8) : k49.K w x [.int .i64 x.f0.f0, .int .i64 x.f0.f1, .bool x.f0.f2, .bool x.f0.f3, .int .i64 x.f1.f0, .int .i64 x.f1.f1, .int .i64 x.f1.f2, .int .i64 x.f1.f3, .int .i64 x.f1.f4, .slice A9 x.f1.f5.length c9, .slice A10 x.f1.f6.length c10, .slice A11 x.f1.f7.length c11, .slice A12 x.f2.length c12, .bool x.f3, .int .i64 x.f4, .int .i64 x.f5, .slice A16 x.f6.length c16, .slice A17 x.f7.length c17, .slice A18 x.f8.length c18] := ⟨[.int .i64 x.f0.f0, .int .i64 x.f0.f1, .bool x.f0.f2, .bool x.f0.f3], [.int .i64 x.f1.f0, .int .i64 x.f1.f1, .int .i64 x.f1.f2, .int .i64 x.f1.f3, .int .i64 x.f1.f4, .slice A9 x.f1.f5.length c9, .slice A10 x.f1.f6.length c10, .slice A11 x.f1.f7.length c11, .slice A12 x.f2.length c12, .bool x.f3, .int .i64 x.f4, .int .i64 x.f5, .slice A16 x.f6.length c16, .slice A17 x.f7.length c17, .slice A18 x.f8.length c18], rfl, (k45_mk w x.f0 ), ⟨[.int .i64 x.f1.f0, .int .i64 x.f1.f1, .int .i64 x.f1.f2, .int .i64 x.f1.f3, .int .i64 x.f1.f4, .slice A9 x.f1.f5.length c9, .slice A10 x.f1.f6.length c10, .slice A11 x.f1.f7.length c11], [.slice A12 x.f2.length c12, .bool x.f3, .int .i64 x.f4, .int .i64 x.f5, .slice A16 x.f6.length c16, .slice A17 x.f7.length c17, .slice A18 x.f8.length c18], rfl, (k47_mk w x.f1 l9 g9 l10 g10 l11 g11), ⟨[.slice A12 x.f2.length c12], [.bool x.f3, .int .i64 x.f4, .int .i64 x.f5, .slice A16 x.f6.length c16, .slice A17 x.f7.length c17, .slice A18 x.f8.length c18], rfl, ⟨A12, c12, rfl, l12, g12⟩, ⟨[.bool x.f3], [.int .i64 x.f4, .int .i64 x.f5, .slice A16 x.f6.length c16, .slice A17 x.f7.length c17, .slice A18 x.f8.length c18], rfl, rfl, ⟨[.int .i64 x.f4], [.int .i64 x.f5, .slice A16 x.f6.length c16, .slice A17 x.f7.length c17, .slice A18 x.f8.length c18], rfl, rfl, ⟨[.int .i64 x.f5], [.slice A16 x.f6.length c16, .slice A17 x.f7.length c17, .slice A18 x.f8.length c18], rfl, rfl, ⟨[.slice A16 x.f6.length c16], [.slice A17 x.f7.length c17, .slice A18 x.f8.length c18], rfl, ⟨A16, c16, rfl, l16, g16⟩, ⟨[.slice A17 x.f7.length c17], [.slice A18 x.f8.length c18], rfl, ⟨A17, c17, rfl, l17, g17⟩, ⟨A18, c18, rfl, l18, g18⟩⟩⟩⟩⟩⟩⟩⟩⟩
theorem k49_mkM (w : World) (base : Nat) (ok : Nat → Prop) (x : S49) {v9 : Value} (g9 : (Kd.int .i64).R 2 w base ok v9 x.f1.f5) {v10 : Value} (g10 : (Kd.int .i64).R 2 w base ok v10 x.f1.f6) {v11 : Value} (g11 : (Kd.slice 2 (Kd.int .i64)).R 24 w base ok v11 x.f1.f7) {v12 : Value} (g12 : (Kd.int .i64).R 2 w base ok v12 x.f2) {v16 : Value} (g16 : (Kd.int .i64).R 2 w base ok v16 x.f6) {v17 : Value} (g17 : (Kd.int .i64).R 2 w base ok v17 x.f7) {v18 : Value} (g18 : (Kd.int .i64).R 2 w base ok v18 x.f8) : k49.M w base ok x [.int .i64 x.f0.f0, .int .i64 x.f0.f1, .bool x.f0.f2, .bool x.f0.f3, .int .i64 x.f1.f0, .int .i64 x.f1.f1, .int .i64 x.f1.f2, .int .i64 x.f1.f3, .int .i64 x.f1.f4, v9, v10, v11, v12, .bool x.f3, .int .i64 x.f4, .int .i64 x.f5, v16, v17, v18] := ⟨[.int .i64 x.f0.f0, .int .i64 x.f0.f1, .bool x.f0.f2, .bool x.f0.f3], [.int .i64 x.f1.f0, .int .i64 x.f1.f1, .int .i64 x.f1.f2, .int .i64 x.f1.f3, .int .i64 x.f1.f4, v9, v10, v11, v12, .bool x.f3, .int .i64 x.f4, .int .i64 x.f5, v16, v17, v18], rfl, (k45_mkM w base ok x.f0 ), ⟨[.int .i64 x.f1.f0, .int .i64 x.f1.f1, .int .i64 x.f1.f2, .int .i64 x.f1.f3, .int .i64 x.f1.f4, v9, v10, v11], [v12, .bool x.f3, .int .i64 x.f4, .int .i64 x.f5, v16, v17, v18], rfl, (k47_mkM w base ok x.f1 g9 g10 g11), ⟨[v12], [.bool x.f3, .int .i64 x.f4, .int .i64 x.f5, v16, v17, v18], rfl, ⟨v12, rfl, g12⟩, ⟨[.bool x.f3], [.int .i64 x.f4, .int .i64 x.f5, v16, v17, v18], rfl, rfl, ⟨[.int .i64 x.f4], [.int .i64 x.f5, v16, v17, v18], rfl, rfl, ⟨[.int .i64 x.f5], [v16, v17, v18], rfl, rfl, ⟨[v16], [v17, v18], rfl, ⟨v16, rfl, g16⟩, ⟨[v17], [v18], rfl, ⟨v17, rfl, g17⟩, ⟨v18, rfl, g18⟩⟩⟩⟩⟩⟩⟩⟩⟩
def rd_T49 (xs : List S49) (i : Int) : S49 := xs.getD i.toNat z49
theorem at_T49 {w : World} {A : Option Addr} {n : Nat} {xs : List S49} (h : Kd.C k49 w A n xs) (i : Int) (h0 : 0 ≤ i) (h1 : i < n) : ∃ ad A9 c9 A10 c10 A11 c11 A12 c12 A16 c16 A17 c17 A18 c18, A = some ad ∧ w.cell? (ad.add (i.toNat * 19)) = some (.int .i64 (rd_T49 xs i).f0.f0) ∧ w.cell? ⟨(ad.add (i.toNat * 19)).block, (ad.add (i.toNat * 19)).off + 1, none⟩ = some (.int .i64 (rd_T49 xs i).f0.f1) ∧ w.cell? ⟨(ad.add (i.toNat * 19)).block, (ad.add (i.toNat * 19)).off + 2, none⟩ = some (.bool (rd_T49 xs i).f0.f2) ∧ w.cell? ⟨(ad.add (i.toNat * 19)).block, (ad.add (i.toNat * 19)).off + 3, none⟩ = some (.bool (rd_T49 xs i).f0.f3) ∧ w.cell? ⟨(ad.add (i.toNat * 19)).block, (ad.add (i.toNat * 19)).off + 4, none⟩ = some (.int .i64 (rd_T49 xs i).f1.f0) ∧ w.cell? ⟨(ad.add (i.toNat * 19)).block, (ad.add (i.toNat * 19)).off + 5, none⟩ = some (.int .i64 (rd_T49 xs i).f1.f1) ∧ w.cell? ⟨(ad.add (i.toNat * 19)).block, (ad.add (i.toNat * 19)).off + 6, none⟩ = some (.int .i64 (rd_T49 xs i).f1.f2) ∧ w.cell? ⟨(ad.add (i.toNat * 19)).block, (ad.add (i.toNat * 19)).off + 7, none⟩ = some (.int .i64 (rd_T49 xs i).f1.f3) ∧ w.cell? ⟨(ad.add (i.toNat * 19)).block, (ad.add (i.toNat * 19)).off + 8, none⟩ = some (.int .i64 (rd_T49 xs i).f1.f4) ∧ w.cell? ⟨(ad.add (i.toNat * 19)).block, (ad.add (i.toNat * 19)).off + 9, none⟩ = some (.slice A9 (rd_T49 xs i).f1.f5.length c9) ∧ w.cell? ⟨(ad.add (i.toNat * 19)).block, (ad.add (i.toNat * 19)).off + 10, none⟩ = some (.slice A10 (rd_T49 xs i).f1.f6.length c10) ∧ w.cell? ⟨(ad.add (i.toNat * 19)).block, (ad.add (i.toNat * 19)).off + 11, none⟩ = some (.slice A11 (rd_T49 xs i).f1.f7.length c11) ∧ w.cell? ⟨(ad.add (i.toNat * 19)).block, (ad.add (i.toNat * 19)).off + 12, none⟩ = some (.slice A12 (rd_T49 xs i).f2.length c12) ∧ w.cell? ⟨(ad.add (i.toNat * 19)).block, (ad.add (i.toNat * 19)).off + 13, none⟩ = some (.bool (rd_T49 xs i).f3) ∧ w.cell? ⟨(ad.add (i.toNat * 19)).block, (ad.add (i.toNat * 19)).off + 14, none⟩ = some (.int .i64 (rd_T49 xs i).f4) ∧ w.cell? ⟨(ad.add (i.toNat * 19)).block, (ad.add (i.toNat * 19)).off + 15, none⟩ = some (.int .i64 (rd_T49 xs i).f5) ∧ w.cell? ⟨(ad.add (i.toNat * 19)).block, (ad.add (i.toNat * 19)).off + 16, none⟩ = some (.slice A16 (rd_T49 xs i).f6.length c16) ∧ w.cell? ⟨(ad.add (i.toNat * 19)).block, (ad.add (i.toNat * 19)).off + 17, none⟩ = some (.slice A17 (rd_T49 xs i).f7.length c17) ∧ w.cell? ⟨(ad.add (i.toNat * 19)).block, (ad.add (i.toNat * 19)).off + 18, none⟩ = some (.slice A18 (rd_T49 xs i).f8.length c18) ∧ (rd_T49 xs i).f1.f5.length ≤ c9 ∧ (Kd.int .i64).C w A9 (rd_T49 xs i).f1.f5.length (rd_T49 xs i).f1.f5 ∧ (rd_T49 xs i).f1.f6.length ≤ c10 ∧ (Kd.int .i64).C w A10 (rd_T49 xs i).f1.f6.length (rd_T49 xs i).f1.f6 ∧ (rd_T49 xs i).f1.f7.length ≤ c11 ∧ (Kd.slice 2 (Kd.int .i64)).C w A11 (rd_T49 xs i).f1.f7.length (rd_T49 xs i).f1.f7 ∧ (rd_T49 xs i).f2.length ≤ c12 ∧ (Kd.int .i64).C w A12 (rd_T49 xs i).f2.length (rd_T49 xs i).f2 ∧ (rd_T49 xs i).f6.length ≤ c16 ∧ (Kd.int .i64).C w A16 (rd_T49 xs i).f6.length (rd_T49 xs i).f6 ∧ (rd_T49 xs i).f7.length ≤ c17 ∧ (Kd.int .i64).C w A17 (rd_T49 xs i).f7.length (rd_T49 xs i).f7 ∧ (rd_T49 xs i).f8.length ≤ c18 ∧ (Kd.int .i64).C w A18 (rd_T49 xs i).f8.length (rd_T49 xs i).f8 := by
  obtain ⟨ad, c, e, _, hK, hc0⟩ := Kd.C_get h z49 i h0 h1
  have hc : ∀ j u, c[j]? = some u → w.cell? (ad.add (i.toNat * 19 + j)) = some u := hc0
  obtain ⟨A9, c9, A10, c10, A11, c11, A12, c12, A16, c16, A17, c17, A18, c18, rfl, l9, g9, l10, g10, l11, g11, l12, g12, l16, g16, l17, g17, l18, g18⟩ := k49_open hK
  exact ⟨ad, A9, c9, A10, c10, A11, c11, A12, c12, A16, c16, A17, c17, A18, c18, e, hc 0 _ rfl, by rw [← add_field _ _ 1 (by omega)]; exact hc 1 _ rfl, by rw [← add_field _ _ 2 (by omega)]; exact hc 2 _ rfl, by rw [← add_field _ _ 3 (by omega)]; exact hc 3 _ rfl, by rw [← add_field _ _ 4 (by omega)]; exact hc 4 _ rfl, by rw [← add_field _ _ 5 (by omega)]; exact hc 5 _ rfl, by rw [← add_field _ _ 6 (by omega)]; exact hc 6 _ rfl, by rw [← add_field _ _ 7 (by omega)]; exact hc 7 _ rfl, by rw [← add_field _ _ 8 (by omega)]; exact hc 8 _ rfl, by rw [← add_field _ _ 9 (by omega)]; exact hc 9 _ rfl, by rw [← add_field _ _ 10 (by omega)]; exact hc 10 _ rfl, by rw [← add_field _ _ 11 (by omega)]; exact hc 11 _ rfl, by rw [← add_field _ _ 12 (by omega)]; exact hc 12 _ rfl, by rw [← add_field _ _ 13 (by omega)]; exact hc 13 _ rfl, by rw [← add_field _ _ 14 (by omega)]; exact hc 14 _ rfl, by rw [← add_field _ _ 15 (by omega)]; exact hc 15 _ rfl, by rw [← add_field _ _ 16 (by omega)]; exact hc 16 _ rfl, by rw [← add_field _ _ 17 (by omega)]; exact hc 17 _ rfl, by rw [← add_field _ _ 18 (by omega)]; exact hc 18 _ rfl, l9, g9, l10, g10, l11, g11, l12, g12, l16, g16, l17, g17, l18, g18⟩

/-! #### struct type 50 -/
structure S50 where
  f0 : Int
  f1 : Int
  f2 : Bool
  f3 : Bool
def z50 : S50 := ⟨(0 : Int), (0 : Int), false, false⟩
def k50 : Kd S50 := Kd.iso (Kd.pair (Kd.int .i64) (Kd.pair (Kd.int .i64) (Kd.pair Kd.bool Kd.bool))) (fun x : S50 => (x.f0, x.f1, x.f2, x.f3))
theorem k50_open {w : World} {x : S50} {cs : List Value} (h : k50.K w x cs) : cs = [.int .i64 x.f0, .int .i64 x.f1, .bool x.f2, .bool x.f3] := by
  obtain ⟨_, _, rfl, rfl, ⟨_, _, rfl, rfl, ⟨_, _, rfl, rfl, rfl⟩⟩⟩ := h
  exact rfl
theorem k50_openM {w : World} {base : Nat} {ok : Nat → Prop} {x : S50} {cs : List Value} (h : k50.M w base ok x cs) : cs = [.int .i64 x.f0, .int .i64 x.f1, .bool x.f2, .bool x.f3] := by
  obtain ⟨_, _, rfl, rfl, ⟨_, _, rfl, rfl, ⟨_, _, rfl, rfl, rfl⟩⟩⟩ := h
  exact rfl
theorem k50_mk (w : World) (x : S50)  : k50.K w x [.int .i64 x.f0, .int .i64 x.f1, .bool x.f2, .bool x.f3] := ⟨[.int .i64 x.f0], [.int .i64 x.f1, .bool x.f2, .bool x.f3], rfl, rfl, ⟨[.int .i64 x.f1], [.bool x.f2, .bool x.f3], rfl, rfl, ⟨[.bool x.f2], [.bool x.f3], rfl, rfl, rfl⟩⟩⟩
theorem k50_mkM (w : World) (base : Nat) (ok : Nat → Prop) (x : S50)  : k50.M w base ok x [.int .i64 x.f0, .int .i64 x.f1, .bool x.f2, .bool x.f3] := ⟨[.int .i64 x.f0], [.int .i64 x.f1, .bool x.f2, .bool x.f3], rfl, rfl, ⟨[.int .i64 x.f1], [.bool x.f2, .bool x.f3], rfl, rfl, ⟨[.bool x.f2], [.bool x.f3], rfl, rfl, rfl⟩⟩⟩
def rd_T50 (xs : List S50) (i : Int) : S50 := xs.getD i.toNat z50
theorem at_T50 {w : World} {A : Option Addr} {n : Nat} {xs : List S50} (h : Kd.C k50 w A n xs) (i : Int) (h0 : 0 ≤ i) (h1 : i < n) : ∃ ad , A = some ad ∧ w.cell? (ad.add (i.toNat * 4)) = some (.int .i64 (rd_T50 xs i).f0) ∧ w.cell? ⟨(ad.add (i.toNat * 4)).block, (ad.add (i.toNat * 4)).off + 1, none⟩ = some (.int .i64 (rd_T50 xs i).f1) ∧ w.cell? ⟨(ad.add (i.toNat * 4)).block, (ad.add (i.toNat * 4)).off + 2, none⟩ = some (.bool (rd_T50 xs i).f2) ∧ w.cell? ⟨(ad.add (i.toNat * 4)).block, (ad.add (i.toNat * 4)).off + 3, none⟩ = some (.bool (rd_T50 xs i).f3) := by
  obtain ⟨ad, c, e, _, hK, hc0⟩ := Kd.C_get h z50 i h0 h1
  have hc : ∀ j u, c[j]? = some u → w.cell? (ad.add (i.toNat * 4 + j)) = some u := hc0
  obtain rfl := k50_open hK
  exact ⟨ad, e, hc 0 _ rfl, by rw [← add_field _ _ 1 (by omega)]; exact hc 1 _ rfl, by rw [← add_field _ _ 2 (by omega)]; exact hc 2 _ rfl, by rw [← add_field _ _ 3 (by omega)]; exact hc 3 _ rfl⟩

/-! #### struct type 51 -/
structure S51 where
  f0 : Int
  f1 : Int
  f2 : Int
  f3 : Int
  f4 : Int
  f5 : (List Int)
  f6 : (List Int)
  f7 : (List (List Int))
def z51 : S51 := ⟨(0 : Int), (0 : Int), (0 : Int), (0 : Int), (0 : Int), ([] : List Int), ([] : List Int), ([] : List (List Int))⟩
def k51 : Kd S51 := Kd.iso (Kd.pair (Kd.int .i64) (Kd.pair (Kd.int .i64) (Kd.pair (Kd.int .i64) (Kd.pair (Kd.int .i64) (Kd.pair (Kd.int .i64) (Kd.pair (Kd.slice 2 (Kd.int .i64)) (Kd.pair (Kd.slice 2 (Kd.int .i64)) (Kd.slice 24 (Kd.slice 2 (Kd.int .i64)))))))))) (fun x : S51 => (x.f0, x.f1, x.f2, x.f3, x.f4, x.f5, x.f6, x.f7))
theorem k51_open {w : World} {x : S51} {cs : List Value} (h : k51.K w x cs) : ∃ A5 c5 A6 c6 A7 c7, cs = [.int .i64 x.f0, .int .i64 x.f1, .int .i64 x.f2, .int .i64 x.f3, .int .i64 x.f4, .slice A5 x.f5.length c5, .slice A6 x.f6.length c6, .slice A7 x.f7.length c7] ∧ x.f5.length ≤ c5 ∧ (Kd.int .i64).C w A5 x.f5.length x.f5 ∧ x.f6.length ≤ c6 ∧ (Kd.int .i64).C w A6 x.f6.length x.f6 ∧ x.f7.length ≤ c7 ∧ (Kd.slice 2 (Kd.int .i64)).C w A7 x.f7.length x.f7 := by
  obtain ⟨_, _, rfl, rfl, ⟨_, _, rfl, rfl, ⟨_, _, rfl, rfl, ⟨_, _, rfl, rfl, ⟨_, _, rfl, rfl, ⟨_, _, rfl, ⟨A5, c5, rfl, l5, g5⟩, ⟨_, _, rfl, ⟨A6, c6, rfl, l6, g6⟩, ⟨A7, c7, rfl, l7, g7⟩⟩⟩⟩⟩⟩⟩⟩ := h
  exact ⟨A5, c5, A6, c6, A7, c7, rfl, l5, g5, l6, g6, l7, g7⟩
theorem k51_openM {w : World} {base : Nat} {ok : Nat → Prop} {x : S51} {cs : List Value} (h : k51.M w base ok x cs) : ∃ v5 v6 v7, cs = [.int .i64 x.f0, .int .i64 x.f1, .int .i64 x.f2, .int .i64 x.f3, .int .i64 x.f4, v5, v6, v7] ∧ (Kd.int .i64).R 2 w base ok v5 x.f5 ∧ (Kd.int .i64).R 2 w base ok v6 x.f6 ∧ (Kd.slice 2 (Kd.int .i64)).R 24 w base ok v7 x.f7 := by
  obtain ⟨_, _, rfl, rfl, ⟨_, _, rfl, rfl, ⟨_, _, rfl, rfl, ⟨_, _, rfl, rfl, ⟨_, _, rfl, rfl, ⟨_, _, rfl, ⟨v5, rfl, g5⟩, ⟨_, _, rfl, ⟨v6, rfl, g6⟩, ⟨v7, rfl, g7⟩⟩⟩⟩⟩⟩⟩⟩ := h
  exact ⟨v5, v6, v7, rfl, g5, g6, g7⟩
theorem k51_mk (w : World) (x : S51) {A5 : Option Addr} {c5 : Nat} (l5 : x.f5.length ≤ c5) (g5 : (Kd.int .i64).C w A5 x.f5.length x.f5) {A6 : Option Addr} {c6 : Nat} (l6 : x.f6.length ≤ c6) (g6 : (Kd.int .i64).C w A6 x.f6.length x.f6) {A7 : Option Addr} {c7 : Nat} (l7 : x.f7.length ≤ c7) (g7 : (Kd.slice 2 (Kd.int .i64)).C w A7 x.f7.length x.f7) : k51.K w x [.int .i64 x.f0, .int .i64 x.f1, .int .i64 x.f2, .int .i64 x.f3, .int .i64 x.f4, .slice A5 x.f5.length c5, .slice A6 x.f6.length c6, .slice A7 x.f7.length c7] := ⟨[.int .i64 x.f0], [.int .i64 x.f1, .int .i64 x.f2, .int .i64 x.f3, .int .i64 x.f4, .slice A5 x.f5.length c5, .slice A6 x.f6.length c6, .slice A7 x.f7.length c7], rfl, rfl, ⟨[.int .i64 x.f1], [.int .i64 x.f2, .int .i64 x.f3, .int .i64 x.f4, .slice A5 x.f5.length c5, .slice A6 x.f6.length c6, .slice A7 x.f7.length c7], rfl, rfl, ⟨[.int .i64 x.f2], [.int .i64 x.f3, .int .i64 x.f4, .slice A5 x.f5.length c5, .slice A6 x.f6.length c6, .slice A7 x.f7.length c7], rfl, rfl, ⟨[.int .i64 x.f3], [.int .i64 x.f4, .slice A5 x.f5.length c5, .slice A6 x.f6.length c6, .slice A7 x.f7.length c7], rfl, rfl, ⟨[.int .i64 x.f4], [.slice A5 x.f5.length c5, .slice A6 x.f6.length c6, .slice A7 x.f7.length c7], rfl, rfl, ⟨[.slice A5 x.f5.length c5], [.slice A6 x.f6.length c6, .slice A7 x.f7.length c7], rfl, ⟨A5, c5, rfl, l5, g5⟩, ⟨[.slice A6 x.f6.length c6], [.slice A7 x.f7.length c7], rfl, ⟨A6, c6, rfl, l6, g6⟩, ⟨A7, c7, rfl, l7, g7⟩⟩⟩⟩⟩⟩⟩⟩
theorem k51_mkM (w : World) (base : Nat) (ok : Nat → Prop) (x : S51) {v5 : Value} (g5 : (Kd.int .i64).R 2 w base ok v5 x.f5) {v6 : Value} (g6 : (Kd.int .i64).R 2 w base ok v6 x.f6) {v7 : Value} (g7 : (Kd.slice 2 (Kd.int .i64)).R 24 w base ok v7 x.f7) : k51.M w base ok x [.int .i64 x.f0, .int .i64 x.f1, .int .i64 x.f2, .int .i64 x.f3, .int .i64 x.f4, v5, v6, v7] := ⟨[.int .i64 x.f0], [.int .i64 x.f1, .int .i64 x.f2, .int .i64 x.f3, .int .i64 x.f4, v5, v6, v7], rfl, rfl, ⟨[.int .i64 x.f1], [.int .i64 x.f2, .int .i64 x.f3, .int .i64 x.f4, v5, v6, v7], rfl, rfl, ⟨[.int .i64 x.f2], [.int .i64 x.f3, .int .i64 x.f4, v5, v6, v7], rfl, rfl, ⟨[.int .i64 x.f3], [.int .i64 x.f4, v5, v6, v7], rfl, rfl, ⟨[.int .i64 x.f4], [v5, v6, v7], rfl, rfl, ⟨[v5], [v6, v7], rfl, ⟨v5, rfl, g5⟩, ⟨[v6], [v7], rfl, ⟨v6, rfl, g6⟩, ⟨v7, rfl, g7⟩⟩⟩⟩⟩⟩⟩⟩
def rd_T51 (xs : List S51) (i : Int) : S51 := xs.getD i.toNat z51
theorem at_T51 {w : World} {A : Option Addr} {n : Nat} {xs : List S51} (h : Kd.C k51 w A n xs) (i : Int) (h0 : 0 ≤ i) (h1 : i < n) : ∃ ad A5 c5 A6 c6 A7 c7, A = some ad ∧ w.cell? (ad.add (i.toNat * 8)) = some (.int .i64 (rd_T51 xs i).f0) ∧ w.cell? ⟨(ad.add (i.toNat * 8)).block, (ad.add (i.toNat * 8)).off + 1, none⟩ = some (.int .i64 (rd_T51 xs i).f1) ∧ w.cell? ⟨(ad.add (i.toNat * 8)).block, (ad.add (i.toNat * 8)).off + 2, none⟩ = some (.int .i64 (rd_T51 xs i).f2) ∧ w.cell? ⟨(ad.add (i.toNat * 8)).block, (ad.add (i.toNat * 8)).off + 3, none⟩ = some (.int .i64 (rd_T51 xs i).f3) ∧ w.cell? ⟨(ad.add (i.toNat * 8)).block, (ad.add (i.toNat * 8)).off + 4, none⟩ = some (.int .i64 (rd_T51 xs i).f4) ∧ w.cell? ⟨(ad.add (i.toNat * 8)).block, (ad.add (i.toNat * 8)).off + 5, none⟩ = some (.slice A5 (rd_T51 xs i).f5.length c5) ∧ w.cell? ⟨(ad.add (i.toNat * 8)).block, (ad.add (i.toNat * 8)).off + 6, none⟩ = some (.slice A6 (rd_T51 xs i).f6.length c6) ∧ w.cell? ⟨(ad.add (i.toNat * 8)).block, (ad.add (i.toNat * 8)).off + 7, none⟩ = some (.slice A7 (rd_T51 xs i).f7.length c7) ∧ (rd_T51 xs i).f5.length ≤ c5 ∧ (Kd.int .i64).C w A5 (rd_T51 xs i).f5.length (rd_T51 xs i).f5 ∧ (rd_T51 xs i).f6.length ≤ c6 ∧ (Kd.int .i64).C w A6 (rd_T51 xs i).f6.length (rd_T51 xs i).f6 ∧ (rd_T51 xs i).f7.length ≤ c7 ∧ (Kd.slice 2 (Kd.int .i64)).C w A7 (rd_T51 xs i).f7.length (rd_T51 xs i).f7 := by
  obtain ⟨ad, c, e, _, hK, hc0⟩ := Kd.C_get h z51 i h0 h1
  have hc : ∀ j u, c[j]? = some u → w.cell? (ad.add (i.toNat * 8 + j)) = some u := hc0
  obtain ⟨A5, c5, A6, c6, A7, c7, rfl, l5, g5, l6, g6, l7, g7⟩ := k51_open hK
  exact ⟨ad, A5, c5, A6, c6, A7, c7, e, hc 0 _ rfl, by rw [← add_field _ _ 1 (by omega)]; exact hc 1 _ rfl, by rw [← add_field _ _ 2 (by omega)]; exact hc 2 _ rfl, by rw [← add_field _ _ 3 (by omega)]; exact hc 3 _ rfl, by rw [← add_field _ _ 4 (by omega)]; exact hc 4 _ rfl, by rw [← add_field _ _ 5 (by omega)]; exact hc 5 _ rfl, by rw [← add_field _ _ 6 (by omega)]; exact hc 6 _ rfl, by rw [← add_field _ _ 7 (by omega)]; exact hc 7 _ rfl, l5, g5, l6, g6, l7, g7⟩

/-! #### struct type 53 -/
structure S53 where
  f0 : S50
  f1 : S51
  f2 : (List Int)
  f3 : Bool
  f4 : Int
  f5 : Int
  f6 : (List Int)
  f7 : (List Int)
  f8 : (List Int)
def z53 : S53 := ⟨z50, z51, ([] : List Int), false, (0 : Int), (0 : Int), ([] : List Int), ([] : List Int), ([] : List Int)⟩
def k53 : Kd S53 := Kd.iso (Kd.pair k50 (Kd.pair k51 (Kd.pair (Kd.slice 2 (Kd.int .i64)) (Kd.pair Kd.bool (Kd.pair (Kd.int .i64) (Kd.pair (Kd.int .i64) (Kd.pair (Kd.slice 2 (Kd.int .i64)) (Kd.pair (Kd.slice 2 (Kd.int .i64)) (Kd.slice 2 (Kd.int .i64)))))))))) (fun x : S53 => (x.f0, x.f1, x.f2, x.f3, x.f4, x.f5, x.f6, x.f7, x.f8))
theorem k53_open {w : World} {x : S53} {cs : List Value} (h : k53.K w x cs) : ∃ A9 c9 A10 c10 A11 c11 A12 c12 A16 c16 A17 c17 A18 c18, cs = [.int .i64 x.f0.f0, .int .i64 x.f0.f1, .bool x.f0.f2, .bool x.f0.f3, .int .i64 x.f1.f0, .int .i64 x.f1.f1, .int .i64 x.f1.f2, .int .i64 x.f1.f3, .int .i64 x.f1.f4, .slice A9 x.f1.f5.length c9, .slice A10 x.f1.f6.length c10, .slice A11 x.f1.f7.length c11, .slice A12 x.f2.length c12, .bool x.f3, .int .i64 x.f4, .int .i64 x.f5, .slice A16 x.f6.length c16, .slice A17 x.f7.length c17, .slice A18 x.f8.length c18] ∧ x.f1.f5.length ≤ c9 ∧ (Kd.int .i64).C w A9 x.f1.f5.length x.f1.f5 ∧ x.f1.f6.length ≤ c10 ∧ (Kd.int .i64).C w A10 x.f1.f6.length x.f1.f6 ∧ x.f1.f7.length ≤ c11 ∧ (Kd.slice 2 (Kd.int .i64)).C w A11 x.f1.f7.length x.f1.f7 ∧ x.f2.length ≤ c12 ∧ (Kd.int .i64).C w A12 x.f2.length x.f2 ∧ x.f6.length ≤ c16 ∧ (Kd.int .i64).C w A16 x.f6.length x.f6 ∧ x.f7.length ≤ c17 ∧ (Kd.int .i64).C w A17 x.f7.length x.f7 ∧ x.f8.length ≤ c18 ∧ (Kd.int .i64).C w A18 x.f8.length x.f8 := by
  obtain ⟨_, _, rfl, s0, ⟨_, _, rfl, s4, ⟨_, _, rfl, ⟨A12, c12, rfl, l12, g12⟩, ⟨_, _, rfl, rfl, ⟨_, _, rfl, rfl, ⟨_, _, rfl, rfl, ⟨_, _, rfl, ⟨A16, c16, rfl, l16, g16⟩, ⟨_, _, rfl, ⟨A17, c17, rfl, l17, g17⟩, ⟨A18, c18, rfl, l18, g18⟩⟩⟩⟩⟩⟩⟩⟩⟩ := h
  obtain rfl := k50_open s0
  obtain ⟨A9, c9, A10, c10, A11, c11, rfl, l9, g9, l10, g10, l11, g11⟩ := k51_open s4
  exact ⟨A9, c9, A10, c10, A11, c11, A12, c12, A16, c16, A17, c17, A18, c18, rfl, l9, g9, l10, g10, l11, g11, l12, g12, l16, g16, l17, g17, l18, g18⟩
theorem k53_openM {w : World} {base : Nat} {ok : Nat → Prop} {x : S53} {cs : List Value} (h : k53.M w base ok x cs) : ∃ v9 v10 v11 v12 v16 v17 v18, cs = [.int .i64 x.f0.f0, .int .i64 x.f0.f1, .bool x.f0.f2, .bool x.f0.f3, .int .i64 x.f1.f0, .int .i64 x.f1.f1, .int .i64 x.f1.f2, .int .i64 x.f1.f3, .int .i64 x.f1.f4, v9, v10, v11, v12, .bool x.f3, .int .i64 x.f4, .int .i64 x.f5, v16, v17, v18] ∧ (Kd.int .i64).R 2 w base ok v9 x.f1.f5 ∧ (Kd.int .i64).R 2 w base ok v10 x.f1.f6 ∧ (Kd.slice 2 (Kd.int .i64)).R 24 w base ok v11 x.f1.f7 ∧ (Kd.int .i64).R 2 w base ok v12 x.f2 ∧ (Kd.int .i64).R 2 w base ok v16 x.f6 ∧ (Kd.int .i64).R 2 w base ok v17 x.f7 ∧ (Kd.int .i64).R 2 w base ok v18 x.f8 := by
  obtain ⟨_, _, rfl, s0, ⟨_, _, rfl, s4, ⟨_, _, rfl, ⟨v12, rfl, g12⟩, ⟨_, _, rfl, rfl, ⟨_, _, rfl, rfl, ⟨_, _, rfl, rfl, ⟨_, _, rfl, ⟨v16, rfl, g16⟩, ⟨_, _, rfl, ⟨v17, rfl, g17⟩, ⟨v18, rfl, g18⟩⟩⟩⟩⟩⟩⟩⟩⟩ := h
  obtain rfl := k50_openM s0
  obtain ⟨v9, v10, v11, rfl, g9, g10, g11⟩ := k51_openM s4
  exact ⟨v9, v10, v11, v12, v16, v17, v18, rfl, g9, g10, g11, g12, g16, g17, g18⟩
theorem k53_mk (w : World) (x : S53) {A9 : Option Addr} {c9 : Nat} (l9 : x.f1.f5.length ≤ c9) (g9 : (Kd.int .i64).C w A9 x.f1.f5.length x.f1.f5) {A10 : Option Addr} {c10 : Nat} (l10 : x.f1.f6.length ≤ c10) (g10 : (Kd.int .i64).C w A10 x.f1.f6.length x.f1.f6) {A11 : Option Addr} {c11 : Nat} (l11 : x.f1.f7.length ≤ c11) (g11 : (Kd.slice 2 (Kd.int .i64)).C w A11 x.f1.f7.length x.f1.f7) {A12 : Option Addr} {c12 : Nat} (l12 : x.f2.length ≤ c12) (g12 : (Kd.int .i64).C w A12 x.f2.length x.f2) {A16 : Option Addr} {c16 : Nat} (l16 : x.f6.length ≤ c16) (g16 : (Kd.int .i64).C w A16 x.f6.length x.f6) {A17 : Option Addr} {c17 : Nat} (l17 : x.f7.length ≤ c17) (g17 : (Kd.int .i64).C w A17 x.f7.length x.f7) {A18 : Option Addr} {c18 : Nat} (l18 : x.f8.length ≤ c18) (g18 : (Kd.int .i64).C w A18 x.f8.length x.f8) : k53.K w x [.int .i64 x.f0.f0, .int .i64 x.f0.f1, .bool x.f0.f2, .bool x.f0.f3, .int .i64 x.f1.f0, .int .i64 x.f1.f1, .int .i64 x.f1.f2, .int .i64 x.f1.f3, .int .i64 x.f1.f4, .slice A9 x.f1.f5.length c9, .slice A10 x.f1.f6.length c10, .slice A11 x.f1.f7.length c11, .slice A12 x.f2.length c12, .bool x.f3, .int .i64 x.f4, .int .i64 x.f5, .slice A16 x.f6.length c16, .slice A17 x.f7.length c17, .slice A18 x.f8.length c18] := ⟨[.int .i64 x.f0.f0, .int .i64 x.f0.f1, .bool x.f0.f2, .bool x.f0.f3], [.int .i64 x.f1.f0, .int .i64 x.f1.f1, .int .i64 x.f1.f2, .int .i64 x.f1.f3, .int .i64 x.f1.f4, .slice A9 x.f1.f5.length c9, .slice A10 x.f1.f6.length c10, .slice A11 x.f1.f7.length c11, .slice A12 x.f2.length c12, .bool x.f3, .int .i64 x.f4, .int .i64 x.f5, .slice A16 x.f6.length c16, .slice A17 x.f7.length c17, .slice A18 x.f8.length c18], rfl, (k50_mk w x.f0 ), ⟨[.int .i64 x.f1.f0, .int .i64 x.f1.f1, .int .i64 x.f1.f2, .int .i64 x.f1.f3, .int .i64 x.f1.f4, .slice A9 x.f1.f5.length c9, .slice A10 x.f1.f6.length c10, .slice A11 x.f1.f7.length c11], [.slice A12 x.f2.length c12, .bool x.f3, .int .i64 x.f4, .int .i64 x.f5, .slice A16 x.f6.length c16, .slice A17 x.f7.length c17, .slice A18 x.f8.length c18], rfl, (k51_mk w x.f1 l9 g9 l10 g10 l11 g11), ⟨[.slice A12 x.f2.length c12], [.bool x.f3, .int .i64 x.f4, .int .i64 x.f5, .slice A16 x.f6.length c16, .slice A17 x.f7.length c17, .slice A18 x.f8.length c18], rfl, ⟨A12, c12, rfl, l12, g12⟩, ⟨[.bool x.f3], [.int .i64 x.f4, .int .i64 x.f5, .slice A16 x.f6.length c16, .slice A17 x.f7.length c17, .slice A18 x.f8.length c18], rfl, rfl, ⟨[.int .i64 x.f4], [.int .i64 x.f5, .slice A16 x.f6.length c16, .slice A17 x.f7.length c17, .slice A18 x.f8.length c18], rfl, rfl, ⟨[.int .i64 x.f5], [.slice A16 x.f6.length c16, .slice A17 x.f7.length c17, .slice A18 x.f8.length c18], rfl, rfl, ⟨[.slice A16 x.f6.length c16], [.slice A17 x.f7.length c17, .slice A18 x.f8.length c18], rfl, ⟨A16, c16, rfl, l16, g16⟩, ⟨[.slice A17 x.f7.length c17], [.slice A18 x.f8.length c18], rfl, ⟨A17, c17, rfl, l17, g17⟩, ⟨A18, c18, rfl, l18, g18⟩⟩⟩⟩⟩⟩⟩⟩⟩
theorem k53_mkM (w : World) (base : Nat) (ok : Nat → Prop) (x : S53) {v9 : Value} (g9 : (Kd.int .i64).R 2 w base ok v9 x.f1.f5) {v10 : Value} (g10 : (Kd.int .i64).R 2 w base ok v10 x.f1.f6) {v11 : Value} (g11 : (Kd.slice 2 (Kd.int .i64)).R 24 w base ok v11 x.f1.f7) {v12 : Value} (g12 : (Kd.int .i64).R 2 w base ok v12 x.f2) {v16 : Value} (g16 : (Kd.int .i64).R 2 w base ok v16 x.f6) {v17 : Value} (g17 : (Kd.int .i64).R 2 w base ok v17 x.f7) {v18 : Value} (g18 : (Kd.int .i64).R 2 w base ok v18 x.f8) : k53.M w base ok x [.int .i64 x.f0.f0, .int .i64 x.f0.f1, .bool x.f0.f2, .bool x.f0.f3, .int .i64 x.f1.f0, .int .i64 x.f1.f1, .int .i64 x.f1.f2, .int .i64 x.f1.f3, .int .i64 x.f1.f4, v9, v10, v11, v12, .bool x.f3, .int .i64 x.f4, .int .i64 x.f5, v16, v17, v18] := ⟨[.int .i64 x.f0.f0, .int .i64 x.f0.f1, .bool x.f0.f2, .bool x.f0.f3], [.int .i64 x.f1.f0, .int .i64 x.f1.f1, .int .i64 x.f1.f2, .int .i64 x.f1.f3, .int .i64 x.f1.f4, v9, v10, v11, v12, .bool x.f3, .int .i64 x.f4, .int .i64 x.f5, v16, v17, v18], rfl, (k50_mkM w base ok x.f0 ), ⟨[.int .i64 x.f1.f0, .int .i64 x.f1.f1, .int .i64 x.f1.f2, .int .i64 x.f1.f3, .int .i64 x.f1.f4, v9, v10, v11], [v12, .bool x.f3, .int .i64 x.f4, .int .i64 x.f5, v16, v17, v18], rfl, (k51_mkM w base ok x.f1 g9 g10 g11), ⟨[v12], [.bool x.f3, .int .i64 x.f4, .int .i64 x.f5, v16, v17, v18], rfl, ⟨v12, rfl, g12⟩, ⟨[.bool x.f3], [.int .i64 x.f4, .int .i64 x.f5, v16, v17, v18], rfl, rfl, ⟨[.int .i64 x.f4], [.int .i64 x.f5, v16, v17, v18], rfl, rfl, ⟨[.int .i64 x.f5], [v16, v17, v18], rfl, rfl, ⟨[v16], [v17, v18], rfl, ⟨v16, rfl, g16⟩, ⟨[v17], [v18], rfl, ⟨v17, rfl, g17⟩, ⟨v18, rfl, g18⟩⟩⟩⟩⟩⟩⟩⟩⟩
def rd_T53 (xs : List S53) (i : Int) : S53 := xs.getD i.toNat z53
theorem at_T53 {w : World} {A : Option Addr} {n : Nat} {xs : List S53} (h : Kd.C k53 w A n xs) (i : Int) (h0 : 0 ≤ i) (h1 : i < n) : ∃ ad A9 c9 A10 c10 A11 c11 A12 c12 A16 c16 A17 c17 A18 c18, A = some ad ∧ w.cell? (ad.add (i.toNat * 19)) = some (.int .i64 (rd_T53 xs i).f0.f0) ∧ w.cell? ⟨(ad.add (i.toNat * 19)).block, (ad.add (i.toNat * 19)).off + 1, none⟩ = some (.int .i64 (rd_T53 xs i).f0.f1) ∧ w.cell? ⟨(ad.add (i.toNat * 19)).block, (ad.add (i.toNat * 19)).off + 2, none⟩ = some (.bool (rd_T53 xs i).f0.f2) ∧ w.cell? ⟨(ad.add (i.toNat * 19)).block, (ad.add (i.toNat * 19)).off + 3, none⟩ = some (.bool (rd_T53 xs i).f0.f3) ∧ w.cell? ⟨(ad.add (i.toNat * 19)).block, (ad.add (i.toNat * 19)).off + 4, none⟩ = some (.int .i64 (rd_T53 xs i).f1.f0) ∧ w.cell? ⟨(ad.add (i.toNat * 19)).block, (ad.add (i.toNat * 19)).off + 5, none⟩ = some (.int .i64 (rd_T53 xs i).f1.f1) ∧ w.cell? ⟨(ad.add (i.toNat * 19)).block, (ad.add (i.toNat * 19)).off + 6, none⟩ = some (.int .i64 (rd_T53 xs i).f1.f2) ∧ w.cell? ⟨(ad.add (i.toNat * 19)).block, (ad.add (i.toNat * 19)).off + 7, none⟩ = some (.int .i64 (rd_T53 xs i).f1.f3) ∧ w.cell? ⟨(ad.add (i.toNat * 19)).block, (ad.add (i.toNat * 19)).off + 8, none⟩ = some (.int .i64 (rd_T53 xs i).f1.f4) ∧ w.cell? ⟨(ad.add (i.toNat * 19)).block, (ad.add (i.toNat * 19)).off + 9, none⟩ = some (.slice A9 (rd_T53 xs i).f1.f5.length c9) ∧ w.cell? ⟨(ad.add (i.toNat * 19)).block, (ad.add (i.toNat * 19)).off + 10, none⟩ = some (.slice A10 (rd_T53 xs i).f1.f6.length c10) ∧ w.cell? ⟨(ad.add (i.toNat * 19)).block, (ad.add (i.toNat * 19)).off + 11, none⟩ = some (.slice A11 (rd_T53 xs i).f1.f7.length c11) ∧ w.cell? ⟨(ad.add (i.toNat * 19)).block, (ad.add (i.toNat * 19)).off + 12, none⟩ = some (.slice A12 (rd_T53 xs i).f2.length c12) ∧ w.cell? ⟨(ad.add (i.toNat * 19)).block, (ad.add (i.toNat * 19)).off + 13, none⟩ = some (.bool (rd_T53 xs i).f3) ∧ w.cell? ⟨(ad.add (i.toNat * 19)).block, (ad.add (i.toNat * 19)).off + 14, none⟩ = some (.int .i64 (rd_T53 xs i).f4) ∧ w.cell? ⟨(ad.add (i.toNat * 19)).block, (ad.add (i.toNat * 19)).off + 15, none⟩ = some (.int .i64 (rd_T53 xs i).f5) ∧ w.cell? ⟨(ad.add (i.toNat * 19)).block, (ad.add (i.toNat * 19)).off + 16, none⟩ = some (.slice A16 (rd_T53 xs i).f6.length c16) ∧ w.cell? ⟨(ad.add (i.toNat * 19)).block, (ad.add (i.toNat * 19)).off + 17, none⟩ = some (.slice A17 (rd_T53 xs i).f7.length c17) ∧ w.cell? ⟨(ad.add (i.toNat * 19)).block, (ad.add (i.toNat * 19)).off + 18, none⟩ = some (.slice A18 (rd_T53 xs i).f8.length c18) ∧ (rd_T53 xs i).f1.f5.length ≤ c9 ∧ (Kd.int .i64).C w A9 (rd_T53 xs i).f1.f5.length (rd_T53 xs i).f1.f5 ∧ (rd_T53 xs i).f1.f6.length ≤ c10 ∧ (Kd.int .i64).C w A10 (rd_T53 xs i).f1.f6.length (rd_T53 xs i).f1.f6 ∧ (rd_T53 xs i).f1.f7.length ≤ c11 ∧ (Kd.slice 2 (Kd.int .i64)).C w A11 (rd_T53 xs i).f1.f7.length (rd_T53 xs i).f1.f7 ∧ (rd_T53 xs i).f2.length ≤ c12 ∧ (Kd.int .i64).C w A12 (rd_T53 xs i).f2.length (rd_T53 xs i).f2 ∧ (rd_T53 xs i).f6.length ≤ c16 ∧ (Kd.int .i64).C w A16 (rd_T53 xs i).f6.length (rd_T53 xs i).f6 ∧ (rd_T53 xs i).f7.length ≤ c17 ∧ (Kd.int .i64).C w A17 (rd_T53 xs i).f7.length (rd_T53 xs i).f7 ∧ (rd_T53 xs i).f8.length ≤ c18 ∧ (Kd.int .i64).C w A18 (rd_T53 xs i).f8.length (rd_T53 xs i).f8 := by
  obtain ⟨ad, c, e, _, hK, hc0⟩ := Kd.C_get h z53 i h0 h1
  have hc : ∀ j u, c[j]? = some u → w.cell? (ad.add (i.toNat * 19 + j)) = some u := hc0
  obtain ⟨A9, c9, A10, c10, A11, c11, A12, c12, A16, c16, A17, c17, A18, c18, rfl, l9, g9, l10, g10, l11, g11, l12, g12, l16, g16, l17, g17, l18, g18⟩ := k53_open hK
  exact ⟨ad, A9, c9, A10, c10, A11, c11, A12, c12, A16, c16, A17, c17, A18, c18, e, hc 0 _ rfl, by rw [← add_field _ _ 1 (by omega)]; exact hc 1 _ rfl, by rw [← add_field _ _ 2 (by omega)]; exact hc 2 _ rfl, by rw [← add_field _ _ 3 (by omega)]; exact hc 3 _ rfl, by rw [← add_field _ _ 4 (by omega)]; exact hc 4 _ rfl, by rw [← add_field _ _ 5 (by omega)]; exact hc 5 _ rfl, by rw [← add_field _ _ 6 (by omega)]; exact hc 6 _ rfl, by rw [← add_field _ _ 7 (by omega)]; exact hc 7 _ rfl, by rw [← add_field _ _ 8 (by omega)]; exact hc 8 _ rfl, by rw [← add_field _ _ 9 (by omega)]; exact hc 9 _ rfl, by rw [← add_field _ _ 10 (by omega)]; exact hc 10 _ rfl, by rw [← add_field _ _ 11 (by omega)]; exact hc 11 _ rfl, by rw [← add_field _ _ 12 (by omega)]; exact hc 12 _ rfl, by rw [← add_field _ _ 13 (by omega)]; exact hc 13 _ rfl, by rw [← add_field _ _ 14 (by omega)]; exact hc 14 _ rfl, by rw [← add_field _ _ 15 (by omega)]; exact hc 15 _ rfl, by rw [← add_field _ _ 16 (by omega)]; exact hc 16 _ rfl, by rw [← add_field _ _ 17 (by omega)]; exact hc 17 _ rfl, by rw [← add_field _ _ 18 (by omega)]; exact hc 18 _ rfl, l9, g9, l10, g10, l11, g11, l12, g12, l16, g16, l17, g17, l18, g18⟩

end Go.Proofs.Yteahhohlnoifaaa.QZ
