/-
  No cell of these rows narrows 'for every input' (looked for: loops, veiled, ifaces, maps, wideKeys, modest, calm, conditions, laid).
  DERIVED. THE GIVEN ROWS OF THIS SEAT. 4 by the template 'for every input the law returns true; each argument reads behind the call as it read before'; 0 by the template 'total and deterministic' (their statements: YteahhohlnoifaaaTotals.lean).
  GIVEN WITH THE SEED: the statements are not yours to turn. If you find one false, say at which input.
  Laid BY PROGRAM, IN A SANDBOX (cutbox-rows.mjs): the forced cells as the released guide's own fill.sh prints them over the translation 68f8a3f68cc5c341… (all of the seat's roots in one cut). By AI agents, Wed Nov 11 2026. No macro, syntax, notation, axiom, sorry.
-/
import Derived.Test.YteahhohlnoifaaaChecked
import GoSem.Claim
import GoSem.ClaimJoined
import GoSem.ClaimMapViews
import Derived.JoinedTies
import Derived.KernelRfl
namespace Go.Proofs.Yteahhohlnoifaaa
/- THE CELL 'sum', in the pinned program and in every row, IS THE sha256 OF THE DUMP (.gsa) THAT YteahhohlnoifaaaProg.lean LOADS. Nothing in Lean hashes anything: it is a label: what it is worth is what the hold of that sum in a sandbox is worth. -/
noncomputable def Try.pinned : Pinned := { name := "yteahhohlnoifaaa", sum := "68f8a3f68cc5c341e048006430397bdef748709658982443f35bd6c63de98942", checked := Try.checked }
namespace Rows
def none {H : Type} : Left H := { results := [], args := [] }

/-- 'laws.FnExactSourcesOf': WHATEVER THE INPUT: true; the input reads as it did. -/
def fnExactSourcesOfSpec : ChangeSpec := { name := "fnExactSourcesOf", fn := fun _ => fun
  | [d] => { results := [.lit (.bool true)], args := [d] }
  | _ => none }
def fnExactSourcesOfRow : OpenClaim := { program := "yteahhohlnoifaaa", sum := "68f8a3f68cc5c341e048006430397bdef748709658982443f35bd6c63de98942", func := "loop.example/g00657/laws.FnExactSourcesOf", spec := "fnExactSourcesOf", apart := false }
def FnExactSourcesOfSaid : Prop := fnExactSourcesOfRow.holds Try.pinned (OpenSpec.ofChange fnExactSourcesOfSpec)

/-- ITS FALSE NEIGHBOUR: 'it returns false'. Refute it at one input. -/
def fnExactSourcesOfWrong : ChangeSpec := { name := "fnExactSourcesOf", fn := fun _ => fun
  | [d] => { results := [.lit (.bool false)], args := [d] }
  | _ => none }
def FnExactSourcesOfWrongFalsely : Prop := fnExactSourcesOfRow.holds Try.pinned (OpenSpec.ofChange fnExactSourcesOfWrong)

/-- 'laws.FnExactGapsIn': WHATEVER THE INPUT: true; the input reads as it did. -/
def fnExactGapsInSpec : ChangeSpec := { name := "fnExactGapsIn", fn := fun _ => fun
  | [d] => { results := [.lit (.bool true)], args := [d] }
  | _ => none }
def fnExactGapsInRow : OpenClaim := { program := "yteahhohlnoifaaa", sum := "68f8a3f68cc5c341e048006430397bdef748709658982443f35bd6c63de98942", func := "loop.example/g00657/laws.FnExactGapsIn", spec := "fnExactGapsIn", apart := false }
def FnExactGapsInSaid : Prop := fnExactGapsInRow.holds Try.pinned (OpenSpec.ofChange fnExactGapsInSpec)

/-- ITS FALSE NEIGHBOUR: 'it returns false'. Refute it at one input. -/
def fnExactGapsInWrong : ChangeSpec := { name := "fnExactGapsIn", fn := fun _ => fun
  | [d] => { results := [.lit (.bool false)], args := [d] }
  | _ => none }
def FnExactGapsInWrongFalsely : Prop := fnExactGapsInRow.holds Try.pinned (OpenSpec.ofChange fnExactGapsInWrong)

/-- 'laws.FnExactIsFaithful': WHATEVER THE INPUT: true; the input reads as it did. -/
def fnExactIsFaithfulSpec : ChangeSpec := { name := "fnExactIsFaithful", fn := fun _ => fun
  | [d1, d2, d3] => { results := [.lit (.bool true)], args := [d1, d2, d3] }
  | _ => none }
def fnExactIsFaithfulRow : OpenClaim := { program := "yteahhohlnoifaaa", sum := "68f8a3f68cc5c341e048006430397bdef748709658982443f35bd6c63de98942", func := "loop.example/g00657/laws.FnExactIsFaithful", spec := "fnExactIsFaithful", unfollowed := true, recurses := true, apart := false }
def FnExactIsFaithfulSaid : Prop := fnExactIsFaithfulRow.holds Try.pinned (OpenSpec.ofChange fnExactIsFaithfulSpec)

/-- ITS FALSE NEIGHBOUR: 'it returns false'. Refute it at one input. -/
def fnExactIsFaithfulWrong : ChangeSpec := { name := "fnExactIsFaithful", fn := fun _ => fun
  | [d1, d2, d3] => { results := [.lit (.bool false)], args := [d1, d2, d3] }
  | _ => none }
def FnExactIsFaithfulWrongFalsely : Prop := fnExactIsFaithfulRow.holds Try.pinned (OpenSpec.ofChange fnExactIsFaithfulWrong)

/-- 'laws.FnExactEnvelopeAt': WHATEVER THE INPUT: true; the input reads as it did. -/
def fnExactEnvelopeAtSpec : ChangeSpec := { name := "fnExactEnvelopeAt", fn := fun _ => fun
  | [d1, d2, d3] => { results := [.lit (.bool true)], args := [d1, d2, d3] }
  | _ => none }
def fnExactEnvelopeAtRow : OpenClaim := { program := "yteahhohlnoifaaa", sum := "68f8a3f68cc5c341e048006430397bdef748709658982443f35bd6c63de98942", func := "loop.example/g00657/laws.FnExactEnvelopeAt", spec := "fnExactEnvelopeAt", unfollowed := true, recurses := true, apart := false }
def FnExactEnvelopeAtSaid : Prop := fnExactEnvelopeAtRow.holds Try.pinned (OpenSpec.ofChange fnExactEnvelopeAtSpec)

/-- ITS FALSE NEIGHBOUR: 'it returns false'. Refute it at one input. -/
def fnExactEnvelopeAtWrong : ChangeSpec := { name := "fnExactEnvelopeAt", fn := fun _ => fun
  | [d1, d2, d3] => { results := [.lit (.bool false)], args := [d1, d2, d3] }
  | _ => none }
def FnExactEnvelopeAtWrongFalsely : Prop := fnExactEnvelopeAtRow.holds Try.pinned (OpenSpec.ofChange fnExactEnvelopeAtWrong)

/- THE SECOND FORM. 'bulk': how many values and letters a reading holds, each counted each time it is reached (what is shared counts as often as it is met; a slice's spare places count too). A statement '..UptoSaid' is the law's where the arguments, and the package variables that the reading takes, are together of bulk at most 1048576: NARROWER than '..Said'. Prove '..Said' where nothing that the law and all that it calls make is longer than what came in: it says more and counts as full. Else prove '..UptoSaid'. A law counts once. -/
mutual
def uptoBulk {H : Type} : DataW H → Nat
  | .lit (.string bytes) => bytes.length + 1
  | .lit _ => 1
  | .nil => 1
  | .ptr d => uptoBulk d + 1
  | .slice elems spare => uptoBulkAll elems + uptoBulkAll spare + 1
  | .agg parts => uptoBulkAll parts + 1
  | .iface _ d => uptoBulk d + 1
  | .map entries => uptoBulkEntries entries + 1
  | .held _ => 1
def uptoBulkAll {H : Type} : List (DataW H) → Nat
  | [] => 0
  | d :: r => uptoBulk d + uptoBulkAll r
def uptoBulkEntries {H : Type} : List (Lit × DataW H) → Nat
  | [] => 0
  | x :: r => uptoBulkEntry x + uptoBulkEntries r
def uptoBulkEntry {H : Type} : Lit × DataW H → Nat
  | (.string bytes, d) => bytes.length + uptoBulk d + 1
  | (_, d) => uptoBulk d + 1
 end
def uptoSmall : (H : Type) → List (DataW H) → Bool := fun _ ds => decide (uptoBulkAll ds ≤ 1048576)
def OpenSpec.upto (s : _root_.Go.ChangeSpec) : _root_.Go.OpenSpec := { _root_.Go.OpenSpec.ofChange s with cond := some uptoSmall }

/-- 'laws.FnExactSourcesOf', WHERE WHAT IT READS IS OF BULK AT MOST 1048576: true; the input reads as it did. -/
def fnExactSourcesOfUptoRow : OpenClaim := { program := "yteahhohlnoifaaa", sum := "68f8a3f68cc5c341e048006430397bdef748709658982443f35bd6c63de98942", func := "loop.example/g00657/laws.FnExactSourcesOf", spec := "fnExactSourcesOf", apart := false, narrowed := true }
def FnExactSourcesOfUptoSaid : Prop := fnExactSourcesOfUptoRow.holds Try.pinned (OpenSpec.upto fnExactSourcesOfSpec)

/-- 'laws.FnExactGapsIn', WHERE WHAT IT READS IS OF BULK AT MOST 1048576: true; the input reads as it did. -/
def fnExactGapsInUptoRow : OpenClaim := { program := "yteahhohlnoifaaa", sum := "68f8a3f68cc5c341e048006430397bdef748709658982443f35bd6c63de98942", func := "loop.example/g00657/laws.FnExactGapsIn", spec := "fnExactGapsIn", apart := false, narrowed := true }
def FnExactGapsInUptoSaid : Prop := fnExactGapsInUptoRow.holds Try.pinned (OpenSpec.upto fnExactGapsInSpec)

/-- 'laws.FnExactIsFaithful', WHERE WHAT IT READS IS OF BULK AT MOST 1048576: true; the input reads as it did. -/
def fnExactIsFaithfulUptoRow : OpenClaim := { program := "yteahhohlnoifaaa", sum := "68f8a3f68cc5c341e048006430397bdef748709658982443f35bd6c63de98942", func := "loop.example/g00657/laws.FnExactIsFaithful", spec := "fnExactIsFaithful", unfollowed := true, recurses := true, apart := false, narrowed := true }
def FnExactIsFaithfulUptoSaid : Prop := fnExactIsFaithfulUptoRow.holds Try.pinned (OpenSpec.upto fnExactIsFaithfulSpec)

/-- 'laws.FnExactEnvelopeAt', WHERE WHAT IT READS IS OF BULK AT MOST 1048576: true; the input reads as it did. -/
def fnExactEnvelopeAtUptoRow : OpenClaim := { program := "yteahhohlnoifaaa", sum := "68f8a3f68cc5c341e048006430397bdef748709658982443f35bd6c63de98942", func := "loop.example/g00657/laws.FnExactEnvelopeAt", spec := "fnExactEnvelopeAt", unfollowed := true, recurses := true, apart := false, narrowed := true }
def FnExactEnvelopeAtUptoSaid : Prop := fnExactEnvelopeAtUptoRow.holds Try.pinned (OpenSpec.upto fnExactEnvelopeAtSpec)

end Rows
end Go.Proofs.Yteahhohlnoifaaa
