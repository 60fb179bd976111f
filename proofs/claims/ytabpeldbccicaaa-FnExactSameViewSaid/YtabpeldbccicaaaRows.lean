/-
  No cell of these rows narrows 'for every input' (looked for: loops, veiled, ifaces, maps, wideKeys, modest, calm, conditions, laid).
  DERIVED. THE GIVEN ROWS OF THIS SEAT. 6 by the template 'for every input the law returns true; each argument reads behind the call as it read before'; 0 by the template 'total and deterministic' (their statements: YtabpeldbccicaaaTotals.lean).
  GIVEN WITH THE SEED: the statements are not yours to turn. If you find one false, say at which input.
  Laid BY PROGRAM, IN A SANDBOX (cutbox-rows.mjs): the forced cells as the released guide's own fill.sh prints them over the translation 85ad50f8e85b3c63… (all of the seat's roots in one cut). By AI agents, Wed Nov 11 2026. No macro, syntax, notation, axiom, sorry.
-/
import Derived.Test.YtabpeldbccicaaaChecked
import GoSem.Claim
import GoSem.ClaimJoined
import GoSem.ClaimMapViews
import Derived.JoinedTies
import Derived.KernelRfl
namespace Go.Proofs.Ytabpeldbccicaaa
/- THE CELL 'sum', in the pinned program and in every row, IS THE sha256 OF THE DUMP (.gsa) THAT YtabpeldbccicaaaProg.lean LOADS. Nothing in Lean hashes anything: it is a label: what it is worth is what the hold of that sum in a sandbox is worth. -/
noncomputable def Try.pinned : Pinned := { name := "ytabpeldbccicaaa", sum := "85ad50f8e85b3c631959af49b95183cb502c4c11ad7a4aded236224ed1569a96", checked := Try.checked }
namespace Rows
def none {H : Type} : Left H := { results := [], args := [] }

/-- 'laws.FnExactEncodeEvents': WHATEVER THE INPUT: true; the input reads as it did. -/
def fnExactEncodeEventsSpec : ChangeSpec := { name := "fnExactEncodeEvents", fn := fun _ => fun
  | [d] => { results := [.lit (.bool true)], args := [d] }
  | _ => none }
def fnExactEncodeEventsRow : OpenClaim := { program := "ytabpeldbccicaaa", sum := "85ad50f8e85b3c631959af49b95183cb502c4c11ad7a4aded236224ed1569a96", func := "loop.example/g01989/laws.FnExactEncodeEvents", spec := "fnExactEncodeEvents", inPlace := ["internal/abi.NoEscape"], apart := false }
def FnExactEncodeEventsSaid : Prop := fnExactEncodeEventsRow.holds Try.pinned (OpenSpec.ofChange fnExactEncodeEventsSpec)

/-- ITS FALSE NEIGHBOUR: 'it returns false'. Refute it at one input. -/
def fnExactEncodeEventsWrong : ChangeSpec := { name := "fnExactEncodeEvents", fn := fun _ => fun
  | [d] => { results := [.lit (.bool false)], args := [d] }
  | _ => none }
def FnExactEncodeEventsWrongFalsely : Prop := fnExactEncodeEventsRow.holds Try.pinned (OpenSpec.ofChange fnExactEncodeEventsWrong)

/-- 'laws.FnExactViewOf': WHATEVER THE INPUT: true; the input reads as it did. -/
def fnExactViewOfSpec : ChangeSpec := { name := "fnExactViewOf", fn := fun _ => fun
  | [d1, d2, d3] => { results := [.lit (.bool true)], args := [d1, d2, d3] }
  | _ => none }
def fnExactViewOfRow : OpenClaim := { program := "ytabpeldbccicaaa", sum := "85ad50f8e85b3c631959af49b95183cb502c4c11ad7a4aded236224ed1569a96", func := "loop.example/g01989/laws.FnExactViewOf", spec := "fnExactViewOf", unfollowed := true, recurses := true, apart := false }
def FnExactViewOfSaid : Prop := fnExactViewOfRow.holds Try.pinned (OpenSpec.ofChange fnExactViewOfSpec)

/-- ITS FALSE NEIGHBOUR: 'it returns false'. Refute it at one input. -/
def fnExactViewOfWrong : ChangeSpec := { name := "fnExactViewOf", fn := fun _ => fun
  | [d1, d2, d3] => { results := [.lit (.bool false)], args := [d1, d2, d3] }
  | _ => none }
def FnExactViewOfWrongFalsely : Prop := fnExactViewOfRow.holds Try.pinned (OpenSpec.ofChange fnExactViewOfWrong)

/-- 'laws.FnExactSameView': WHATEVER THE INPUT: true; the input reads as it did. -/
def fnExactSameViewSpec : ChangeSpec := { name := "fnExactSameView", fn := fun _ => fun
  | [d1, d2, d3, d4] => { results := [.lit (.bool true)], args := [d1, d2, d3, d4] }
  | _ => none }
def fnExactSameViewRow : OpenClaim := { program := "ytabpeldbccicaaa", sum := "85ad50f8e85b3c631959af49b95183cb502c4c11ad7a4aded236224ed1569a96", func := "loop.example/g01989/laws.FnExactSameView", spec := "fnExactSameView", unfollowed := true, recurses := true, apart := false }
def FnExactSameViewSaid : Prop := fnExactSameViewRow.holds Try.pinned (OpenSpec.ofChange fnExactSameViewSpec)

/-- ITS FALSE NEIGHBOUR: 'it returns false'. Refute it at one input. -/
def fnExactSameViewWrong : ChangeSpec := { name := "fnExactSameView", fn := fun _ => fun
  | [d1, d2, d3, d4] => { results := [.lit (.bool false)], args := [d1, d2, d3, d4] }
  | _ => none }
def FnExactSameViewWrongFalsely : Prop := fnExactSameViewRow.holds Try.pinned (OpenSpec.ofChange fnExactSameViewWrong)

/-- 'laws.FnExactNewMediator': WHATEVER THE INPUT: true; the input reads as it did. -/
def fnExactNewMediatorSpec : ChangeSpec := { name := "fnExactNewMediator", fn := fun _ => fun
  | [d1, d2] => { results := [.lit (.bool true)], args := [d1, d2] }
  | _ => none }
def fnExactNewMediatorRow : OpenClaim := { program := "ytabpeldbccicaaa", sum := "85ad50f8e85b3c631959af49b95183cb502c4c11ad7a4aded236224ed1569a96", func := "loop.example/g01989/laws.FnExactNewMediator", spec := "fnExactNewMediator", unfollowed := true, recurses := true, apart := false }
def FnExactNewMediatorSaid : Prop := fnExactNewMediatorRow.holds Try.pinned (OpenSpec.ofChange fnExactNewMediatorSpec)

/-- ITS FALSE NEIGHBOUR: 'it returns false'. Refute it at one input. -/
def fnExactNewMediatorWrong : ChangeSpec := { name := "fnExactNewMediator", fn := fun _ => fun
  | [d1, d2] => { results := [.lit (.bool false)], args := [d1, d2] }
  | _ => none }
def FnExactNewMediatorWrongFalsely : Prop := fnExactNewMediatorRow.holds Try.pinned (OpenSpec.ofChange fnExactNewMediatorWrong)

/-- 'laws.FnExactSeenValues': WHATEVER THE INPUT: true; the input reads as it did. -/
def fnExactSeenValuesSpec : ChangeSpec := { name := "fnExactSeenValues", fn := fun _ => fun
  | [d1, d2, d3] => { results := [.lit (.bool true)], args := [d1, d2, d3] }
  | _ => none }
def fnExactSeenValuesRow : OpenClaim := { program := "ytabpeldbccicaaa", sum := "85ad50f8e85b3c631959af49b95183cb502c4c11ad7a4aded236224ed1569a96", func := "loop.example/g01989/laws.FnExactSeenValues", spec := "fnExactSeenValues", unfollowed := true, recurses := true, apart := false }
def FnExactSeenValuesSaid : Prop := fnExactSeenValuesRow.holds Try.pinned (OpenSpec.ofChange fnExactSeenValuesSpec)

/-- ITS FALSE NEIGHBOUR: 'it returns false'. Refute it at one input. -/
def fnExactSeenValuesWrong : ChangeSpec := { name := "fnExactSeenValues", fn := fun _ => fun
  | [d1, d2, d3] => { results := [.lit (.bool false)], args := [d1, d2, d3] }
  | _ => none }
def FnExactSeenValuesWrongFalsely : Prop := fnExactSeenValuesRow.holds Try.pinned (OpenSpec.ofChange fnExactSeenValuesWrong)

/-- 'laws.FnExactEqualMediators': WHATEVER THE INPUT: true; the input reads as it did. -/
def fnExactEqualMediatorsSpec : ChangeSpec := { name := "fnExactEqualMediators", fn := fun _ => fun
  | [d1, d2] => { results := [.lit (.bool true)], args := [d1, d2] }
  | _ => none }
def fnExactEqualMediatorsRow : OpenClaim := { program := "ytabpeldbccicaaa", sum := "85ad50f8e85b3c631959af49b95183cb502c4c11ad7a4aded236224ed1569a96", func := "loop.example/g01989/laws.FnExactEqualMediators", spec := "fnExactEqualMediators", unfollowed := true, recurses := true, apart := false }
def FnExactEqualMediatorsSaid : Prop := fnExactEqualMediatorsRow.holds Try.pinned (OpenSpec.ofChange fnExactEqualMediatorsSpec)

/-- ITS FALSE NEIGHBOUR: 'it returns false'. Refute it at one input. -/
def fnExactEqualMediatorsWrong : ChangeSpec := { name := "fnExactEqualMediators", fn := fun _ => fun
  | [d1, d2] => { results := [.lit (.bool false)], args := [d1, d2] }
  | _ => none }
def FnExactEqualMediatorsWrongFalsely : Prop := fnExactEqualMediatorsRow.holds Try.pinned (OpenSpec.ofChange fnExactEqualMediatorsWrong)

/- THE SECOND FORM. 'bulk': how many values and letters a reading holds, each counted each time it is reached (what is shared counts as often as it is met; a slice's spare places count too). A statement '..UptoSaid' is the law's where the arguments, and the package variables that the reading takes, are together of bulk at most 1048576: NARROWER than '..Said'. Prove '..Said' where nothing that the law and all that it calls make is longer than what came in: it says more and counts as full. Else prove '..UptoSaid'. A law counts once. -/
mutual
def uptoBulk {H : Type} : DataW H → Nat
  | .lit (.string bytes) => bytes.length + 1
  | .lit _ => 1
  | .nil => 1
  | .ptr d => uptoBulk d + 1
  | .slice elems spare => uptoBulkAll elems + uptoBulkAll spare + 1
  | .agg parts => uptoBulkAll parts + 1
  | .iface _ d => uptoBulk d + 1
  | .map entries => uptoBulkEntries entries + 1
  | .held _ => 1
def uptoBulkAll {H : Type} : List (DataW H) → Nat
  | [] => 0
  | d :: r => uptoBulk d + uptoBulkAll r
def uptoBulkEntries {H : Type} : List (Lit × DataW H) → Nat
  | [] => 0
  | x :: r => uptoBulkEntry x + uptoBulkEntries r
def uptoBulkEntry {H : Type} : Lit × DataW H → Nat
  | (.string bytes, d) => bytes.length + uptoBulk d + 1
  | (_, d) => uptoBulk d + 1
 end
def uptoSmall : (H : Type) → List (DataW H) → Bool := fun _ ds => decide (uptoBulkAll ds ≤ 1048576)
def OpenSpec.upto (s : _root_.Go.ChangeSpec) : _root_.Go.OpenSpec := { _root_.Go.OpenSpec.ofChange s with cond := some uptoSmall }

/-- 'laws.FnExactEncodeEvents', WHERE WHAT IT READS IS OF BULK AT MOST 1048576: true; the input reads as it did. -/
def fnExactEncodeEventsUptoRow : OpenClaim := { program := "ytabpeldbccicaaa", sum := "85ad50f8e85b3c631959af49b95183cb502c4c11ad7a4aded236224ed1569a96", func := "loop.example/g01989/laws.FnExactEncodeEvents", spec := "fnExactEncodeEvents", inPlace := ["internal/abi.NoEscape"], apart := false, narrowed := true }
def FnExactEncodeEventsUptoSaid : Prop := fnExactEncodeEventsUptoRow.holds Try.pinned (OpenSpec.upto fnExactEncodeEventsSpec)

/-- 'laws.FnExactViewOf', WHERE WHAT IT READS IS OF BULK AT MOST 1048576: true; the input reads as it did. -/
def fnExactViewOfUptoRow : OpenClaim := { program := "ytabpeldbccicaaa", sum := "85ad50f8e85b3c631959af49b95183cb502c4c11ad7a4aded236224ed1569a96", func := "loop.example/g01989/laws.FnExactViewOf", spec := "fnExactViewOf", unfollowed := true, recurses := true, apart := false, narrowed := true }
def FnExactViewOfUptoSaid : Prop := fnExactViewOfUptoRow.holds Try.pinned (OpenSpec.upto fnExactViewOfSpec)

/-- 'laws.FnExactSameView', WHERE WHAT IT READS IS OF BULK AT MOST 1048576: true; the input reads as it did. -/
def fnExactSameViewUptoRow : OpenClaim := { program := "ytabpeldbccicaaa", sum := "85ad50f8e85b3c631959af49b95183cb502c4c11ad7a4aded236224ed1569a96", func := "loop.example/g01989/laws.FnExactSameView", spec := "fnExactSameView", unfollowed := true, recurses := true, apart := false, narrowed := true }
def FnExactSameViewUptoSaid : Prop := fnExactSameViewUptoRow.holds Try.pinned (OpenSpec.upto fnExactSameViewSpec)

/-- 'laws.FnExactNewMediator', WHERE WHAT IT READS IS OF BULK AT MOST 1048576: true; the input reads as it did. -/
def fnExactNewMediatorUptoRow : OpenClaim := { program := "ytabpeldbccicaaa", sum := "85ad50f8e85b3c631959af49b95183cb502c4c11ad7a4aded236224ed1569a96", func := "loop.example/g01989/laws.FnExactNewMediator", spec := "fnExactNewMediator", unfollowed := true, recurses := true, apart := false, narrowed := true }
def FnExactNewMediatorUptoSaid : Prop := fnExactNewMediatorUptoRow.holds Try.pinned (OpenSpec.upto fnExactNewMediatorSpec)

/-- 'laws.FnExactSeenValues', WHERE WHAT IT READS IS OF BULK AT MOST 1048576: true; the input reads as it did. -/
def fnExactSeenValuesUptoRow : OpenClaim := { program := "ytabpeldbccicaaa", sum := "85ad50f8e85b3c631959af49b95183cb502c4c11ad7a4aded236224ed1569a96", func := "loop.example/g01989/laws.FnExactSeenValues", spec := "fnExactSeenValues", unfollowed := true, recurses := true, apart := false, narrowed := true }
def FnExactSeenValuesUptoSaid : Prop := fnExactSeenValuesUptoRow.holds Try.pinned (OpenSpec.upto fnExactSeenValuesSpec)

/-- 'laws.FnExactEqualMediators', WHERE WHAT IT READS IS OF BULK AT MOST 1048576: true; the input reads as it did. -/
def fnExactEqualMediatorsUptoRow : OpenClaim := { program := "ytabpeldbccicaaa", sum := "85ad50f8e85b3c631959af49b95183cb502c4c11ad7a4aded236224ed1569a96", func := "loop.example/g01989/laws.FnExactEqualMediators", spec := "fnExactEqualMediators", unfollowed := true, recurses := true, apart := false, narrowed := true }
def FnExactEqualMediatorsUptoSaid : Prop := fnExactEqualMediatorsUptoRow.holds Try.pinned (OpenSpec.upto fnExactEqualMediatorsSpec)

end Rows
end Go.Proofs.Ytabpeldbccicaaa
