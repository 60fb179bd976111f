/-
  No cell of these rows narrows 'for every input' (looked for: loops, veiled, ifaces, maps, wideKeys, modest, calm, conditions, laid).
  DERIVED. THE GIVEN ROWS OF THIS SEAT. 4 by the template 'for every input the law returns true; each argument reads behind the call as it read before'; 0 by the template 'total and deterministic' (their statements: YtlckjkdnipgnhaaTotals.lean).
  GIVEN WITH THE SEED: the statements are not yours to turn. If you find one false, say at which input.
  Laid BY PROGRAM, IN A SANDBOX (cutbox-rows.mjs): the forced cells as the released guide's own fill.sh prints them over the translation 23d042fe7ff9aa4d… (all of the seat's roots in one cut). By AI agents, Wed Nov 11 2026. No macro, syntax, notation, axiom, sorry.
-/
import Derived.Test.YtlckjkdnipgnhaaChecked
import GoSem.Claim
import GoSem.ClaimJoined
import GoSem.ClaimMapViews
import Derived.JoinedTies
import Derived.KernelRfl
namespace Go.Proofs.Ytlckjkdnipgnhaa
/- THE CELL 'sum', in the pinned program and in every row, IS THE sha256 OF THE DUMP (.gsa) THAT YtlckjkdnipgnhaaProg.lean LOADS. Nothing in Lean hashes anything: it is a label: what it is worth is what the hold of that sum in a sandbox is worth. -/
noncomputable def Try.pinned : Pinned := { name := "ytlckjkdnipgnhaa", sum := "23d042fe7ff9aa4d2131621888da01ec5e9b5c35a6235dafc5d1821e9e30ab5b", checked := Try.checked }
namespace Rows
def none {H : Type} : Left H := { results := [], args := [] }

/-- 'laws.FnExactEventWord': WHATEVER THE INPUT: true; the input reads as it did. -/
def fnExactEventWordSpec : ChangeSpec := { name := "fnExactEventWord", fn := fun _ => fun
  | [d] => { results := [.lit (.bool true)], args := [d] }
  | _ => none }
def fnExactEventWordRow : OpenClaim := { program := "ytlckjkdnipgnhaa", sum := "23d042fe7ff9aa4d2131621888da01ec5e9b5c35a6235dafc5d1821e9e30ab5b", func := "loop.example/g01989/laws.FnExactEventWord", spec := "fnExactEventWord", apart := false }
def FnExactEventWordSaid : Prop := fnExactEventWordRow.holds Try.pinned (OpenSpec.ofChange fnExactEventWordSpec)

/-- ITS FALSE NEIGHBOUR: 'it returns false'. Refute it at one input. -/
def fnExactEventWordWrong : ChangeSpec := { name := "fnExactEventWord", fn := fun _ => fun
  | [d] => { results := [.lit (.bool false)], args := [d] }
  | _ => none }
def FnExactEventWordWrongFalsely : Prop := fnExactEventWordRow.holds Try.pinned (OpenSpec.ofChange fnExactEventWordWrong)

/-- 'laws.FnExactFormatEvent': WHATEVER THE INPUT: true; the input reads as it did. -/
def fnExactFormatEventSpec : ChangeSpec := { name := "fnExactFormatEvent", fn := fun _ => fun
  | [d] => { results := [.lit (.bool true)], args := [d] }
  | _ => none }
def fnExactFormatEventRow : OpenClaim := { program := "ytlckjkdnipgnhaa", sum := "23d042fe7ff9aa4d2131621888da01ec5e9b5c35a6235dafc5d1821e9e30ab5b", func := "loop.example/g01989/laws.FnExactFormatEvent", spec := "fnExactFormatEvent", apart := false }
def FnExactFormatEventSaid : Prop := fnExactFormatEventRow.holds Try.pinned (OpenSpec.ofChange fnExactFormatEventSpec)

/-- ITS FALSE NEIGHBOUR: 'it returns false'. Refute it at one input. -/
def fnExactFormatEventWrong : ChangeSpec := { name := "fnExactFormatEvent", fn := fun _ => fun
  | [d] => { results := [.lit (.bool false)], args := [d] }
  | _ => none }
def FnExactFormatEventWrongFalsely : Prop := fnExactFormatEventRow.holds Try.pinned (OpenSpec.ofChange fnExactFormatEventWrong)

/-- 'laws.FnExactFirstDifference': WHATEVER THE INPUT: true; the input reads as it did. -/
def fnExactFirstDifferenceSpec : ChangeSpec := { name := "fnExactFirstDifference", fn := fun _ => fun
  | [d1, d2] => { results := [.lit (.bool true)], args := [d1, d2] }
  | _ => none }
def fnExactFirstDifferenceRow : OpenClaim := { program := "ytlckjkdnipgnhaa", sum := "23d042fe7ff9aa4d2131621888da01ec5e9b5c35a6235dafc5d1821e9e30ab5b", func := "loop.example/g01989/laws.FnExactFirstDifference", spec := "fnExactFirstDifference", apart := false }
def FnExactFirstDifferenceSaid : Prop := fnExactFirstDifferenceRow.holds Try.pinned (OpenSpec.ofChange fnExactFirstDifferenceSpec)

/-- ITS FALSE NEIGHBOUR: 'it returns false'. Refute it at one input. -/
def fnExactFirstDifferenceWrong : ChangeSpec := { name := "fnExactFirstDifference", fn := fun _ => fun
  | [d1, d2] => { results := [.lit (.bool false)], args := [d1, d2] }
  | _ => none }
def FnExactFirstDifferenceWrongFalsely : Prop := fnExactFirstDifferenceRow.holds Try.pinned (OpenSpec.ofChange fnExactFirstDifferenceWrong)

/-- 'laws.FnExactEncodeEvents': WHATEVER THE INPUT: true; the input reads as it did. -/
def fnExactEncodeEventsSpec : ChangeSpec := { name := "fnExactEncodeEvents", fn := fun _ => fun
  | [d] => { results := [.lit (.bool true)], args := [d] }
  | _ => none }
def fnExactEncodeEventsRow : OpenClaim := { program := "ytlckjkdnipgnhaa", sum := "23d042fe7ff9aa4d2131621888da01ec5e9b5c35a6235dafc5d1821e9e30ab5b", func := "loop.example/g01989/laws.FnExactEncodeEvents", spec := "fnExactEncodeEvents", inPlace := ["internal/abi.NoEscape"], apart := false }
def FnExactEncodeEventsSaid : Prop := fnExactEncodeEventsRow.holds Try.pinned (OpenSpec.ofChange fnExactEncodeEventsSpec)

/-- ITS FALSE NEIGHBOUR: 'it returns false'. Refute it at one input. -/
def fnExactEncodeEventsWrong : ChangeSpec := { name := "fnExactEncodeEvents", fn := fun _ => fun
  | [d] => { results := [.lit (.bool false)], args := [d] }
  | _ => none }
def FnExactEncodeEventsWrongFalsely : Prop := fnExactEncodeEventsRow.holds Try.pinned (OpenSpec.ofChange fnExactEncodeEventsWrong)

/- THE SECOND FORM. 'bulk': how many values and letters a reading holds, each counted each time it is reached (what is shared counts as often as it is met; a slice's spare places count too). A statement '..UptoSaid' is the law's where the arguments, and the package variables that the reading takes, are together of bulk at most 1048576: NARROWER than '..Said'. Prove '..Said' where nothing that the law and all that it calls make is longer than what came in: it says more and counts as full. Else prove '..UptoSaid'. A law counts once. -/
mutual
def uptoBulk {H : Type} : DataW H → Nat
  | .lit (.string bytes) => bytes.length + 1
  | .lit _ => 1
  | .nil => 1
  | .ptr d => uptoBulk d + 1
  | .slice elems spare => uptoBulkAll elems + uptoBulkAll spare + 1
  | .agg parts => uptoBulkAll parts + 1
  | .iface _ d => uptoBulk d + 1
  | .map entries => uptoBulkEntries entries + 1
  | .held _ => 1
def uptoBulkAll {H : Type} : List (DataW H) → Nat
  | [] => 0
  | d :: r => uptoBulk d + uptoBulkAll r
def uptoBulkEntries {H : Type} : List (Lit × DataW H) → Nat
  | [] => 0
  | x :: r => uptoBulkEntry x + uptoBulkEntries r
def uptoBulkEntry {H : Type} : Lit × DataW H → Nat
  | (.string bytes, d) => bytes.length + uptoBulk d + 1
  | (_, d) => uptoBulk d + 1
 end
def uptoSmall : (H : Type) → List (DataW H) → Bool := fun _ ds => decide (uptoBulkAll ds ≤ 1048576)
def OpenSpec.upto (s : _root_.Go.ChangeSpec) : _root_.Go.OpenSpec := { _root_.Go.OpenSpec.ofChange s with cond := some uptoSmall }

/-- 'laws.FnExactEventWord', WHERE WHAT IT READS IS OF BULK AT MOST 1048576: true; the input reads as it did. -/
def fnExactEventWordUptoRow : OpenClaim := { program := "ytlckjkdnipgnhaa", sum := "23d042fe7ff9aa4d2131621888da01ec5e9b5c35a6235dafc5d1821e9e30ab5b", func := "loop.example/g01989/laws.FnExactEventWord", spec := "fnExactEventWord", apart := false, narrowed := true }
def FnExactEventWordUptoSaid : Prop := fnExactEventWordUptoRow.holds Try.pinned (OpenSpec.upto fnExactEventWordSpec)

/-- 'laws.FnExactFormatEvent', WHERE WHAT IT READS IS OF BULK AT MOST 1048576: true; the input reads as it did. -/
def fnExactFormatEventUptoRow : OpenClaim := { program := "ytlckjkdnipgnhaa", sum := "23d042fe7ff9aa4d2131621888da01ec5e9b5c35a6235dafc5d1821e9e30ab5b", func := "loop.example/g01989/laws.FnExactFormatEvent", spec := "fnExactFormatEvent", apart := false, narrowed := true }
def FnExactFormatEventUptoSaid : Prop := fnExactFormatEventUptoRow.holds Try.pinned (OpenSpec.upto fnExactFormatEventSpec)

/-- 'laws.FnExactFirstDifference', WHERE WHAT IT READS IS OF BULK AT MOST 1048576: true; the input reads as it did. -/
def fnExactFirstDifferenceUptoRow : OpenClaim := { program := "ytlckjkdnipgnhaa", sum := "23d042fe7ff9aa4d2131621888da01ec5e9b5c35a6235dafc5d1821e9e30ab5b", func := "loop.example/g01989/laws.FnExactFirstDifference", spec := "fnExactFirstDifference", apart := false, narrowed := true }
def FnExactFirstDifferenceUptoSaid : Prop := fnExactFirstDifferenceUptoRow.holds Try.pinned (OpenSpec.upto fnExactFirstDifferenceSpec)

/-- 'laws.FnExactEncodeEvents', WHERE WHAT IT READS IS OF BULK AT MOST 1048576: true; the input reads as it did. -/
def fnExactEncodeEventsUptoRow : OpenClaim := { program := "ytlckjkdnipgnhaa", sum := "23d042fe7ff9aa4d2131621888da01ec5e9b5c35a6235dafc5d1821e9e30ab5b", func := "loop.example/g01989/laws.FnExactEncodeEvents", spec := "fnExactEncodeEvents", inPlace := ["internal/abi.NoEscape"], apart := false, narrowed := true }
def FnExactEncodeEventsUptoSaid : Prop := fnExactEncodeEventsUptoRow.holds Try.pinned (OpenSpec.upto fnExactEncodeEventsSpec)

end Rows
end Go.Proofs.Ytlckjkdnipgnhaa
