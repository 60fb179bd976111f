/-
  No cell of these rows narrows 'for every input' (looked for: loops, veiled, ifaces, maps, wideKeys, modest, calm, conditions, laid).
  DERIVED. THE GIVEN ROWS OF THIS SEAT. 4 by the template 'for every input the law returns true; each argument reads behind the call as it read before'; 0 by the template 'total and deterministic' (their statements: YtmjhcoelkbcmkaaGreatTotals.lean).
  GIVEN WITH THE SEED: the statements are not yours to turn. If you find one false, say at which input.
  Laid BY PROGRAM, IN A SANDBOX (cutbox-rows.mjs): the forced cells as the released guide's own fill.sh prints them over the translation 6260425d0082f6c8… (all of the seat's roots in one cut). By AI agents, Wed Nov 11 2026. No macro, syntax, notation, axiom, sorry.
-/
import Derived.Test.YtmjhcoelkbcmkaaGreatChecked
import GoSem.Claim
import GoSem.ClaimJoined
import GoSem.ClaimMapViews
import Derived.JoinedTies
import Derived.KernelRfl
namespace Go.Proofs.YtmjhcoelkbcmkaaGreat
/- THE CELL 'sum', in the pinned program and in every row, IS THE sha256 OF THE DUMP (.gsa) THAT YtmjhcoelkbcmkaaGreatProg.lean LOADS. Nothing in Lean hashes anything: it is a label: what it is worth is what the hold of that sum in a sandbox is worth. -/
noncomputable def Tryz.pinned : Pinned := { name := "ytmjhcoelkbcmkaagreat", sum := "6260425d0082f6c8e5959f9c49c0da1a149f8b4217f7dc5b9978a2144962557a", checked := Tryz.checked }
namespace Rows
def none {H : Type} : Left H := { results := [], args := [] }

/-- 'laws.FnExactAddMethod': WHATEVER THE INPUT: true; the input reads as it did. -/
def fnExactAddMethodSpec : ChangeSpec := { name := "fnExactAddMethod", fn := fun _ => fun
  | [d1, d2] => { results := [.lit (.bool true)], args := [d1, d2] }
  | _ => none }
def fnExactAddMethodRow : OpenClaim := { program := "ytmjhcoelkbcmkaagreat", sum := "6260425d0082f6c8e5959f9c49c0da1a149f8b4217f7dc5b9978a2144962557a", func := "loop.example/g01989/laws.FnExactAddMethod", spec := "fnExactAddMethod", unfollowed := true, recurses := true, apart := false }
def FnExactAddMethodSaid : Prop := fnExactAddMethodRow.holds Tryz.pinned (OpenSpec.ofChange fnExactAddMethodSpec)

/-- ITS FALSE NEIGHBOUR: 'it returns false'. Refute it at one input. -/
def fnExactAddMethodWrong : ChangeSpec := { name := "fnExactAddMethod", fn := fun _ => fun
  | [d1, d2] => { results := [.lit (.bool false)], args := [d1, d2] }
  | _ => none }
def FnExactAddMethodWrongFalsely : Prop := fnExactAddMethodRow.holds Tryz.pinned (OpenSpec.ofChange fnExactAddMethodWrong)

/-- 'laws.FnExactAddRule': WHATEVER THE INPUT: true; the input reads as it did. -/
def fnExactAddRuleSpec : ChangeSpec := { name := "fnExactAddRule", fn := fun _ => fun
  | [d1, d2] => { results := [.lit (.bool true)], args := [d1, d2] }
  | _ => none }
def fnExactAddRuleRow : OpenClaim := { program := "ytmjhcoelkbcmkaagreat", sum := "6260425d0082f6c8e5959f9c49c0da1a149f8b4217f7dc5b9978a2144962557a", func := "loop.example/g01989/laws.FnExactAddRule", spec := "fnExactAddRule", unfollowed := true, recurses := true, apart := false }
def FnExactAddRuleSaid : Prop := fnExactAddRuleRow.holds Tryz.pinned (OpenSpec.ofChange fnExactAddRuleSpec)

/-- ITS FALSE NEIGHBOUR: 'it returns false'. Refute it at one input. -/
def fnExactAddRuleWrong : ChangeSpec := { name := "fnExactAddRule", fn := fun _ => fun
  | [d1, d2] => { results := [.lit (.bool false)], args := [d1, d2] }
  | _ => none }
def FnExactAddRuleWrongFalsely : Prop := fnExactAddRuleRow.holds Tryz.pinned (OpenSpec.ofChange fnExactAddRuleWrong)

/-- 'laws.FnExactPassTime': WHATEVER THE INPUT: true; the input reads as it did. -/
def fnExactPassTimeSpec : ChangeSpec := { name := "fnExactPassTime", fn := fun _ => fun
  | [d1, d2] => { results := [.lit (.bool true)], args := [d1, d2] }
  | _ => none }
def fnExactPassTimeRow : OpenClaim := { program := "ytmjhcoelkbcmkaagreat", sum := "6260425d0082f6c8e5959f9c49c0da1a149f8b4217f7dc5b9978a2144962557a", func := "loop.example/g01989/laws.FnExactPassTime", spec := "fnExactPassTime", unfollowed := true, recurses := true, apart := false }
def FnExactPassTimeSaid : Prop := fnExactPassTimeRow.holds Tryz.pinned (OpenSpec.ofChange fnExactPassTimeSpec)

/-- ITS FALSE NEIGHBOUR: 'it returns false'. Refute it at one input. -/
def fnExactPassTimeWrong : ChangeSpec := { name := "fnExactPassTime", fn := fun _ => fun
  | [d1, d2] => { results := [.lit (.bool false)], args := [d1, d2] }
  | _ => none }
def FnExactPassTimeWrongFalsely : Prop := fnExactPassTimeRow.holds Tryz.pinned (OpenSpec.ofChange fnExactPassTimeWrong)

/-- 'laws.FnExactViolatedNow': WHATEVER THE INPUT: true; the input reads as it did. -/
def fnExactViolatedNowSpec : ChangeSpec := { name := "fnExactViolatedNow", fn := fun _ => fun
  | [d] => { results := [.lit (.bool true)], args := [d] }
  | _ => none }
def fnExactViolatedNowRow : OpenClaim := { program := "ytmjhcoelkbcmkaagreat", sum := "6260425d0082f6c8e5959f9c49c0da1a149f8b4217f7dc5b9978a2144962557a", func := "loop.example/g01989/laws.FnExactViolatedNow", spec := "fnExactViolatedNow", inPlace := ["slices.overlaps[loop.example/g01989/impl.Fact]"], unfollowed := true, recurses := true, apart := false }
def FnExactViolatedNowSaid : Prop := fnExactViolatedNowRow.holds Tryz.pinned (OpenSpec.ofChange fnExactViolatedNowSpec)

/-- ITS FALSE NEIGHBOUR: 'it returns false'. Refute it at one input. -/
def fnExactViolatedNowWrong : ChangeSpec := { name := "fnExactViolatedNow", fn := fun _ => fun
  | [d] => { results := [.lit (.bool false)], args := [d] }
  | _ => none }
def FnExactViolatedNowWrongFalsely : Prop := fnExactViolatedNowRow.holds Tryz.pinned (OpenSpec.ofChange fnExactViolatedNowWrong)

/- THE SECOND FORM. 'bulk': how many values and letters a reading holds, each counted each time it is reached (what is shared counts as often as it is met; a slice's spare places count too). A statement '..UptoSaid' is the law's where the arguments, and the package variables that the reading takes, are together of bulk at most 1048576: NARROWER than '..Said'. Prove '..Said' where nothing that the law and all that it calls make is longer than what came in: it says more and counts as full. Else prove '..UptoSaid'. A law counts once. -/
mutual
def uptoBulk {H : Type} : DataW H → Nat
  | .lit (.string bytes) => bytes.length + 1
  | .lit _ => 1
  | .nil => 1
  | .ptr d => uptoBulk d + 1
  | .slice elems spare => uptoBulkAll elems + uptoBulkAll spare + 1
  | .agg parts => uptoBulkAll parts + 1
  | .iface _ d => uptoBulk d + 1
  | .map entries => uptoBulkEntries entries + 1
  | .held _ => 1
def uptoBulkAll {H : Type} : List (DataW H) → Nat
  | [] => 0
  | d :: r => uptoBulk d + uptoBulkAll r
def uptoBulkEntries {H : Type} : List (Lit × DataW H) → Nat
  | [] => 0
  | x :: r => uptoBulkEntry x + uptoBulkEntries r
def uptoBulkEntry {H : Type} : Lit × DataW H → Nat
  | (.string bytes, d) => bytes.length + uptoBulk d + 1
  | (_, d) => uptoBulk d + 1
 end
def uptoSmall : (H : Type) → List (DataW H) → Bool := fun _ ds => decide (uptoBulkAll ds ≤ 1048576)
def OpenSpec.upto (s : _root_.Go.ChangeSpec) : _root_.Go.OpenSpec := { _root_.Go.OpenSpec.ofChange s with cond := some uptoSmall }

/-- 'laws.FnExactAddMethod', WHERE WHAT IT READS IS OF BULK AT MOST 1048576: true; the input reads as it did. -/
def fnExactAddMethodUptoRow : OpenClaim := { program := "ytmjhcoelkbcmkaagreat", sum := "6260425d0082f6c8e5959f9c49c0da1a149f8b4217f7dc5b9978a2144962557a", func := "loop.example/g01989/laws.FnExactAddMethod", spec := "fnExactAddMethod", unfollowed := true, recurses := true, apart := false, narrowed := true }
def FnExactAddMethodUptoSaid : Prop := fnExactAddMethodUptoRow.holds Tryz.pinned (OpenSpec.upto fnExactAddMethodSpec)

/-- 'laws.FnExactAddRule', WHERE WHAT IT READS IS OF BULK AT MOST 1048576: true; the input reads as it did. -/
def fnExactAddRuleUptoRow : OpenClaim := { program := "ytmjhcoelkbcmkaagreat", sum := "6260425d0082f6c8e5959f9c49c0da1a149f8b4217f7dc5b9978a2144962557a", func := "loop.example/g01989/laws.FnExactAddRule", spec := "fnExactAddRule", unfollowed := true, recurses := true, apart := false, narrowed := true }
def FnExactAddRuleUptoSaid : Prop := fnExactAddRuleUptoRow.holds Tryz.pinned (OpenSpec.upto fnExactAddRuleSpec)

/-- 'laws.FnExactPassTime', WHERE WHAT IT READS IS OF BULK AT MOST 1048576: true; the input reads as it did. -/
def fnExactPassTimeUptoRow : OpenClaim := { program := "ytmjhcoelkbcmkaagreat", sum := "6260425d0082f6c8e5959f9c49c0da1a149f8b4217f7dc5b9978a2144962557a", func := "loop.example/g01989/laws.FnExactPassTime", spec := "fnExactPassTime", unfollowed := true, recurses := true, apart := false, narrowed := true }
def FnExactPassTimeUptoSaid : Prop := fnExactPassTimeUptoRow.holds Tryz.pinned (OpenSpec.upto fnExactPassTimeSpec)

/-- 'laws.FnExactViolatedNow', WHERE WHAT IT READS IS OF BULK AT MOST 1048576: true; the input reads as it did. -/
def fnExactViolatedNowUptoRow : OpenClaim := { program := "ytmjhcoelkbcmkaagreat", sum := "6260425d0082f6c8e5959f9c49c0da1a149f8b4217f7dc5b9978a2144962557a", func := "loop.example/g01989/laws.FnExactViolatedNow", spec := "fnExactViolatedNow", inPlace := ["slices.overlaps[loop.example/g01989/impl.Fact]"], unfollowed := true, recurses := true, apart := false, narrowed := true }
def FnExactViolatedNowUptoSaid : Prop := fnExactViolatedNowUptoRow.holds Tryz.pinned (OpenSpec.upto fnExactViolatedNowSpec)

end Rows
end Go.Proofs.YtmjhcoelkbcmkaaGreat
