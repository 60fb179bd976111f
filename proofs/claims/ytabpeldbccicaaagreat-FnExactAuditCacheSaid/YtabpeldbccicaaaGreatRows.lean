/-
  No cell of these rows narrows 'for every input' (looked for: loops, veiled, ifaces, maps, wideKeys, modest, calm, conditions, laid).
  DERIVED. THE GIVEN ROWS OF THIS SEAT. 4 by the template 'for every input the law returns true; each argument reads behind the call as it read before'; 0 by the template 'total and deterministic' (their statements: YtabpeldbccicaaaGreatTotals.lean).
  GIVEN WITH THE SEED: the statements are not yours to turn. If you find one false, say at which input.
  Laid BY PROGRAM, IN A SANDBOX (cutbox-rows.mjs): the forced cells as the released guide's own fill.sh prints them over the translation cc92c6a4c592d761… (all of the seat's roots in one cut). By AI agents, Wed Nov 11 2026. No macro, syntax, notation, axiom, sorry.
-/
import Derived.Test.YtabpeldbccicaaaGreatChecked
import GoSem.Claim
import GoSem.ClaimJoined
import GoSem.ClaimMapViews
import Derived.JoinedTies
import Derived.KernelRfl
namespace Go.Proofs.YtabpeldbccicaaaGreat
/- THE CELL 'sum', in the pinned program and in every row, IS THE sha256 OF THE DUMP (.gsa) THAT YtabpeldbccicaaaGreatProg.lean LOADS. Nothing in Lean hashes anything: it is a label: what it is worth is what the hold of that sum in a sandbox is worth. -/
noncomputable def Tryz.pinned : Pinned := { name := "ytabpeldbccicaaagreat", sum := "cc92c6a4c592d7618accc780dda2356512662bd0c0a1df0988a11ba1e713c9dc", checked := Tryz.checked }
namespace Rows
def none {H : Type} : Left H := { results := [], args := [] }

/-- 'laws.FnExactIsMediator': WHATEVER THE INPUT: true; the input reads as it did. -/
def fnExactIsMediatorSpec : ChangeSpec := { name := "fnExactIsMediator", fn := fun _ => fun
  | [d] => { results := [.lit (.bool true)], args := [d] }
  | _ => none }
def fnExactIsMediatorRow : OpenClaim := { program := "ytabpeldbccicaaagreat", sum := "cc92c6a4c592d7618accc780dda2356512662bd0c0a1df0988a11ba1e713c9dc", func := "loop.example/g01989/laws.FnExactIsMediator", spec := "fnExactIsMediator", unfollowed := true, recurses := true, apart := false }
def FnExactIsMediatorSaid : Prop := fnExactIsMediatorRow.holds Tryz.pinned (OpenSpec.ofChange fnExactIsMediatorSpec)

/-- ITS FALSE NEIGHBOUR: 'it returns false'. Refute it at one input. -/
def fnExactIsMediatorWrong : ChangeSpec := { name := "fnExactIsMediator", fn := fun _ => fun
  | [d] => { results := [.lit (.bool false)], args := [d] }
  | _ => none }
def FnExactIsMediatorWrongFalsely : Prop := fnExactIsMediatorRow.holds Tryz.pinned (OpenSpec.ofChange fnExactIsMediatorWrong)

/-- 'laws.FnExactAuditLog': WHATEVER THE INPUT: true; the input reads as it did. -/
def fnExactAuditLogSpec : ChangeSpec := { name := "fnExactAuditLog", fn := fun _ => fun
  | [d] => { results := [.lit (.bool true)], args := [d] }
  | _ => none }
def fnExactAuditLogRow : OpenClaim := { program := "ytabpeldbccicaaagreat", sum := "cc92c6a4c592d7618accc780dda2356512662bd0c0a1df0988a11ba1e713c9dc", func := "loop.example/g01989/laws.FnExactAuditLog", spec := "fnExactAuditLog", unfollowed := true, recurses := true, apart := false }
def FnExactAuditLogSaid : Prop := fnExactAuditLogRow.holds Tryz.pinned (OpenSpec.ofChange fnExactAuditLogSpec)

/-- ITS FALSE NEIGHBOUR: 'it returns false'. Refute it at one input. -/
def fnExactAuditLogWrong : ChangeSpec := { name := "fnExactAuditLog", fn := fun _ => fun
  | [d] => { results := [.lit (.bool false)], args := [d] }
  | _ => none }
def FnExactAuditLogWrongFalsely : Prop := fnExactAuditLogRow.holds Tryz.pinned (OpenSpec.ofChange fnExactAuditLogWrong)

/-- 'laws.FnExactAuditSpent': WHATEVER THE INPUT: true; the input reads as it did. -/
def fnExactAuditSpentSpec : ChangeSpec := { name := "fnExactAuditSpent", fn := fun _ => fun
  | [d] => { results := [.lit (.bool true)], args := [d] }
  | _ => none }
def fnExactAuditSpentRow : OpenClaim := { program := "ytabpeldbccicaaagreat", sum := "cc92c6a4c592d7618accc780dda2356512662bd0c0a1df0988a11ba1e713c9dc", func := "loop.example/g01989/laws.FnExactAuditSpent", spec := "fnExactAuditSpent", unfollowed := true, recurses := true, apart := false }
def FnExactAuditSpentSaid : Prop := fnExactAuditSpentRow.holds Tryz.pinned (OpenSpec.ofChange fnExactAuditSpentSpec)

/-- ITS FALSE NEIGHBOUR: 'it returns false'. Refute it at one input. -/
def fnExactAuditSpentWrong : ChangeSpec := { name := "fnExactAuditSpent", fn := fun _ => fun
  | [d] => { results := [.lit (.bool false)], args := [d] }
  | _ => none }
def FnExactAuditSpentWrongFalsely : Prop := fnExactAuditSpentRow.holds Tryz.pinned (OpenSpec.ofChange fnExactAuditSpentWrong)

/-- 'laws.FnExactAuditCache': WHATEVER THE INPUT: true; the input reads as it did. -/
def fnExactAuditCacheSpec : ChangeSpec := { name := "fnExactAuditCache", fn := fun _ => fun
  | [d] => { results := [.lit (.bool true)], args := [d] }
  | _ => none }
def fnExactAuditCacheRow : OpenClaim := { program := "ytabpeldbccicaaagreat", sum := "cc92c6a4c592d7618accc780dda2356512662bd0c0a1df0988a11ba1e713c9dc", func := "loop.example/g01989/laws.FnExactAuditCache", spec := "fnExactAuditCache", unfollowed := true, recurses := true, apart := false }
def FnExactAuditCacheSaid : Prop := fnExactAuditCacheRow.holds Tryz.pinned (OpenSpec.ofChange fnExactAuditCacheSpec)

/-- ITS FALSE NEIGHBOUR: 'it returns false'. Refute it at one input. -/
def fnExactAuditCacheWrong : ChangeSpec := { name := "fnExactAuditCache", fn := fun _ => fun
  | [d] => { results := [.lit (.bool false)], args := [d] }
  | _ => none }
def FnExactAuditCacheWrongFalsely : Prop := fnExactAuditCacheRow.holds Tryz.pinned (OpenSpec.ofChange fnExactAuditCacheWrong)

/- THE SECOND FORM. 'bulk': how many values and letters a reading holds, each counted each time it is reached (what is shared counts as often as it is met; a slice's spare places count too). A statement '..UptoSaid' is the law's where the arguments, and the package variables that the reading takes, are together of bulk at most 1048576: NARROWER than '..Said'. Prove '..Said' where nothing that the law and all that it calls make is longer than what came in: it says more and counts as full. Else prove '..UptoSaid'. A law counts once. -/
mutual
def uptoBulk {H : Type} : DataW H → Nat
  | .lit (.string bytes) => bytes.length + 1
  | .lit _ => 1
  | .nil => 1
  | .ptr d => uptoBulk d + 1
  | .slice elems spare => uptoBulkAll elems + uptoBulkAll spare + 1
  | .agg parts => uptoBulkAll parts + 1
  | .iface _ d => uptoBulk d + 1
  | .map entries => uptoBulkEntries entries + 1
  | .held _ => 1
def uptoBulkAll {H : Type} : List (DataW H) → Nat
  | [] => 0
  | d :: r => uptoBulk d + uptoBulkAll r
def uptoBulkEntries {H : Type} : List (Lit × DataW H) → Nat
  | [] => 0
  | x :: r => uptoBulkEntry x + uptoBulkEntries r
def uptoBulkEntry {H : Type} : Lit × DataW H → Nat
  | (.string bytes, d) => bytes.length + uptoBulk d + 1
  | (_, d) => uptoBulk d + 1
 end
def uptoSmall : (H : Type) → List (DataW H) → Bool := fun _ ds => decide (uptoBulkAll ds ≤ 1048576)
def OpenSpec.upto (s : _root_.Go.ChangeSpec) : _root_.Go.OpenSpec := { _root_.Go.OpenSpec.ofChange s with cond := some uptoSmall }

/-- 'laws.FnExactIsMediator', WHERE WHAT IT READS IS OF BULK AT MOST 1048576: true; the input reads as it did. -/
def fnExactIsMediatorUptoRow : OpenClaim := { program := "ytabpeldbccicaaagreat", sum := "cc92c6a4c592d7618accc780dda2356512662bd0c0a1df0988a11ba1e713c9dc", func := "loop.example/g01989/laws.FnExactIsMediator", spec := "fnExactIsMediator", unfollowed := true, recurses := true, apart := false, narrowed := true }
def FnExactIsMediatorUptoSaid : Prop := fnExactIsMediatorUptoRow.holds Tryz.pinned (OpenSpec.upto fnExactIsMediatorSpec)

/-- 'laws.FnExactAuditLog', WHERE WHAT IT READS IS OF BULK AT MOST 1048576: true; the input reads as it did. -/
def fnExactAuditLogUptoRow : OpenClaim := { program := "ytabpeldbccicaaagreat", sum := "cc92c6a4c592d7618accc780dda2356512662bd0c0a1df0988a11ba1e713c9dc", func := "loop.example/g01989/laws.FnExactAuditLog", spec := "fnExactAuditLog", unfollowed := true, recurses := true, apart := false, narrowed := true }
def FnExactAuditLogUptoSaid : Prop := fnExactAuditLogUptoRow.holds Tryz.pinned (OpenSpec.upto fnExactAuditLogSpec)

/-- 'laws.FnExactAuditSpent', WHERE WHAT IT READS IS OF BULK AT MOST 1048576: true; the input reads as it did. -/
def fnExactAuditSpentUptoRow : OpenClaim := { program := "ytabpeldbccicaaagreat", sum := "cc92c6a4c592d7618accc780dda2356512662bd0c0a1df0988a11ba1e713c9dc", func := "loop.example/g01989/laws.FnExactAuditSpent", spec := "fnExactAuditSpent", unfollowed := true, recurses := true, apart := false, narrowed := true }
def FnExactAuditSpentUptoSaid : Prop := fnExactAuditSpentUptoRow.holds Tryz.pinned (OpenSpec.upto fnExactAuditSpentSpec)

/-- 'laws.FnExactAuditCache', WHERE WHAT IT READS IS OF BULK AT MOST 1048576: true; the input reads as it did. -/
def fnExactAuditCacheUptoRow : OpenClaim := { program := "ytabpeldbccicaaagreat", sum := "cc92c6a4c592d7618accc780dda2356512662bd0c0a1df0988a11ba1e713c9dc", func := "loop.example/g01989/laws.FnExactAuditCache", spec := "fnExactAuditCache", unfollowed := true, recurses := true, apart := false, narrowed := true }
def FnExactAuditCacheUptoSaid : Prop := fnExactAuditCacheUptoRow.holds Tryz.pinned (OpenSpec.upto fnExactAuditCacheSpec)

end Rows
end Go.Proofs.YtabpeldbccicaaaGreat
