/-
  No cell of these rows narrows 'for every input' (looked for: loops, veiled, ifaces, maps, wideKeys, modest, calm, conditions, laid).
  DERIVED. THE GIVEN ROWS OF THIS SEAT. 3 by the template 'for every input the law returns true; each argument reads behind the call as it read before'; 0 by the template 'total and deterministic' (their statements: YtlfebfhfgfjceabGreatTotals.lean).
  GIVEN WITH THE SEED: the statements are not yours to turn. If you find one false, say at which input.
  Laid BY PROGRAM, IN A SANDBOX (cutbox-rows.mjs): the forced cells as the released guide's own fill.sh prints them over the translation 37a9529c5b3a9847… (all of the seat's roots in one cut). By AI agents, Wed Nov 11 2026. No macro, syntax, notation, axiom, sorry.
-/
import Derived.Test.YtlfebfhfgfjceabGreatChecked
import GoSem.Claim
import GoSem.ClaimJoined
import GoSem.ClaimMapViews
import Derived.JoinedTies
import Derived.KernelRfl
namespace Go.Proofs.YtlfebfhfgfjceabGreat
/- THE CELL 'sum', in the pinned program and in every row, IS THE sha256 OF THE DUMP (.gsa) THAT YtlfebfhfgfjceabGreatProg.lean LOADS. Nothing in Lean hashes anything: it is a label: what it is worth is what the hold of that sum in a sandbox is worth. -/
noncomputable def Tryz.pinned : Pinned := { name := "ytlfebfhfgfjceabgreat", sum := "37a9529c5b3a98479150df634b3760420d74517268355b8a23bd72ed5ea464e4", checked := Tryz.checked }
namespace Rows
def none {H : Type} : Left H := { results := [], args := [] }

/-- 'laws.FnExactMaximalAnswers': WHATEVER THE INPUT: true; the input reads as it did. -/
def fnExactMaximalAnswersSpec : ChangeSpec := { name := "fnExactMaximalAnswers", fn := fun _ => fun
  | [d1, d2, d3, d4] => { results := [.lit (.bool true)], args := [d1, d2, d3, d4] }
  | _ => none }
def fnExactMaximalAnswersRow : OpenClaim := { program := "ytlfebfhfgfjceabgreat", sum := "37a9529c5b3a98479150df634b3760420d74517268355b8a23bd72ed5ea464e4", func := "loop.example/g01989/laws.FnExactMaximalAnswers", spec := "fnExactMaximalAnswers", inPlace := ["slices.overlaps[loop.example/g01989/impl.Fact]", "slices.overlaps[[]int]"], unfollowed := true, recurses := true, apart := false }
def FnExactMaximalAnswersSaid : Prop := fnExactMaximalAnswersRow.holds Tryz.pinned (OpenSpec.ofChange fnExactMaximalAnswersSpec)

/-- ITS FALSE NEIGHBOUR: 'it returns false'. Refute it at one input. -/
def fnExactMaximalAnswersWrong : ChangeSpec := { name := "fnExactMaximalAnswers", fn := fun _ => fun
  | [d1, d2, d3, d4] => { results := [.lit (.bool false)], args := [d1, d2, d3, d4] }
  | _ => none }
def FnExactMaximalAnswersWrongFalsely : Prop := fnExactMaximalAnswersRow.holds Tryz.pinned (OpenSpec.ofChange fnExactMaximalAnswersWrong)

/-- 'laws.FnExactCheckCertificate': WHATEVER THE INPUT: true; the input reads as it did. -/
def fnExactCheckCertificateSpec : ChangeSpec := { name := "fnExactCheckCertificate", fn := fun _ => fun
  | [d1, d2, d3, d4] => { results := [.lit (.bool true)], args := [d1, d2, d3, d4] }
  | _ => none }
def fnExactCheckCertificateRow : OpenClaim := { program := "ytlfebfhfgfjceabgreat", sum := "37a9529c5b3a98479150df634b3760420d74517268355b8a23bd72ed5ea464e4", func := "loop.example/g01989/laws.FnExactCheckCertificate", spec := "fnExactCheckCertificate", inPlace := ["slices.overlaps[loop.example/g01989/impl.Fact]", "slices.overlaps[[]int]"], unfollowed := true, recurses := true, apart := false }
def FnExactCheckCertificateSaid : Prop := fnExactCheckCertificateRow.holds Tryz.pinned (OpenSpec.ofChange fnExactCheckCertificateSpec)

/-- ITS FALSE NEIGHBOUR: 'it returns false'. Refute it at one input. -/
def fnExactCheckCertificateWrong : ChangeSpec := { name := "fnExactCheckCertificate", fn := fun _ => fun
  | [d1, d2, d3, d4] => { results := [.lit (.bool false)], args := [d1, d2, d3, d4] }
  | _ => none }
def FnExactCheckCertificateWrongFalsely : Prop := fnExactCheckCertificateRow.holds Tryz.pinned (OpenSpec.ofChange fnExactCheckCertificateWrong)

/-- 'laws.FnExactLostAnswers': WHATEVER THE INPUT: true; the input reads as it did. -/
def fnExactLostAnswersSpec : ChangeSpec := { name := "fnExactLostAnswers", fn := fun _ => fun
  | [d1, d2, d3, d4] => { results := [.lit (.bool true)], args := [d1, d2, d3, d4] }
  | _ => none }
def fnExactLostAnswersRow : OpenClaim := { program := "ytlfebfhfgfjceabgreat", sum := "37a9529c5b3a98479150df634b3760420d74517268355b8a23bd72ed5ea464e4", func := "loop.example/g01989/laws.FnExactLostAnswers", spec := "fnExactLostAnswers", inPlace := ["slices.overlaps[[]int]", "slices.overlaps[loop.example/g01989/impl.Fact]"], unfollowed := true, recurses := true, apart := false }
def FnExactLostAnswersSaid : Prop := fnExactLostAnswersRow.holds Tryz.pinned (OpenSpec.ofChange fnExactLostAnswersSpec)

/-- ITS FALSE NEIGHBOUR: 'it returns false'. Refute it at one input. -/
def fnExactLostAnswersWrong : ChangeSpec := { name := "fnExactLostAnswers", fn := fun _ => fun
  | [d1, d2, d3, d4] => { results := [.lit (.bool false)], args := [d1, d2, d3, d4] }
  | _ => none }
def FnExactLostAnswersWrongFalsely : Prop := fnExactLostAnswersRow.holds Tryz.pinned (OpenSpec.ofChange fnExactLostAnswersWrong)

/- THE SECOND FORM. 'bulk': how many values and letters a reading holds, each counted each time it is reached (what is shared counts as often as it is met; a slice's spare places count too). A statement '..UptoSaid' is the law's where the arguments, and the package variables that the reading takes, are together of bulk at most 1048576: NARROWER than '..Said'. Prove '..Said' where nothing that the law and all that it calls make is longer than what came in: it says more and counts as full. Else prove '..UptoSaid'. A law counts once. -/
mutual
def uptoBulk {H : Type} : DataW H → Nat
  | .lit (.string bytes) => bytes.length + 1
  | .lit _ => 1
  | .nil => 1
  | .ptr d => uptoBulk d + 1
  | .slice elems spare => uptoBulkAll elems + uptoBulkAll spare + 1
  | .agg parts => uptoBulkAll parts + 1
  | .iface _ d => uptoBulk d + 1
  | .map entries => uptoBulkEntries entries + 1
  | .held _ => 1
def uptoBulkAll {H : Type} : List (DataW H) → Nat
  | [] => 0
  | d :: r => uptoBulk d + uptoBulkAll r
def uptoBulkEntries {H : Type} : List (Lit × DataW H) → Nat
  | [] => 0
  | x :: r => uptoBulkEntry x + uptoBulkEntries r
def uptoBulkEntry {H : Type} : Lit × DataW H → Nat
  | (.string bytes, d) => bytes.length + uptoBulk d + 1
  | (_, d) => uptoBulk d + 1
 end
def uptoSmall : (H : Type) → List (DataW H) → Bool := fun _ ds => decide (uptoBulkAll ds ≤ 1048576)
def OpenSpec.upto (s : _root_.Go.ChangeSpec) : _root_.Go.OpenSpec := { _root_.Go.OpenSpec.ofChange s with cond := some uptoSmall }

/-- 'laws.FnExactMaximalAnswers', WHERE WHAT IT READS IS OF BULK AT MOST 1048576: true; the input reads as it did. -/
def fnExactMaximalAnswersUptoRow : OpenClaim := { program := "ytlfebfhfgfjceabgreat", sum := "37a9529c5b3a98479150df634b3760420d74517268355b8a23bd72ed5ea464e4", func := "loop.example/g01989/laws.FnExactMaximalAnswers", spec := "fnExactMaximalAnswers", inPlace := ["slices.overlaps[loop.example/g01989/impl.Fact]", "slices.overlaps[[]int]"], unfollowed := true, recurses := true, apart := false, narrowed := true }
def FnExactMaximalAnswersUptoSaid : Prop := fnExactMaximalAnswersUptoRow.holds Tryz.pinned (OpenSpec.upto fnExactMaximalAnswersSpec)

/-- 'laws.FnExactCheckCertificate', WHERE WHAT IT READS IS OF BULK AT MOST 1048576: true; the input reads as it did. -/
def fnExactCheckCertificateUptoRow : OpenClaim := { program := "ytlfebfhfgfjceabgreat", sum := "37a9529c5b3a98479150df634b3760420d74517268355b8a23bd72ed5ea464e4", func := "loop.example/g01989/laws.FnExactCheckCertificate", spec := "fnExactCheckCertificate", inPlace := ["slices.overlaps[loop.example/g01989/impl.Fact]", "slices.overlaps[[]int]"], unfollowed := true, recurses := true, apart := false, narrowed := true }
def FnExactCheckCertificateUptoSaid : Prop := fnExactCheckCertificateUptoRow.holds Tryz.pinned (OpenSpec.upto fnExactCheckCertificateSpec)

/-- 'laws.FnExactLostAnswers', WHERE WHAT IT READS IS OF BULK AT MOST 1048576: true; the input reads as it did. -/
def fnExactLostAnswersUptoRow : OpenClaim := { program := "ytlfebfhfgfjceabgreat", sum := "37a9529c5b3a98479150df634b3760420d74517268355b8a23bd72ed5ea464e4", func := "loop.example/g01989/laws.FnExactLostAnswers", spec := "fnExactLostAnswers", inPlace := ["slices.overlaps[[]int]", "slices.overlaps[loop.example/g01989/impl.Fact]"], unfollowed := true, recurses := true, apart := false, narrowed := true }
def FnExactLostAnswersUptoSaid : Prop := fnExactLostAnswersUptoRow.holds Tryz.pinned (OpenSpec.upto fnExactLostAnswersSpec)

end Rows
end Go.Proofs.YtlfebfhfgfjceabGreat
