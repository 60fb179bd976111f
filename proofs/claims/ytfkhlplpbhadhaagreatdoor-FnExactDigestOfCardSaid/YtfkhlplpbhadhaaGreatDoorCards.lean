/-
  DERIVED. GIVEN WITH THE SEED: THE CARDS: each row of YtfkhlplpbhadhaaGreatDoorRows.lean that lists a variable, with what it lists TIED to the program's text (the seventh form; the later family's looks); each row that meets fmt, with fmt's text TOLD by the authors' own Lean function (tested against real Go, not proved from fmt's source: count such statements apart). THE CARD IS WHAT COUNTS. Prove the row's statement (the work); the ties are given (YtfkhlplpbhadhaaGreatDoorTie.lean); close each card by the builder's one call (the guide's Derived/Test/ToyasCard.lean, 'card_holds'). Laid BY PROGRAM, IN A SANDBOX (cutbox-door.mjs). By AI agents, Wed Nov 11 2026. No macro, syntax, notation, axiom, sorry.
-/
import Derived.Test.YtfkhlplpbhadhaaGreatDoorRows
import GoSem.ClaimSeven
namespace Go.Proofs.YtfkhlplpbhadhaaGreatDoor
namespace Rows

/-- THE TIED CARD OF 'laws.FnExactMediatorLine'. -/
def fnExactMediatorLineCard : Claim7 := { stood := { row := fnExactMediatorLineRow, standIns := [], harness := (true, "f20fa78b24fa683a3245d3bd419878f2a753ccc001d36b74bdbec651a4eca9de"), looks := false }, kinds := [], alts := [], laidByText := true, laidKinds := [.data, .data, .data], laidTests := true, laidLooks := .later }
def FnExactMediatorLineCardSaid : Prop := Claim7.holds Tryz.pinned (.plain (OpenSpec.ofChange fnExactMediatorLineSpec)) fnExactMediatorLineCard

/-- THE TIED CARD OF 'laws.FnExactDigestOf'. -/
def fnExactDigestOfCard : Claim7 := { stood := { row := fnExactDigestOfRow, standIns := [], harness := (true, "f20fa78b24fa683a3245d3bd419878f2a753ccc001d36b74bdbec651a4eca9de"), looks := false }, kinds := [], alts := [], laidByText := true, laidKinds := [.data, .data, .data], laidTests := true, laidLooks := .later }
def FnExactDigestOfCardSaid : Prop := Claim7.holds Tryz.pinned (.plain (OpenSpec.ofChange fnExactDigestOfSpec)) fnExactDigestOfCard

/-- THE SECOND FORM's CARD OF 'laws.FnExactMediatorLine'. -/
def fnExactMediatorLineUptoCard : Claim7 := { stood := { row := fnExactMediatorLineUptoRow, standIns := [], harness := (true, "f20fa78b24fa683a3245d3bd419878f2a753ccc001d36b74bdbec651a4eca9de"), looks := false }, kinds := [], alts := [], laidByText := true, laidKinds := [.data, .data, .data], laidTests := true, laidLooks := .later }
def FnExactMediatorLineUptoCardSaid : Prop := Claim7.holds Tryz.pinned (.plain (OpenSpec.upto fnExactMediatorLineSpec)) fnExactMediatorLineUptoCard

/-- THE SECOND FORM's CARD OF 'laws.FnExactDigestOf'. -/
def fnExactDigestOfUptoCard : Claim7 := { stood := { row := fnExactDigestOfUptoRow, standIns := [], harness := (true, "f20fa78b24fa683a3245d3bd419878f2a753ccc001d36b74bdbec651a4eca9de"), looks := false }, kinds := [], alts := [], laidByText := true, laidKinds := [.data, .data, .data], laidTests := true, laidLooks := .later }
def FnExactDigestOfUptoCardSaid : Prop := Claim7.holds Tryz.pinned (.plain (OpenSpec.upto fnExactDigestOfSpec)) fnExactDigestOfUptoCard
end Rows
end Go.Proofs.YtfkhlplpbhadhaaGreatDoor
