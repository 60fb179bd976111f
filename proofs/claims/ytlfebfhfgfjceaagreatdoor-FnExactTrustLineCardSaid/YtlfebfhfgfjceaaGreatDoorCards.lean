/-
  DERIVED. GIVEN WITH THE SEED: THE CARDS: each row of YtlfebfhfgfjceaaGreatDoorRows.lean that lists a variable, with what it lists TIED to the program's text (the seventh form; the later family's looks); each row that meets fmt, with fmt's text TOLD by the authors' own Lean function (tested against real Go, not proved from fmt's source: count such statements apart). THE CARD IS WHAT COUNTS. Prove the row's statement (the work); the ties are given (YtlfebfhfgfjceaaGreatDoorTie.lean); close each card by the builder's one call (the guide's Derived/Test/ToyasCard.lean, 'card_holds'). Laid BY PROGRAM, IN A SANDBOX (cutbox-door.mjs). By AI agents, Wed Nov 11 2026. No macro, syntax, notation, axiom, sorry.
-/
import Derived.Test.YtlfebfhfgfjceaaGreatDoorRows
import GoSem.ClaimSeven
namespace Go.Proofs.YtlfebfhfgfjceaaGreatDoor
namespace Rows

/-- THE TIED CARD OF 'laws.FnExactTrustLine'. -/
def fnExactTrustLineCard : Claim7 := { stood := { row := fnExactTrustLineRow, standIns := [], harness := (true, "d54cbaa12c9e4b88c5520ee59161deea0e52eebd833577f079234e5e0ac98dc9"), looks := false }, kinds := [], alts := [], laidByText := true, laidKinds := [.data, .data, .data], laidTests := true, laidLooks := .later }
def FnExactTrustLineCardSaid : Prop := Claim7.holds Tryz.pinned (.plain (OpenSpec.ofChange fnExactTrustLineSpec)) fnExactTrustLineCard

/-- THE TIED CARD OF 'laws.FnExactCacheLines'. -/
def fnExactCacheLinesCard : Claim7 := { stood := { row := fnExactCacheLinesRow, standIns := [], harness := (true, "d54cbaa12c9e4b88c5520ee59161deea0e52eebd833577f079234e5e0ac98dc9"), looks := false }, kinds := [], alts := [], laidByText := true, laidKinds := [.data, .data, .data], laidTests := true, laidLooks := .later }
def FnExactCacheLinesCardSaid : Prop := Claim7.holds Tryz.pinned (.plain (OpenSpec.ofChange fnExactCacheLinesSpec)) fnExactCacheLinesCard

/-- THE TIED CARD OF 'laws.FnExactReachLine'. -/
def fnExactReachLineCard : Claim7 := { stood := { row := fnExactReachLineRow, standIns := [], harness := (true, "d54cbaa12c9e4b88c5520ee59161deea0e52eebd833577f079234e5e0ac98dc9"), looks := false }, kinds := [], alts := [], laidByText := true, laidKinds := [.data, .data, .data], laidTests := true, laidLooks := .later }
def FnExactReachLineCardSaid : Prop := Claim7.holds Tryz.pinned (.plain (OpenSpec.ofChange fnExactReachLineSpec)) fnExactReachLineCard

/-- THE SECOND FORM's CARD OF 'laws.FnExactTrustLine'. -/
def fnExactTrustLineUptoCard : Claim7 := { stood := { row := fnExactTrustLineUptoRow, standIns := [], harness := (true, "d54cbaa12c9e4b88c5520ee59161deea0e52eebd833577f079234e5e0ac98dc9"), looks := false }, kinds := [], alts := [], laidByText := true, laidKinds := [.data, .data, .data], laidTests := true, laidLooks := .later }
def FnExactTrustLineUptoCardSaid : Prop := Claim7.holds Tryz.pinned (.plain (OpenSpec.upto fnExactTrustLineSpec)) fnExactTrustLineUptoCard

/-- THE SECOND FORM's CARD OF 'laws.FnExactCacheLines'. -/
def fnExactCacheLinesUptoCard : Claim7 := { stood := { row := fnExactCacheLinesUptoRow, standIns := [], harness := (true, "d54cbaa12c9e4b88c5520ee59161deea0e52eebd833577f079234e5e0ac98dc9"), looks := false }, kinds := [], alts := [], laidByText := true, laidKinds := [.data, .data, .data], laidTests := true, laidLooks := .later }
def FnExactCacheLinesUptoCardSaid : Prop := Claim7.holds Tryz.pinned (.plain (OpenSpec.upto fnExactCacheLinesSpec)) fnExactCacheLinesUptoCard

/-- THE SECOND FORM's CARD OF 'laws.FnExactReachLine'. -/
def fnExactReachLineUptoCard : Claim7 := { stood := { row := fnExactReachLineUptoRow, standIns := [], harness := (true, "d54cbaa12c9e4b88c5520ee59161deea0e52eebd833577f079234e5e0ac98dc9"), looks := false }, kinds := [], alts := [], laidByText := true, laidKinds := [.data, .data, .data], laidTests := true, laidLooks := .later }
def FnExactReachLineUptoCardSaid : Prop := Claim7.holds Tryz.pinned (.plain (OpenSpec.upto fnExactReachLineSpec)) fnExactReachLineUptoCard
end Rows
end Go.Proofs.YtlfebfhfgfjceaaGreatDoor
