/-
  DERIVED. GIVEN WITH THE SEED: THE CARDS: each row of YtfkhlplpbhadhaaDoorRows.lean that lists a variable, with what it lists TIED to the program's text (the seventh form; the later family's looks); each row that meets fmt, with fmt's text TOLD by the authors' own Lean function (tested against real Go, not proved from fmt's source: count such statements apart). THE CARD IS WHAT COUNTS. Prove the row's statement (the work); the ties are given (YtfkhlplpbhadhaaDoorTie.lean); close each card by the builder's one call (the guide's Derived/Test/ToyasCard.lean, 'card_holds'). Laid BY PROGRAM, IN A SANDBOX (cutbox-door.mjs). By AI agents, Wed Nov 11 2026. No macro, syntax, notation, axiom, sorry.
-/
import Derived.Test.YtfkhlplpbhadhaaDoorRows
import GoSem.ClaimSeven
namespace Go.Proofs.YtfkhlplpbhadhaaDoor
namespace Rows

/-- THE TIED CARD OF 'laws.FnExactFormatLog'. -/
def fnExactFormatLogCard : Claim7 := { stood := { row := fnExactFormatLogRow, standIns := [], harness := (true, "f7d13ddc249da236125777ee81acf158ed78c822bca762e428f7a7372bf6ec76"), looks := false }, kinds := [], alts := [], laidByText := true, laidKinds := [.data, .data, .data], laidTests := true, laidLooks := .later }
def FnExactFormatLogCardSaid : Prop := Claim7.holds Tryd.pinned (.plain (OpenSpec.ofChange fnExactFormatLogSpec)) fnExactFormatLogCard

/-- THE TIED CARD OF 'laws.FnExactViewDigest'. -/
def fnExactViewDigestCard : Claim7 := { stood := { row := fnExactViewDigestRow, standIns := [], harness := (true, "f7d13ddc249da236125777ee81acf158ed78c822bca762e428f7a7372bf6ec76"), looks := false }, kinds := [], alts := [], laidByText := true, laidKinds := [.data, .data, .data], laidTests := true, laidLooks := .later }
def FnExactViewDigestCardSaid : Prop := Claim7.holds Tryd.pinned (.plain (OpenSpec.ofChange fnExactViewDigestSpec)) fnExactViewDigestCard

/-- THE SECOND FORM's CARD OF 'laws.FnExactFormatLog'. -/
def fnExactFormatLogUptoCard : Claim7 := { stood := { row := fnExactFormatLogUptoRow, standIns := [], harness := (true, "f7d13ddc249da236125777ee81acf158ed78c822bca762e428f7a7372bf6ec76"), looks := false }, kinds := [], alts := [], laidByText := true, laidKinds := [.data, .data, .data], laidTests := true, laidLooks := .later }
def FnExactFormatLogUptoCardSaid : Prop := Claim7.holds Tryd.pinned (.plain (OpenSpec.upto fnExactFormatLogSpec)) fnExactFormatLogUptoCard

/-- THE SECOND FORM's CARD OF 'laws.FnExactViewDigest'. -/
def fnExactViewDigestUptoCard : Claim7 := { stood := { row := fnExactViewDigestUptoRow, standIns := [], harness := (true, "f7d13ddc249da236125777ee81acf158ed78c822bca762e428f7a7372bf6ec76"), looks := false }, kinds := [], alts := [], laidByText := true, laidKinds := [.data, .data, .data], laidTests := true, laidLooks := .later }
def FnExactViewDigestUptoCardSaid : Prop := Claim7.holds Tryd.pinned (.plain (OpenSpec.upto fnExactViewDigestSpec)) fnExactViewDigestUptoCard
end Rows
end Go.Proofs.YtfkhlplpbhadhaaDoor
