/-
  DERIVED. GIVEN WITH THE SEED: THE CARDS: each row of YtcjkjmnbdlnojaaGreatDoorRows.lean that lists a variable, with what it lists TIED to the program's text (the seventh form; the later family's looks); each row that meets fmt, with fmt's text TOLD by the authors' own Lean function (tested against real Go, not proved from fmt's source: count such statements apart). THE CARD IS WHAT COUNTS. Prove the row's statement (the work); the ties are given (YtcjkjmnbdlnojaaGreatDoorTie.lean); close each card by the builder's one call (the guide's Derived/Test/ToyasCard.lean, 'card_holds'). Laid BY PROGRAM, IN A SANDBOX (cutbox-door.mjs). By AI agents, Wed Nov 11 2026. No macro, syntax, notation, axiom, sorry.
-/
import Derived.Test.YtcjkjmnbdlnojaaGreatDoorRows
import GoSem.ClaimSeven
namespace Go.Proofs.YtcjkjmnbdlnojaaGreatDoor
namespace Rows

/-- THE TIED CARD OF 'laws.FnExactIsEvent'. -/
def fnExactIsEventCard : Claim7 := { stood := { row := fnExactIsEventRow, standIns := [], harness := (true, "f5f29142461482cda904e2be373e60663bd88d19b28a0364700a1047fcdb8440"), looks := true }, kinds := [], alts := [], laidByText := true, laidKinds := [.data, .data, .data, .data, .sentinel, .sentinel, .pinned], laidTests := true, laidLooks := .later }
def FnExactIsEventCardSaid : Prop := Claim7.holds Tryz.pinned (.plain (OpenSpec.ofChange fnExactIsEventSpec)) fnExactIsEventCard

/-- THE TIED CARD OF 'laws.FnExactParseEvent'. -/
def fnExactParseEventCard : Claim7 := { stood := { row := fnExactParseEventRow, standIns := [], harness := (true, "f5f29142461482cda904e2be373e60663bd88d19b28a0364700a1047fcdb8440"), looks := true }, kinds := [], alts := [], laidByText := true, laidKinds := [.data, .data, .data, .data, .sentinel, .sentinel, .pinned], laidTests := true, laidLooks := .later }
def FnExactParseEventCardSaid : Prop := Claim7.holds Tryz.pinned (.plain (OpenSpec.ofChange fnExactParseEventSpec)) fnExactParseEventCard

/-- THE TIED CARD OF 'laws.FnExactDecodeEvents'. -/
def fnExactDecodeEventsCard : Claim7 := { stood := { row := fnExactDecodeEventsRow, standIns := [], harness := (true, "f5f29142461482cda904e2be373e60663bd88d19b28a0364700a1047fcdb8440"), looks := true }, kinds := [], alts := [], laidByText := true, laidKinds := [.data, .data, .data, .data, .sentinel, .sentinel, .pinned], laidTests := true, laidLooks := .later }
def FnExactDecodeEventsCardSaid : Prop := Claim7.holds Tryz.pinned (.plain (OpenSpec.ofChange fnExactDecodeEventsSpec)) fnExactDecodeEventsCard

/-- THE SECOND FORM's CARD OF 'laws.FnExactIsEvent'. -/
def fnExactIsEventUptoCard : Claim7 := { stood := { row := fnExactIsEventUptoRow, standIns := [], harness := (true, "f5f29142461482cda904e2be373e60663bd88d19b28a0364700a1047fcdb8440"), looks := true }, kinds := [], alts := [], laidByText := true, laidKinds := [.data, .data, .data, .data, .sentinel, .sentinel, .pinned], laidTests := true, laidLooks := .later }
def FnExactIsEventUptoCardSaid : Prop := Claim7.holds Tryz.pinned (.plain (OpenSpec.upto fnExactIsEventSpec)) fnExactIsEventUptoCard

/-- THE SECOND FORM's CARD OF 'laws.FnExactParseEvent'. -/
def fnExactParseEventUptoCard : Claim7 := { stood := { row := fnExactParseEventUptoRow, standIns := [], harness := (true, "f5f29142461482cda904e2be373e60663bd88d19b28a0364700a1047fcdb8440"), looks := true }, kinds := [], alts := [], laidByText := true, laidKinds := [.data, .data, .data, .data, .sentinel, .sentinel, .pinned], laidTests := true, laidLooks := .later }
def FnExactParseEventUptoCardSaid : Prop := Claim7.holds Tryz.pinned (.plain (OpenSpec.upto fnExactParseEventSpec)) fnExactParseEventUptoCard

/-- THE SECOND FORM's CARD OF 'laws.FnExactDecodeEvents'. -/
def fnExactDecodeEventsUptoCard : Claim7 := { stood := { row := fnExactDecodeEventsUptoRow, standIns := [], harness := (true, "f5f29142461482cda904e2be373e60663bd88d19b28a0364700a1047fcdb8440"), looks := true }, kinds := [], alts := [], laidByText := true, laidKinds := [.data, .data, .data, .data, .sentinel, .sentinel, .pinned], laidTests := true, laidLooks := .later }
def FnExactDecodeEventsUptoCardSaid : Prop := Claim7.holds Tryz.pinned (.plain (OpenSpec.upto fnExactDecodeEventsSpec)) fnExactDecodeEventsUptoCard
end Rows
end Go.Proofs.YtcjkjmnbdlnojaaGreatDoor
