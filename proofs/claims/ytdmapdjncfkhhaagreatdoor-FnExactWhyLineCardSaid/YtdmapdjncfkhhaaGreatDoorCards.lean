/-
  DERIVED. GIVEN WITH THE SEED: THE CARDS: each row of YtdmapdjncfkhhaaGreatDoorRows.lean that lists a variable, with what it lists TIED to the program's text (the seventh form; the later family's looks); each row that meets fmt, with fmt's text TOLD by the authors' own Lean function (tested against real Go, not proved from fmt's source: count such statements apart). THE CARD IS WHAT COUNTS. Prove the row's statement (the work); the ties are given (YtdmapdjncfkhhaaGreatDoorTie.lean); close each card by the builder's one call (the guide's Derived/Test/ToyasCard.lean, 'card_holds'). Laid BY PROGRAM, IN A SANDBOX (cutbox-door.mjs). By AI agents, Wed Nov 11 2026. No macro, syntax, notation, axiom, sorry.
-/
import Derived.Test.YtdmapdjncfkhhaaGreatDoorRows
import GoSem.ClaimSeven
namespace Go.Proofs.YtdmapdjncfkhhaaGreatDoor
namespace Rows

/-- THE TIED CARD OF 'laws.FnExactWhyLine'. -/
def fnExactWhyLineCard : Claim7 := { stood := { row := fnExactWhyLineRow, standIns := [], harness := (true, "ef03683b5bbbe8c6a7054127f501ddc939323f22523163ef625262f2913f691b"), looks := false }, kinds := [], alts := [], laidByText := true, laidKinds := [.data, .data, .data], laidTests := true, laidLooks := .later }
def FnExactWhyLineCardSaid : Prop := Claim7.holds Tryz.pinned (.plain (OpenSpec.ofChange fnExactWhyLineSpec)) fnExactWhyLineCard

/-- THE TIED CARD OF 'laws.FnExactPlanLine'. -/
def fnExactPlanLineCard : Claim7 := { stood := { row := fnExactPlanLineRow, standIns := [], harness := (true, "ef03683b5bbbe8c6a7054127f501ddc939323f22523163ef625262f2913f691b"), looks := false }, kinds := [], alts := [], laidByText := true, laidKinds := [.data, .data, .data], laidTests := true, laidLooks := .later }
def FnExactPlanLineCardSaid : Prop := Claim7.holds Tryz.pinned (.plain (OpenSpec.ofChange fnExactPlanLineSpec)) fnExactPlanLineCard

/-- THE SECOND FORM's CARD OF 'laws.FnExactWhyLine'. -/
def fnExactWhyLineUptoCard : Claim7 := { stood := { row := fnExactWhyLineUptoRow, standIns := [], harness := (true, "ef03683b5bbbe8c6a7054127f501ddc939323f22523163ef625262f2913f691b"), looks := false }, kinds := [], alts := [], laidByText := true, laidKinds := [.data, .data, .data], laidTests := true, laidLooks := .later }
def FnExactWhyLineUptoCardSaid : Prop := Claim7.holds Tryz.pinned (.plain (OpenSpec.upto fnExactWhyLineSpec)) fnExactWhyLineUptoCard

/-- THE SECOND FORM's CARD OF 'laws.FnExactPlanLine'. -/
def fnExactPlanLineUptoCard : Claim7 := { stood := { row := fnExactPlanLineUptoRow, standIns := [], harness := (true, "ef03683b5bbbe8c6a7054127f501ddc939323f22523163ef625262f2913f691b"), looks := false }, kinds := [], alts := [], laidByText := true, laidKinds := [.data, .data, .data], laidTests := true, laidLooks := .later }
def FnExactPlanLineUptoCardSaid : Prop := Claim7.holds Tryz.pinned (.plain (OpenSpec.upto fnExactPlanLineSpec)) fnExactPlanLineUptoCard
end Rows
end Go.Proofs.YtdmapdjncfkhhaaGreatDoor
