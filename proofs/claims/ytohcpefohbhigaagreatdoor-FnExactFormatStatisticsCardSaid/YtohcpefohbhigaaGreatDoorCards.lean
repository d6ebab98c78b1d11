/-
  DERIVED. GIVEN WITH THE SEED: THE CARDS: each row of YtohcpefohbhigaaGreatDoorRows.lean that lists a variable, with what it lists TIED to the program's text (the seventh form; the later family's looks); each row that meets fmt, with fmt's text TOLD by the authors' own Lean function (tested against real Go, not proved from fmt's source: count such statements apart). THE CARD IS WHAT COUNTS. Prove the row's statement (the work); the ties are given (YtohcpefohbhigaaGreatDoorTie.lean); close each card by the builder's one call (the guide's Derived/Test/ToyasCard.lean, 'card_holds'). Laid BY PROGRAM, IN A SANDBOX (cutbox-door.mjs). By AI agents, Wed Nov 11 2026. No macro, syntax, notation, axiom, sorry.
-/
import Derived.Test.YtohcpefohbhigaaGreatDoorRows
import GoSem.ClaimSeven
namespace Go.Proofs.YtohcpefohbhigaaGreatDoor
namespace Rows

/-- THE TIED CARD OF 'laws.FnExactFormatStatistics'. -/
def fnExactFormatStatisticsCard : Claim7 := { stood := { row := fnExactFormatStatisticsRow, standIns := [], harness := (true, "ecf4c726e0f15f023d29e298ab8d8131fc877650ec27e30d9e58b8143f0e02dc"), looks := false }, kinds := [], alts := [], laidByText := true, laidKinds := [.data, .data, .data], laidTests := true, laidLooks := .later }
def FnExactFormatStatisticsCardSaid : Prop := Claim7.holds Tryz.pinned (.plain (OpenSpec.ofChange fnExactFormatStatisticsSpec)) fnExactFormatStatisticsCard

/-- THE SECOND FORM's CARD OF 'laws.FnExactFormatStatistics'. -/
def fnExactFormatStatisticsUptoCard : Claim7 := { stood := { row := fnExactFormatStatisticsUptoRow, standIns := [], harness := (true, "ecf4c726e0f15f023d29e298ab8d8131fc877650ec27e30d9e58b8143f0e02dc"), looks := false }, kinds := [], alts := [], laidByText := true, laidKinds := [.data, .data, .data], laidTests := true, laidLooks := .later }
def FnExactFormatStatisticsUptoCardSaid : Prop := Claim7.holds Tryz.pinned (.plain (OpenSpec.upto fnExactFormatStatisticsSpec)) fnExactFormatStatisticsUptoCard
end Rows
end Go.Proofs.YtohcpefohbhigaaGreatDoor
