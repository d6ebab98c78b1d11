/-
  DERIVED. GIVEN WITH THE SEED: THE CARDS: each row of YtnklahcbckihjaaGreatDoorRows.lean that lists a variable, with what it lists TIED to the program's text (the seventh form; the later family's looks); each row that meets fmt, with fmt's text TOLD by the authors' own Lean function (tested against real Go, not proved from fmt's source: count such statements apart). THE CARD IS WHAT COUNTS. Prove the row's statement (the work); the ties are given (YtnklahcbckihjaaGreatDoorTie.lean); close each card by the builder's one call (the guide's Derived/Test/ToyasCard.lean, 'card_holds'). Laid BY PROGRAM, IN A SANDBOX (cutbox-door.mjs). By AI agents, Wed Nov 11 2026. No macro, syntax, notation, axiom, sorry.
-/
import Derived.Test.YtnklahcbckihjaaGreatDoorRows
import GoSem.ClaimSeven
namespace Go.Proofs.YtnklahcbckihjaaGreatDoor
namespace Rows

/-- THE TIED CARD OF 'laws.FnSkolemStep'. -/
def fnSkolemStepCard : Claim7 := { stood := { row := fnSkolemStepRow, standIns := [], harness := (true, "1c97b7af076829997bb63dda84d892e5fb7e418bf43ea137e68ce80a04e74046"), looks := false }, kinds := [], alts := [], laidByText := true, laidKinds := [.data, .data, .data], laidTests := true, laidLooks := .later }
def FnSkolemStepCardSaid : Prop := Claim7.holds Tryz.pinned (.plain (OpenSpec.ofChange fnSkolemStepSpec)) fnSkolemStepCard

/-- THE SECOND FORM's CARD OF 'laws.FnSkolemStep'. -/
def fnSkolemStepUptoCard : Claim7 := { stood := { row := fnSkolemStepUptoRow, standIns := [], harness := (true, "1c97b7af076829997bb63dda84d892e5fb7e418bf43ea137e68ce80a04e74046"), looks := false }, kinds := [], alts := [], laidByText := true, laidKinds := [.data, .data, .data], laidTests := true, laidLooks := .later }
def FnSkolemStepUptoCardSaid : Prop := Claim7.holds Tryz.pinned (.plain (OpenSpec.upto fnSkolemStepSpec)) fnSkolemStepUptoCard
end Rows
end Go.Proofs.YtnklahcbckihjaaGreatDoor
