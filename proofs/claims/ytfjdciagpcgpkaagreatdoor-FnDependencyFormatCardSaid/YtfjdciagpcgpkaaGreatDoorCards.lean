/-
  DERIVED. GIVEN WITH THE SEED: THE CARDS: each row of YtfjdciagpcgpkaaGreatDoorRows.lean that lists a variable, with what it lists TIED to the program's text (the seventh form; the later family's looks); each row that meets fmt, with fmt's text TOLD by the authors' own Lean function (tested against real Go, not proved from fmt's source: count such statements apart). THE CARD IS WHAT COUNTS. Prove the row's statement (the work); the ties are given (YtfjdciagpcgpkaaGreatDoorTie.lean); close each card by the builder's one call (the guide's Derived/Test/ToyasCard.lean, 'card_holds'). Laid BY PROGRAM, IN A SANDBOX (cutbox-door.mjs). By AI agents, Wed Nov 11 2026. No macro, syntax, notation, axiom, sorry.
-/
import Derived.Test.YtfjdciagpcgpkaaGreatDoorRows
import GoSem.ClaimSeven
namespace Go.Proofs.YtfjdciagpcgpkaaGreatDoor
namespace Rows

/-- THE TIED CARD OF 'laws.FnDependencyFormat'. -/
def fnDependencyFormatCard : Claim7 := { stood := { row := fnDependencyFormatRow, standIns := [], harness := (true, "576a3a294b54cf20bc2351b76e1a524f681940d1334e730d867f9e3b499f6903"), looks := false }, kinds := [], alts := [], laidByText := true, laidKinds := [.data, .data, .data, .data, .pinned], laidTests := true, laidLooks := .later }
def FnDependencyFormatCardSaid : Prop := Claim7.holds Tryz.pinned (.plain (OpenSpec.ofChange fnDependencyFormatSpec)) fnDependencyFormatCard

/-- THE SECOND FORM's CARD OF 'laws.FnDependencyFormat'. -/
def fnDependencyFormatUptoCard : Claim7 := { stood := { row := fnDependencyFormatUptoRow, standIns := [], harness := (true, "576a3a294b54cf20bc2351b76e1a524f681940d1334e730d867f9e3b499f6903"), looks := false }, kinds := [], alts := [], laidByText := true, laidKinds := [.data, .data, .data, .data, .pinned], laidTests := true, laidLooks := .later }
def FnDependencyFormatUptoCardSaid : Prop := Claim7.holds Tryz.pinned (.plain (OpenSpec.upto fnDependencyFormatSpec)) fnDependencyFormatUptoCard
end Rows
end Go.Proofs.YtfjdciagpcgpkaaGreatDoor
