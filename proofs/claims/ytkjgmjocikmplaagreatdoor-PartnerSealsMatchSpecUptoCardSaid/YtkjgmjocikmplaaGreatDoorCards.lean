/-
  DERIVED. GIVEN WITH THE SEED: THE CARDS: each row of YtkjgmjocikmplaaGreatDoorRows.lean that lists a variable, with what it lists TIED to the program's text (the seventh form; the later family's looks); each row that meets fmt, with fmt's text TOLD by the authors' own Lean function (tested against real Go, not proved from fmt's source: count such statements apart). THE CARD IS WHAT COUNTS. Prove the row's statement (the work); the ties are given (YtkjgmjocikmplaaGreatDoorTie.lean); close each card by the builder's one call (the guide's Derived/Test/ToyasCard.lean, 'card_holds'). Laid BY PROGRAM, IN A SANDBOX (cutbox-door.mjs). By AI agents, Wed Nov 11 2026. No macro, syntax, notation, axiom, sorry.
-/
import Derived.Test.YtkjgmjocikmplaaGreatDoorRows
import GoSem.ClaimSeven
namespace Go.Proofs.YtkjgmjocikmplaaGreatDoor
namespace Rows

/-- THE TIED CARD OF 'interchangelaw8.PartnerSealsMatchSpec'. -/
def partnerSealsMatchSpecCard : Claim7 := { stood := { row := partnerSealsMatchSpecRow, standIns := [], harness := (true, "22d2595400f3bb43f7c85498877cb2c29da1c1b6d3d52b316103339101ffa9c8"), looks := true }, kinds := [], alts := [], laidByText := true, laidKinds := [.data, .data, .data, .data, .sentinel, .sentinel, .pinned], laidTests := true, laidLooks := .later }
def PartnerSealsMatchSpecCardSaid : Prop := Claim7.holds Tryz.pinned (.plain (OpenSpec.ofChange partnerSealsMatchSpecSpec)) partnerSealsMatchSpecCard

/-- THE SECOND FORM's CARD OF 'interchangelaw8.PartnerSealsMatchSpec'. -/
def partnerSealsMatchSpecUptoCard : Claim7 := { stood := { row := partnerSealsMatchSpecUptoRow, standIns := [], harness := (true, "22d2595400f3bb43f7c85498877cb2c29da1c1b6d3d52b316103339101ffa9c8"), looks := true }, kinds := [], alts := [], laidByText := true, laidKinds := [.data, .data, .data, .data, .sentinel, .sentinel, .pinned], laidTests := true, laidLooks := .later }
def PartnerSealsMatchSpecUptoCardSaid : Prop := Claim7.holds Tryz.pinned (.plain (OpenSpec.upto partnerSealsMatchSpecSpec)) partnerSealsMatchSpecUptoCard
end Rows
end Go.Proofs.YtkjgmjocikmplaaGreatDoor
