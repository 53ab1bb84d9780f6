/-
  DERIVED. GIVEN WITH THE SEED: THE CARDS: each row of YtkjgmjocikmplaaDoorRows.lean that lists a variable, with what it lists TIED to the program's text (the seventh form; the later family's looks); each row that meets fmt, with fmt's text TOLD by the authors' own Lean function (tested against real Go, not proved from fmt's source: count such statements apart). THE CARD IS WHAT COUNTS. Prove the row's statement (the work); the ties are given (YtkjgmjocikmplaaDoorTie.lean); close each card by the builder's one call (the guide's Derived/Test/ToyasCard.lean, 'card_holds'). Laid BY PROGRAM, IN A SANDBOX (cutbox-door.mjs). By AI agents, Wed Nov 11 2026. No macro, syntax, notation, axiom, sorry.
-/
import Derived.Test.YtkjgmjocikmplaaDoorRows
import GoSem.ClaimSeven
namespace Go.Proofs.YtkjgmjocikmplaaDoor
namespace Rows

/-- THE TIED CARD OF 'interchangelaw8.PartnerReceiptsComeBack'. -/
def partnerReceiptsComeBackCard : Claim7 := { stood := { row := partnerReceiptsComeBackRow, standIns := [], harness := (true, "6a857c7d1a30cf501f93a7288778ee42d4c5fc96c78fb5d94fd77ec8aef2f403"), looks := true }, kinds := [], alts := [], laidByText := true, laidKinds := [.data, .data, .data, .data, .sentinel, .sentinel, .pinned], laidTests := true, laidLooks := .later }
def PartnerReceiptsComeBackCardSaid : Prop := Claim7.holds Tryd.pinned (.plain (OpenSpec.ofChange partnerReceiptsComeBackSpec)) partnerReceiptsComeBackCard

/-- THE SECOND FORM's CARD OF 'interchangelaw8.PartnerReceiptsComeBack'. -/
def partnerReceiptsComeBackUptoCard : Claim7 := { stood := { row := partnerReceiptsComeBackUptoRow, standIns := [], harness := (true, "6a857c7d1a30cf501f93a7288778ee42d4c5fc96c78fb5d94fd77ec8aef2f403"), looks := true }, kinds := [], alts := [], laidByText := true, laidKinds := [.data, .data, .data, .data, .sentinel, .sentinel, .pinned], laidTests := true, laidLooks := .later }
def PartnerReceiptsComeBackUptoCardSaid : Prop := Claim7.holds Tryd.pinned (.plain (OpenSpec.upto partnerReceiptsComeBackSpec)) partnerReceiptsComeBackUptoCard
end Rows
end Go.Proofs.YtkjgmjocikmplaaDoor
