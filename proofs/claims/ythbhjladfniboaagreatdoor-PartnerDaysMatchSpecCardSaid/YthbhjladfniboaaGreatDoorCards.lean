/-
  DERIVED. GIVEN WITH THE SEED: THE CARDS: each row of YthbhjladfniboaaGreatDoorRows.lean that lists a variable, with what it lists TIED to the program's text (the seventh form; the later family's looks); each row that meets fmt, with fmt's text TOLD by the authors' own Lean function (tested against real Go, not proved from fmt's source: count such statements apart). THE CARD IS WHAT COUNTS. Prove the row's statement (the work); the ties are given (YthbhjladfniboaaGreatDoorTie.lean); close each card by the builder's one call (the guide's Derived/Test/ToyasCard.lean, 'card_holds'). Laid BY PROGRAM, IN A SANDBOX (cutbox-door.mjs). By AI agents, Wed Nov 11 2026. No macro, syntax, notation, axiom, sorry.
-/
import Derived.Test.YthbhjladfniboaaGreatDoorRows
import GoSem.ClaimSeven
namespace Go.Proofs.YthbhjladfniboaaGreatDoor
namespace Rows

/-- THE TIED CARD OF 'interchangelaw8.PartnerDaysMatchSpec'. -/
def partnerDaysMatchSpecCard : Claim7 := { stood := { row := partnerDaysMatchSpecRow, standIns := [], harness := (true, "72ad2850855cc8e517471737eb7bb9152b2d9072bb21fc7c81bf1ddc42a89744"), looks := true }, kinds := [], alts := [], laidByText := true, laidKinds := [.data, .pinned], laidTests := true, laidLooks := .later }
def PartnerDaysMatchSpecCardSaid : Prop := Claim7.holds Tryz.pinned (.plain (OpenSpec.ofChange partnerDaysMatchSpecSpec)) partnerDaysMatchSpecCard

/-- THE TIED CARD OF 'interchangelaw8.PartnerSealsMatchSpec'. -/
def partnerSealsMatchSpecCard : Claim7 := { stood := { row := partnerSealsMatchSpecRow, standIns := [], harness := (true, "72ad2850855cc8e517471737eb7bb9152b2d9072bb21fc7c81bf1ddc42a89744"), looks := true }, kinds := [], alts := [], laidByText := true, laidKinds := [.data, .data, .data, .data, .sentinel, .sentinel, .pinned], laidTests := true, laidLooks := .later }
def PartnerSealsMatchSpecCardSaid : Prop := Claim7.holds Tryz.pinned (.plain (OpenSpec.ofChange partnerSealsMatchSpecSpec)) partnerSealsMatchSpecCard

/-- THE SECOND FORM's CARD OF 'interchangelaw8.PartnerDaysMatchSpec'. -/
def partnerDaysMatchSpecUptoCard : Claim7 := { stood := { row := partnerDaysMatchSpecUptoRow, standIns := [], harness := (true, "72ad2850855cc8e517471737eb7bb9152b2d9072bb21fc7c81bf1ddc42a89744"), looks := true }, kinds := [], alts := [], laidByText := true, laidKinds := [.data, .pinned], laidTests := true, laidLooks := .later }
def PartnerDaysMatchSpecUptoCardSaid : Prop := Claim7.holds Tryz.pinned (.plain (OpenSpec.upto partnerDaysMatchSpecSpec)) partnerDaysMatchSpecUptoCard

/-- THE SECOND FORM's CARD OF 'interchangelaw8.PartnerSealsMatchSpec'. -/
def partnerSealsMatchSpecUptoCard : Claim7 := { stood := { row := partnerSealsMatchSpecUptoRow, standIns := [], harness := (true, "72ad2850855cc8e517471737eb7bb9152b2d9072bb21fc7c81bf1ddc42a89744"), looks := true }, kinds := [], alts := [], laidByText := true, laidKinds := [.data, .data, .data, .data, .sentinel, .sentinel, .pinned], laidTests := true, laidLooks := .later }
def PartnerSealsMatchSpecUptoCardSaid : Prop := Claim7.holds Tryz.pinned (.plain (OpenSpec.upto partnerSealsMatchSpecSpec)) partnerSealsMatchSpecUptoCard
end Rows
end Go.Proofs.YthbhjladfniboaaGreatDoor
