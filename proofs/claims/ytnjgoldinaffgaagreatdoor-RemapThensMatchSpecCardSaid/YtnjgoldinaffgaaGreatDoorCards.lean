/-
  DERIVED. GIVEN WITH THE SEED: THE CARDS: each row of YtnjgoldinaffgaaGreatDoorRows.lean that lists a variable, with what it lists TIED to the program's text (the seventh form; the later family's looks); each row that meets fmt, with fmt's text TOLD by the authors' own Lean function (tested against real Go, not proved from fmt's source: count such statements apart). THE CARD IS WHAT COUNTS. Prove the row's statement (the work); the ties are given (YtnjgoldinaffgaaGreatDoorTie.lean); close each card by the builder's one call (the guide's Derived/Test/ToyasCard.lean, 'card_holds'). Laid BY PROGRAM, IN A SANDBOX (cutbox-door.mjs). By AI agents, Wed Nov 11 2026. No macro, syntax, notation, axiom, sorry.
-/
import Derived.Test.YtnjgoldinaffgaaGreatDoorRows
import GoSem.ClaimSeven
namespace Go.Proofs.YtnjgoldinaffgaaGreatDoor
namespace Rows

/-- THE TIED CARD OF 'interchangelaw5.RemapThensMatchSpec'. -/
def remapThensMatchSpecCard : Claim7 := { stood := { row := remapThensMatchSpecRow, standIns := [], harness := (true, "d1b074d15ac734fc92cd87717395c92847771df878800feff566d7e80526121f"), looks := true }, kinds := [], alts := [], laidByText := true, laidKinds := [.data, .data, .data, .data, .sentinel, .sentinel, .pinned], laidTests := true, laidLooks := .later }
def RemapThensMatchSpecCardSaid : Prop := Claim7.holds Tryz.pinned (.plain (OpenSpec.ofChange remapThensMatchSpecSpec)) remapThensMatchSpecCard

/-- THE TIED CARD OF 'interchangelaw5.RemapTurnsMatchSpec'. -/
def remapTurnsMatchSpecCard : Claim7 := { stood := { row := remapTurnsMatchSpecRow, standIns := [], harness := (true, "d1b074d15ac734fc92cd87717395c92847771df878800feff566d7e80526121f"), looks := true }, kinds := [], alts := [], laidByText := true, laidKinds := [.data, .data, .data, .data, .sentinel, .sentinel, .pinned], laidTests := true, laidLooks := .later }
def RemapTurnsMatchSpecCardSaid : Prop := Claim7.holds Tryz.pinned (.plain (OpenSpec.ofChange remapTurnsMatchSpecSpec)) remapTurnsMatchSpecCard

/-- THE SECOND FORM's CARD OF 'interchangelaw5.RemapThensMatchSpec'. -/
def remapThensMatchSpecUptoCard : Claim7 := { stood := { row := remapThensMatchSpecUptoRow, standIns := [], harness := (true, "d1b074d15ac734fc92cd87717395c92847771df878800feff566d7e80526121f"), looks := true }, kinds := [], alts := [], laidByText := true, laidKinds := [.data, .data, .data, .data, .sentinel, .sentinel, .pinned], laidTests := true, laidLooks := .later }
def RemapThensMatchSpecUptoCardSaid : Prop := Claim7.holds Tryz.pinned (.plain (OpenSpec.upto remapThensMatchSpecSpec)) remapThensMatchSpecUptoCard

/-- THE SECOND FORM's CARD OF 'interchangelaw5.RemapTurnsMatchSpec'. -/
def remapTurnsMatchSpecUptoCard : Claim7 := { stood := { row := remapTurnsMatchSpecUptoRow, standIns := [], harness := (true, "d1b074d15ac734fc92cd87717395c92847771df878800feff566d7e80526121f"), looks := true }, kinds := [], alts := [], laidByText := true, laidKinds := [.data, .data, .data, .data, .sentinel, .sentinel, .pinned], laidTests := true, laidLooks := .later }
def RemapTurnsMatchSpecUptoCardSaid : Prop := Claim7.holds Tryz.pinned (.plain (OpenSpec.upto remapTurnsMatchSpecSpec)) remapTurnsMatchSpecUptoCard
end Rows
end Go.Proofs.YtnjgoldinaffgaaGreatDoor
