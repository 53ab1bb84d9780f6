/-
  DERIVED. GIVEN WITH THE SEED: THE CARDS: each row of YtindehjiaknokaaGreatDoorRows.lean that lists a variable, with what it lists TIED to the program's text (the seventh form; the later family's looks); each row that meets fmt, with fmt's text TOLD by the authors' own Lean function (tested against real Go, not proved from fmt's source: count such statements apart). THE CARD IS WHAT COUNTS. Prove the row's statement (the work); the ties are given (YtindehjiaknokaaGreatDoorTie.lean); close each card by the builder's one call (the guide's Derived/Test/ToyasCard.lean, 'card_holds'). Laid BY PROGRAM, IN A SANDBOX (cutbox-door.mjs). By AI agents, Wed Nov 11 2026. No macro, syntax, notation, axiom, sorry.
-/
import Derived.Test.YtindehjiaknokaaGreatDoorRows
import GoSem.ClaimSeven
namespace Go.Proofs.YtindehjiaknokaaGreatDoor
namespace Rows

/-- THE TIED CARD OF 'interchangelaw4.RuleChecksMatchSpec'. -/
def ruleChecksMatchSpecCard : Claim7 := { stood := { row := ruleChecksMatchSpecRow, standIns := [], harness := (true, "65efd9176f0116e159e82b2a143222f48f52ebd5705a725dc0ed7c157ed61e44"), looks := true }, kinds := [], alts := [], laidByText := true, laidKinds := [.data, .data, .data, .data, .sentinel, .sentinel, .pinned], laidTests := true, laidLooks := .later }
def RuleChecksMatchSpecCardSaid : Prop := Claim7.holds Tryz.pinned (.plain (OpenSpec.ofChange ruleChecksMatchSpecSpec)) ruleChecksMatchSpecCard

/-- THE TIED CARD OF 'interchangelaw4.RuleTextsComeBack'. -/
def ruleTextsComeBackCard : Claim7 := { stood := { row := ruleTextsComeBackRow, standIns := [], harness := (true, "65efd9176f0116e159e82b2a143222f48f52ebd5705a725dc0ed7c157ed61e44"), looks := true }, kinds := [], alts := [], laidByText := true, laidKinds := [.data, .data, .data, .data, .sentinel, .sentinel, .pinned], laidTests := true, laidLooks := .later }
def RuleTextsComeBackCardSaid : Prop := Claim7.holds Tryz.pinned (.plain (OpenSpec.ofChange ruleTextsComeBackSpec)) ruleTextsComeBackCard

/-- THE TIED CARD OF 'interchangelaw4.RuleReadsMatchSpec'. -/
def ruleReadsMatchSpecCard : Claim7 := { stood := { row := ruleReadsMatchSpecRow, standIns := [], harness := (true, "65efd9176f0116e159e82b2a143222f48f52ebd5705a725dc0ed7c157ed61e44"), looks := true }, kinds := [], alts := [], laidByText := true, laidKinds := [.data, .data, .data, .data, .sentinel, .sentinel, .pinned], laidTests := true, laidLooks := .later }
def RuleReadsMatchSpecCardSaid : Prop := Claim7.holds Tryz.pinned (.plain (OpenSpec.ofChange ruleReadsMatchSpecSpec)) ruleReadsMatchSpecCard

/-- THE SECOND FORM's CARD OF 'interchangelaw4.RuleChecksMatchSpec'. -/
def ruleChecksMatchSpecUptoCard : Claim7 := { stood := { row := ruleChecksMatchSpecUptoRow, standIns := [], harness := (true, "65efd9176f0116e159e82b2a143222f48f52ebd5705a725dc0ed7c157ed61e44"), looks := true }, kinds := [], alts := [], laidByText := true, laidKinds := [.data, .data, .data, .data, .sentinel, .sentinel, .pinned], laidTests := true, laidLooks := .later }
def RuleChecksMatchSpecUptoCardSaid : Prop := Claim7.holds Tryz.pinned (.plain (OpenSpec.upto ruleChecksMatchSpecSpec)) ruleChecksMatchSpecUptoCard

/-- THE SECOND FORM's CARD OF 'interchangelaw4.RuleTextsComeBack'. -/
def ruleTextsComeBackUptoCard : Claim7 := { stood := { row := ruleTextsComeBackUptoRow, standIns := [], harness := (true, "65efd9176f0116e159e82b2a143222f48f52ebd5705a725dc0ed7c157ed61e44"), looks := true }, kinds := [], alts := [], laidByText := true, laidKinds := [.data, .data, .data, .data, .sentinel, .sentinel, .pinned], laidTests := true, laidLooks := .later }
def RuleTextsComeBackUptoCardSaid : Prop := Claim7.holds Tryz.pinned (.plain (OpenSpec.upto ruleTextsComeBackSpec)) ruleTextsComeBackUptoCard

/-- THE SECOND FORM's CARD OF 'interchangelaw4.RuleReadsMatchSpec'. -/
def ruleReadsMatchSpecUptoCard : Claim7 := { stood := { row := ruleReadsMatchSpecUptoRow, standIns := [], harness := (true, "65efd9176f0116e159e82b2a143222f48f52ebd5705a725dc0ed7c157ed61e44"), looks := true }, kinds := [], alts := [], laidByText := true, laidKinds := [.data, .data, .data, .data, .sentinel, .sentinel, .pinned], laidTests := true, laidLooks := .later }
def RuleReadsMatchSpecUptoCardSaid : Prop := Claim7.holds Tryz.pinned (.plain (OpenSpec.upto ruleReadsMatchSpecSpec)) ruleReadsMatchSpecUptoCard
end Rows
end Go.Proofs.YtindehjiaknokaaGreatDoor
