/-
  DERIVED. GIVEN WITH THE SEED: THE CARDS: each row of YtdhlopciapncfaaGreatDoorRows.lean that lists a variable, with what it lists TIED to the program's text (the seventh form; the later family's looks); each row that meets fmt, with fmt's text TOLD by the authors' own Lean function (tested against real Go, not proved from fmt's source: count such statements apart). THE CARD IS WHAT COUNTS. Prove the row's statement (the work); the ties are given (YtdhlopciapncfaaGreatDoorTie.lean); close each card by the builder's one call (the guide's Derived/Test/ToyasCard.lean, 'card_holds'). Laid BY PROGRAM, IN A SANDBOX (cutbox-door.mjs). By AI agents, Wed Nov 11 2026. No macro, syntax, notation, axiom, sorry.
-/
import Derived.Test.YtdhlopciapncfaaGreatDoorRows
import GoSem.ClaimSeven
namespace Go.Proofs.YtdhlopciapncfaaGreatDoor
namespace Rows

/-- THE TIED CARD OF 'interchangelaw4.RuleUndersHold'. -/
def ruleUndersHoldCard : Claim7 := { stood := { row := ruleUndersHoldRow, standIns := [], harness := (true, "2a4adfc44e21b99315442f207e61c42ae52560ab31ff660ce0585f1e8942562d"), looks := true }, kinds := [], alts := [], laidByText := true, laidKinds := [.data, .data, .data, .data, .sentinel, .sentinel, .pinned], laidTests := true, laidLooks := .later }
def RuleUndersHoldCardSaid : Prop := Claim7.holds Tryz.pinned (.plain (OpenSpec.ofChange ruleUndersHoldSpec)) ruleUndersHoldCard

/-- THE SECOND FORM's CARD OF 'interchangelaw4.RuleUndersHold'. -/
def ruleUndersHoldUptoCard : Claim7 := { stood := { row := ruleUndersHoldUptoRow, standIns := [], harness := (true, "2a4adfc44e21b99315442f207e61c42ae52560ab31ff660ce0585f1e8942562d"), looks := true }, kinds := [], alts := [], laidByText := true, laidKinds := [.data, .data, .data, .data, .sentinel, .sentinel, .pinned], laidTests := true, laidLooks := .later }
def RuleUndersHoldUptoCardSaid : Prop := Claim7.holds Tryz.pinned (.plain (OpenSpec.upto ruleUndersHoldSpec)) ruleUndersHoldUptoCard
end Rows
end Go.Proofs.YtdhlopciapncfaaGreatDoor
