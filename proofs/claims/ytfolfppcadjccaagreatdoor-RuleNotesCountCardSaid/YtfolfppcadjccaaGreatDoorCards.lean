/-
  DERIVED. GIVEN WITH THE SEED: THE CARDS: each row of YtfolfppcadjccaaGreatDoorRows.lean that lists a variable, with what it lists TIED to the program's text (the seventh form; the later family's looks); each row that meets fmt, with fmt's text TOLD by the authors' own Lean function (tested against real Go, not proved from fmt's source: count such statements apart). THE CARD IS WHAT COUNTS. Prove the row's statement (the work); the ties are given (YtfolfppcadjccaaGreatDoorTie.lean); close each card by the builder's one call (the guide's Derived/Test/ToyasCard.lean, 'card_holds'). Laid BY PROGRAM, IN A SANDBOX (cutbox-door.mjs). By AI agents, Wed Nov 11 2026. No macro, syntax, notation, axiom, sorry.
-/
import Derived.Test.YtfolfppcadjccaaGreatDoorRows
import GoSem.ClaimSeven
namespace Go.Proofs.YtfolfppcadjccaaGreatDoor
namespace Rows

/-- THE TIED CARD OF 'interchangelaw4.RuleHoldsMatchesSpec'. -/
def ruleHoldsMatchesSpecCard : Claim7 := { stood := { row := ruleHoldsMatchesSpecRow, standIns := [], harness := (true, "0c29f9902bef3fc226c2e43f35682183de9216ddeeee5602c939abca9478f36d"), looks := true }, kinds := [], alts := [], laidByText := true, laidKinds := [.data, .data, .data, .data, .sentinel, .sentinel, .pinned], laidTests := true, laidLooks := .later }
def RuleHoldsMatchesSpecCardSaid : Prop := Claim7.holds Tryz.pinned (.plain (OpenSpec.ofChange ruleHoldsMatchesSpecSpec)) ruleHoldsMatchesSpecCard

/-- THE TIED CARD OF 'interchangelaw4.RuleFailsMatchSpec'. -/
def ruleFailsMatchSpecCard : Claim7 := { stood := { row := ruleFailsMatchSpecRow, standIns := [], harness := (true, "0c29f9902bef3fc226c2e43f35682183de9216ddeeee5602c939abca9478f36d"), looks := true }, kinds := [], alts := [], laidByText := true, laidKinds := [.data, .data, .data, .data, .sentinel, .sentinel, .pinned], laidTests := true, laidLooks := .later }
def RuleFailsMatchSpecCardSaid : Prop := Claim7.holds Tryz.pinned (.plain (OpenSpec.ofChange ruleFailsMatchSpecSpec)) ruleFailsMatchSpecCard

/-- THE TIED CARD OF 'interchangelaw4.RuleUndersHold'. -/
def ruleUndersHoldCard : Claim7 := { stood := { row := ruleUndersHoldRow, standIns := [], harness := (true, "0c29f9902bef3fc226c2e43f35682183de9216ddeeee5602c939abca9478f36d"), looks := true }, kinds := [], alts := [], laidByText := true, laidKinds := [.data, .data, .data, .data, .sentinel, .sentinel, .pinned], laidTests := true, laidLooks := .later }
def RuleUndersHoldCardSaid : Prop := Claim7.holds Tryz.pinned (.plain (OpenSpec.ofChange ruleUndersHoldSpec)) ruleUndersHoldCard

/-- THE TIED CARD OF 'interchangelaw4.RuleNotesCount'. -/
def ruleNotesCountCard : Claim7 := { stood := { row := ruleNotesCountRow, standIns := [], harness := (true, "0c29f9902bef3fc226c2e43f35682183de9216ddeeee5602c939abca9478f36d"), looks := true }, kinds := [], alts := [], laidByText := true, laidKinds := [.data, .data, .data, .data, .sentinel, .sentinel, .pinned], laidTests := true, laidLooks := .later }
def RuleNotesCountCardSaid : Prop := Claim7.holds Tryz.pinned (.plain (OpenSpec.ofChange ruleNotesCountSpec)) ruleNotesCountCard

/-- THE TIED CARD OF 'interchangelaw4.RuleShortsHold'. -/
def ruleShortsHoldCard : Claim7 := { stood := { row := ruleShortsHoldRow, standIns := [], harness := (true, "0c29f9902bef3fc226c2e43f35682183de9216ddeeee5602c939abca9478f36d"), looks := true }, kinds := [], alts := [], laidByText := true, laidKinds := [.data, .data, .data, .data, .sentinel, .sentinel, .pinned], laidTests := true, laidLooks := .later }
def RuleShortsHoldCardSaid : Prop := Claim7.holds Tryz.pinned (.plain (OpenSpec.ofChange ruleShortsHoldSpec)) ruleShortsHoldCard

/-- THE TIED CARD OF 'interchangelaw4.RuleFollowsHold'. -/
def ruleFollowsHoldCard : Claim7 := { stood := { row := ruleFollowsHoldRow, standIns := [], harness := (true, "0c29f9902bef3fc226c2e43f35682183de9216ddeeee5602c939abca9478f36d"), looks := true }, kinds := [], alts := [], laidByText := true, laidKinds := [.data, .data, .data, .data, .sentinel, .sentinel, .pinned], laidTests := true, laidLooks := .later }
def RuleFollowsHoldCardSaid : Prop := Claim7.holds Tryz.pinned (.plain (OpenSpec.ofChange ruleFollowsHoldSpec)) ruleFollowsHoldCard

/-- THE TIED CARD OF 'interchangelaw4.RuleNeedlessHold'. -/
def ruleNeedlessHoldCard : Claim7 := { stood := { row := ruleNeedlessHoldRow, standIns := [], harness := (true, "0c29f9902bef3fc226c2e43f35682183de9216ddeeee5602c939abca9478f36d"), looks := true }, kinds := [], alts := [], laidByText := true, laidKinds := [.data, .data, .data, .data, .sentinel, .sentinel, .pinned], laidTests := true, laidLooks := .later }
def RuleNeedlessHoldCardSaid : Prop := Claim7.holds Tryz.pinned (.plain (OpenSpec.ofChange ruleNeedlessHoldSpec)) ruleNeedlessHoldCard

/-- THE SECOND FORM's CARD OF 'interchangelaw4.RuleHoldsMatchesSpec'. -/
def ruleHoldsMatchesSpecUptoCard : Claim7 := { stood := { row := ruleHoldsMatchesSpecUptoRow, standIns := [], harness := (true, "0c29f9902bef3fc226c2e43f35682183de9216ddeeee5602c939abca9478f36d"), looks := true }, kinds := [], alts := [], laidByText := true, laidKinds := [.data, .data, .data, .data, .sentinel, .sentinel, .pinned], laidTests := true, laidLooks := .later }
def RuleHoldsMatchesSpecUptoCardSaid : Prop := Claim7.holds Tryz.pinned (.plain (OpenSpec.upto ruleHoldsMatchesSpecSpec)) ruleHoldsMatchesSpecUptoCard

/-- THE SECOND FORM's CARD OF 'interchangelaw4.RuleFailsMatchSpec'. -/
def ruleFailsMatchSpecUptoCard : Claim7 := { stood := { row := ruleFailsMatchSpecUptoRow, standIns := [], harness := (true, "0c29f9902bef3fc226c2e43f35682183de9216ddeeee5602c939abca9478f36d"), looks := true }, kinds := [], alts := [], laidByText := true, laidKinds := [.data, .data, .data, .data, .sentinel, .sentinel, .pinned], laidTests := true, laidLooks := .later }
def RuleFailsMatchSpecUptoCardSaid : Prop := Claim7.holds Tryz.pinned (.plain (OpenSpec.upto ruleFailsMatchSpecSpec)) ruleFailsMatchSpecUptoCard

/-- THE SECOND FORM's CARD OF 'interchangelaw4.RuleUndersHold'. -/
def ruleUndersHoldUptoCard : Claim7 := { stood := { row := ruleUndersHoldUptoRow, standIns := [], harness := (true, "0c29f9902bef3fc226c2e43f35682183de9216ddeeee5602c939abca9478f36d"), looks := true }, kinds := [], alts := [], laidByText := true, laidKinds := [.data, .data, .data, .data, .sentinel, .sentinel, .pinned], laidTests := true, laidLooks := .later }
def RuleUndersHoldUptoCardSaid : Prop := Claim7.holds Tryz.pinned (.plain (OpenSpec.upto ruleUndersHoldSpec)) ruleUndersHoldUptoCard

/-- THE SECOND FORM's CARD OF 'interchangelaw4.RuleNotesCount'. -/
def ruleNotesCountUptoCard : Claim7 := { stood := { row := ruleNotesCountUptoRow, standIns := [], harness := (true, "0c29f9902bef3fc226c2e43f35682183de9216ddeeee5602c939abca9478f36d"), looks := true }, kinds := [], alts := [], laidByText := true, laidKinds := [.data, .data, .data, .data, .sentinel, .sentinel, .pinned], laidTests := true, laidLooks := .later }
def RuleNotesCountUptoCardSaid : Prop := Claim7.holds Tryz.pinned (.plain (OpenSpec.upto ruleNotesCountSpec)) ruleNotesCountUptoCard

/-- THE SECOND FORM's CARD OF 'interchangelaw4.RuleShortsHold'. -/
def ruleShortsHoldUptoCard : Claim7 := { stood := { row := ruleShortsHoldUptoRow, standIns := [], harness := (true, "0c29f9902bef3fc226c2e43f35682183de9216ddeeee5602c939abca9478f36d"), looks := true }, kinds := [], alts := [], laidByText := true, laidKinds := [.data, .data, .data, .data, .sentinel, .sentinel, .pinned], laidTests := true, laidLooks := .later }
def RuleShortsHoldUptoCardSaid : Prop := Claim7.holds Tryz.pinned (.plain (OpenSpec.upto ruleShortsHoldSpec)) ruleShortsHoldUptoCard

/-- THE SECOND FORM's CARD OF 'interchangelaw4.RuleFollowsHold'. -/
def ruleFollowsHoldUptoCard : Claim7 := { stood := { row := ruleFollowsHoldUptoRow, standIns := [], harness := (true, "0c29f9902bef3fc226c2e43f35682183de9216ddeeee5602c939abca9478f36d"), looks := true }, kinds := [], alts := [], laidByText := true, laidKinds := [.data, .data, .data, .data, .sentinel, .sentinel, .pinned], laidTests := true, laidLooks := .later }
def RuleFollowsHoldUptoCardSaid : Prop := Claim7.holds Tryz.pinned (.plain (OpenSpec.upto ruleFollowsHoldSpec)) ruleFollowsHoldUptoCard

/-- THE SECOND FORM's CARD OF 'interchangelaw4.RuleNeedlessHold'. -/
def ruleNeedlessHoldUptoCard : Claim7 := { stood := { row := ruleNeedlessHoldUptoRow, standIns := [], harness := (true, "0c29f9902bef3fc226c2e43f35682183de9216ddeeee5602c939abca9478f36d"), looks := true }, kinds := [], alts := [], laidByText := true, laidKinds := [.data, .data, .data, .data, .sentinel, .sentinel, .pinned], laidTests := true, laidLooks := .later }
def RuleNeedlessHoldUptoCardSaid : Prop := Claim7.holds Tryz.pinned (.plain (OpenSpec.upto ruleNeedlessHoldSpec)) ruleNeedlessHoldUptoCard
end Rows
end Go.Proofs.YtfolfppcadjccaaGreatDoor
