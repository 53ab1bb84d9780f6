/-
  DERIVED. GIVEN WITH THE SEED: THE CARDS: each row of YtnlbekongmkmjaaGreatDoorRows.lean that lists a variable, with what it lists TIED to the program's text (the seventh form; the later family's looks); each row that meets fmt, with fmt's text TOLD by the authors' own Lean function (tested against real Go, not proved from fmt's source: count such statements apart). THE CARD IS WHAT COUNTS. Prove the row's statement (the work); the ties are given (YtnlbekongmkmjaaGreatDoorTie.lean); close each card by the builder's one call (the guide's Derived/Test/ToyasCard.lean, 'card_holds'). Laid BY PROGRAM, IN A SANDBOX (cutbox-door.mjs). By AI agents, Wed Nov 11 2026. No macro, syntax, notation, axiom, sorry.
-/
import Derived.Test.YtnlbekongmkmjaaGreatDoorRows
import GoSem.ClaimSeven
namespace Go.Proofs.YtnlbekongmkmjaaGreatDoor
namespace Rows

/-- THE TIED CARD OF 'interchangelaw4.RuleNeedlessMatchesSpec'. -/
def ruleNeedlessMatchesSpecCard : Claim7 := { stood := { row := ruleNeedlessMatchesSpecRow, standIns := [], harness := (true, "61397653dab1ae7fc1501c4c4ffad0e5892c059859e728a64bc74ae9ede31b96"), looks := true }, kinds := [], alts := [], laidByText := true, laidKinds := [.data, .data, .data, .data, .sentinel, .sentinel, .pinned], laidTests := true, laidLooks := .later }
def RuleNeedlessMatchesSpecCardSaid : Prop := Claim7.holds Tryz.pinned (.plain (OpenSpec.ofChange ruleNeedlessMatchesSpecSpec)) ruleNeedlessMatchesSpecCard

/-- THE TIED CARD OF 'interchangelaw4.RuleHoldsMatchesSpec'. -/
def ruleHoldsMatchesSpecCard : Claim7 := { stood := { row := ruleHoldsMatchesSpecRow, standIns := [], harness := (true, "61397653dab1ae7fc1501c4c4ffad0e5892c059859e728a64bc74ae9ede31b96"), looks := true }, kinds := [], alts := [], laidByText := true, laidKinds := [.data, .data, .data, .data, .sentinel, .sentinel, .pinned], laidTests := true, laidLooks := .later }
def RuleHoldsMatchesSpecCardSaid : Prop := Claim7.holds Tryz.pinned (.plain (OpenSpec.ofChange ruleHoldsMatchesSpecSpec)) ruleHoldsMatchesSpecCard

/-- THE TIED CARD OF 'interchangelaw4.RuleFailsMatchSpec'. -/
def ruleFailsMatchSpecCard : Claim7 := { stood := { row := ruleFailsMatchSpecRow, standIns := [], harness := (true, "61397653dab1ae7fc1501c4c4ffad0e5892c059859e728a64bc74ae9ede31b96"), looks := true }, kinds := [], alts := [], laidByText := true, laidKinds := [.data, .data, .data, .data, .sentinel, .sentinel, .pinned], laidTests := true, laidLooks := .later }
def RuleFailsMatchSpecCardSaid : Prop := Claim7.holds Tryz.pinned (.plain (OpenSpec.ofChange ruleFailsMatchSpecSpec)) ruleFailsMatchSpecCard

/-- THE TIED CARD OF 'interchangelaw4.RuleNeedlessHold'. -/
def ruleNeedlessHoldCard : Claim7 := { stood := { row := ruleNeedlessHoldRow, standIns := [], harness := (true, "61397653dab1ae7fc1501c4c4ffad0e5892c059859e728a64bc74ae9ede31b96"), looks := true }, kinds := [], alts := [], laidByText := true, laidKinds := [.data, .data, .data, .data, .sentinel, .sentinel, .pinned], laidTests := true, laidLooks := .later }
def RuleNeedlessHoldCardSaid : Prop := Claim7.holds Tryz.pinned (.plain (OpenSpec.ofChange ruleNeedlessHoldSpec)) ruleNeedlessHoldCard

/-- THE SECOND FORM's CARD OF 'interchangelaw4.RuleNeedlessMatchesSpec'. -/
def ruleNeedlessMatchesSpecUptoCard : Claim7 := { stood := { row := ruleNeedlessMatchesSpecUptoRow, standIns := [], harness := (true, "61397653dab1ae7fc1501c4c4ffad0e5892c059859e728a64bc74ae9ede31b96"), looks := true }, kinds := [], alts := [], laidByText := true, laidKinds := [.data, .data, .data, .data, .sentinel, .sentinel, .pinned], laidTests := true, laidLooks := .later }
def RuleNeedlessMatchesSpecUptoCardSaid : Prop := Claim7.holds Tryz.pinned (.plain (OpenSpec.upto ruleNeedlessMatchesSpecSpec)) ruleNeedlessMatchesSpecUptoCard

/-- THE SECOND FORM's CARD OF 'interchangelaw4.RuleHoldsMatchesSpec'. -/
def ruleHoldsMatchesSpecUptoCard : Claim7 := { stood := { row := ruleHoldsMatchesSpecUptoRow, standIns := [], harness := (true, "61397653dab1ae7fc1501c4c4ffad0e5892c059859e728a64bc74ae9ede31b96"), looks := true }, kinds := [], alts := [], laidByText := true, laidKinds := [.data, .data, .data, .data, .sentinel, .sentinel, .pinned], laidTests := true, laidLooks := .later }
def RuleHoldsMatchesSpecUptoCardSaid : Prop := Claim7.holds Tryz.pinned (.plain (OpenSpec.upto ruleHoldsMatchesSpecSpec)) ruleHoldsMatchesSpecUptoCard

/-- THE SECOND FORM's CARD OF 'interchangelaw4.RuleFailsMatchSpec'. -/
def ruleFailsMatchSpecUptoCard : Claim7 := { stood := { row := ruleFailsMatchSpecUptoRow, standIns := [], harness := (true, "61397653dab1ae7fc1501c4c4ffad0e5892c059859e728a64bc74ae9ede31b96"), looks := true }, kinds := [], alts := [], laidByText := true, laidKinds := [.data, .data, .data, .data, .sentinel, .sentinel, .pinned], laidTests := true, laidLooks := .later }
def RuleFailsMatchSpecUptoCardSaid : Prop := Claim7.holds Tryz.pinned (.plain (OpenSpec.upto ruleFailsMatchSpecSpec)) ruleFailsMatchSpecUptoCard

/-- THE SECOND FORM's CARD OF 'interchangelaw4.RuleNeedlessHold'. -/
def ruleNeedlessHoldUptoCard : Claim7 := { stood := { row := ruleNeedlessHoldUptoRow, standIns := [], harness := (true, "61397653dab1ae7fc1501c4c4ffad0e5892c059859e728a64bc74ae9ede31b96"), looks := true }, kinds := [], alts := [], laidByText := true, laidKinds := [.data, .data, .data, .data, .sentinel, .sentinel, .pinned], laidTests := true, laidLooks := .later }
def RuleNeedlessHoldUptoCardSaid : Prop := Claim7.holds Tryz.pinned (.plain (OpenSpec.upto ruleNeedlessHoldSpec)) ruleNeedlessHoldUptoCard
end Rows
end Go.Proofs.YtnlbekongmkmjaaGreatDoor
