/-
  DERIVED. GIVEN WITH THE SEED: THE CARDS: each row of YtbphihljkbdfpaaGreatDoorRows.lean that lists a variable, with what it lists TIED to the program's text (the seventh form; the later family's looks); each row that meets fmt, with fmt's text TOLD by the authors' own Lean function (tested against real Go, not proved from fmt's source: count such statements apart). THE CARD IS WHAT COUNTS. Prove the row's statement (the work); the ties are given (YtbphihljkbdfpaaGreatDoorTie.lean); close each card by the builder's one call (the guide's Derived/Test/ToyasCard.lean, 'card_holds'). Laid BY PROGRAM, IN A SANDBOX (cutbox-door.mjs). By AI agents, Wed Nov 11 2026. No macro, syntax, notation, axiom, sorry.
-/
import Derived.Test.YtbphihljkbdfpaaGreatDoorRows
import GoSem.ClaimSeven
namespace Go.Proofs.YtbphihljkbdfpaaGreatDoor
namespace Rows

/-- THE TIED CARD OF 'interchangelaw4.RuleNotesMatchSpec'. -/
def ruleNotesMatchSpecCard : Claim7 := { stood := { row := ruleNotesMatchSpecRow, standIns := [], harness := (true, "4e4f6c972dc66f52f78407147ea88492f604cffb4480f598a0d5f747235e5312"), looks := true }, kinds := [], alts := [], laidByText := true, laidKinds := [.data, .data, .data, .data, .sentinel, .sentinel, .pinned], laidTests := true, laidLooks := .later }
def RuleNotesMatchSpecCardSaid : Prop := Claim7.holds Tryz.pinned (.plain (OpenSpec.ofChange ruleNotesMatchSpecSpec)) ruleNotesMatchSpecCard

/-- THE TIED CARD OF 'interchangelaw4.RuleShortsMatchSpec'. -/
def ruleShortsMatchSpecCard : Claim7 := { stood := { row := ruleShortsMatchSpecRow, standIns := [], harness := (true, "4e4f6c972dc66f52f78407147ea88492f604cffb4480f598a0d5f747235e5312"), looks := true }, kinds := [], alts := [], laidByText := true, laidKinds := [.data, .data, .data, .data, .sentinel, .sentinel, .pinned], laidTests := true, laidLooks := .later }
def RuleShortsMatchSpecCardSaid : Prop := Claim7.holds Tryz.pinned (.plain (OpenSpec.ofChange ruleShortsMatchSpecSpec)) ruleShortsMatchSpecCard

/-- THE TIED CARD OF 'interchangelaw4.RuleNeedlessMatchesSpec'. -/
def ruleNeedlessMatchesSpecCard : Claim7 := { stood := { row := ruleNeedlessMatchesSpecRow, standIns := [], harness := (true, "4e4f6c972dc66f52f78407147ea88492f604cffb4480f598a0d5f747235e5312"), looks := true }, kinds := [], alts := [], laidByText := true, laidKinds := [.data, .data, .data, .data, .sentinel, .sentinel, .pinned], laidTests := true, laidLooks := .later }
def RuleNeedlessMatchesSpecCardSaid : Prop := Claim7.holds Tryz.pinned (.plain (OpenSpec.ofChange ruleNeedlessMatchesSpecSpec)) ruleNeedlessMatchesSpecCard

/-- THE TIED CARD OF 'interchangelaw4.RuleFollowsMatchSpec'. -/
def ruleFollowsMatchSpecCard : Claim7 := { stood := { row := ruleFollowsMatchSpecRow, standIns := [], harness := (true, "4e4f6c972dc66f52f78407147ea88492f604cffb4480f598a0d5f747235e5312"), looks := true }, kinds := [], alts := [], laidByText := true, laidKinds := [.data, .data, .data, .data, .sentinel, .sentinel, .pinned], laidTests := true, laidLooks := .later }
def RuleFollowsMatchSpecCardSaid : Prop := Claim7.holds Tryz.pinned (.plain (OpenSpec.ofChange ruleFollowsMatchSpecSpec)) ruleFollowsMatchSpecCard

/-- THE SECOND FORM's CARD OF 'interchangelaw4.RuleNotesMatchSpec'. -/
def ruleNotesMatchSpecUptoCard : Claim7 := { stood := { row := ruleNotesMatchSpecUptoRow, standIns := [], harness := (true, "4e4f6c972dc66f52f78407147ea88492f604cffb4480f598a0d5f747235e5312"), looks := true }, kinds := [], alts := [], laidByText := true, laidKinds := [.data, .data, .data, .data, .sentinel, .sentinel, .pinned], laidTests := true, laidLooks := .later }
def RuleNotesMatchSpecUptoCardSaid : Prop := Claim7.holds Tryz.pinned (.plain (OpenSpec.upto ruleNotesMatchSpecSpec)) ruleNotesMatchSpecUptoCard

/-- THE SECOND FORM's CARD OF 'interchangelaw4.RuleShortsMatchSpec'. -/
def ruleShortsMatchSpecUptoCard : Claim7 := { stood := { row := ruleShortsMatchSpecUptoRow, standIns := [], harness := (true, "4e4f6c972dc66f52f78407147ea88492f604cffb4480f598a0d5f747235e5312"), looks := true }, kinds := [], alts := [], laidByText := true, laidKinds := [.data, .data, .data, .data, .sentinel, .sentinel, .pinned], laidTests := true, laidLooks := .later }
def RuleShortsMatchSpecUptoCardSaid : Prop := Claim7.holds Tryz.pinned (.plain (OpenSpec.upto ruleShortsMatchSpecSpec)) ruleShortsMatchSpecUptoCard

/-- THE SECOND FORM's CARD OF 'interchangelaw4.RuleNeedlessMatchesSpec'. -/
def ruleNeedlessMatchesSpecUptoCard : Claim7 := { stood := { row := ruleNeedlessMatchesSpecUptoRow, standIns := [], harness := (true, "4e4f6c972dc66f52f78407147ea88492f604cffb4480f598a0d5f747235e5312"), looks := true }, kinds := [], alts := [], laidByText := true, laidKinds := [.data, .data, .data, .data, .sentinel, .sentinel, .pinned], laidTests := true, laidLooks := .later }
def RuleNeedlessMatchesSpecUptoCardSaid : Prop := Claim7.holds Tryz.pinned (.plain (OpenSpec.upto ruleNeedlessMatchesSpecSpec)) ruleNeedlessMatchesSpecUptoCard

/-- THE SECOND FORM's CARD OF 'interchangelaw4.RuleFollowsMatchSpec'. -/
def ruleFollowsMatchSpecUptoCard : Claim7 := { stood := { row := ruleFollowsMatchSpecUptoRow, standIns := [], harness := (true, "4e4f6c972dc66f52f78407147ea88492f604cffb4480f598a0d5f747235e5312"), looks := true }, kinds := [], alts := [], laidByText := true, laidKinds := [.data, .data, .data, .data, .sentinel, .sentinel, .pinned], laidTests := true, laidLooks := .later }
def RuleFollowsMatchSpecUptoCardSaid : Prop := Claim7.holds Tryz.pinned (.plain (OpenSpec.upto ruleFollowsMatchSpecSpec)) ruleFollowsMatchSpecUptoCard
end Rows
end Go.Proofs.YtbphihljkbdfpaaGreatDoor
