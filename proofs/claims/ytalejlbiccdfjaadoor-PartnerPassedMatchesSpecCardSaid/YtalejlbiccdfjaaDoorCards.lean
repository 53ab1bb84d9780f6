/-
  DERIVED. GIVEN WITH THE SEED: THE CARDS: each row of YtalejlbiccdfjaaDoorRows.lean that lists a variable, with what it lists TIED to the program's text (the seventh form; the later family's looks); each row that meets fmt, with fmt's text TOLD by the authors' own Lean function (tested against real Go, not proved from fmt's source: count such statements apart). THE CARD IS WHAT COUNTS. Prove the row's statement (the work); the ties are given (YtalejlbiccdfjaaDoorTie.lean); close each card by the builder's one call (the guide's Derived/Test/ToyasCard.lean, 'card_holds'). Laid BY PROGRAM, IN A SANDBOX (cutbox-door.mjs). By AI agents, Wed Nov 11 2026. No macro, syntax, notation, axiom, sorry.
-/
import Derived.Test.YtalejlbiccdfjaaDoorRows
import GoSem.ClaimSeven
namespace Go.Proofs.YtalejlbiccdfjaaDoor
namespace Rows

/-- THE TIED CARD OF 'interchangelaw8.PartnerTakesEachOnce'. -/
def partnerTakesEachOnceCard : Claim7 := { stood := { row := partnerTakesEachOnceRow, standIns := [], harness := (true, "5a645bfb8d1c35509f69108ec1876f3e317ebfd77428ab793a8d914379fa14e1"), looks := false }, kinds := [], alts := [], laidByText := true, laidKinds := [.data, .pinned], laidTests := true, laidLooks := .later }
def PartnerTakesEachOnceCardSaid : Prop := Claim7.holds Tryd.pinned (.plain (OpenSpec.ofChange partnerTakesEachOnceSpec)) partnerTakesEachOnceCard

/-- THE TIED CARD OF 'interchangelaw8.PartnerIntakeMatchesSpec'. -/
def partnerIntakeMatchesSpecCard : Claim7 := { stood := { row := partnerIntakeMatchesSpecRow, standIns := [], harness := (true, "5a645bfb8d1c35509f69108ec1876f3e317ebfd77428ab793a8d914379fa14e1"), looks := false }, kinds := [], alts := [], laidByText := true, laidKinds := [.data, .pinned], laidTests := true, laidLooks := .later }
def PartnerIntakeMatchesSpecCardSaid : Prop := Claim7.holds Tryd.pinned (.plain (OpenSpec.ofChange partnerIntakeMatchesSpecSpec)) partnerIntakeMatchesSpecCard

/-- THE TIED CARD OF 'interchangelaw8.PartnerPassedMatchesSpec'. -/
def partnerPassedMatchesSpecCard : Claim7 := { stood := { row := partnerPassedMatchesSpecRow, standIns := [], harness := (true, "5a645bfb8d1c35509f69108ec1876f3e317ebfd77428ab793a8d914379fa14e1"), looks := false }, kinds := [], alts := [], laidByText := true, laidKinds := [.data, .pinned], laidTests := true, laidLooks := .later }
def PartnerPassedMatchesSpecCardSaid : Prop := Claim7.holds Tryd.pinned (.plain (OpenSpec.ofChange partnerPassedMatchesSpecSpec)) partnerPassedMatchesSpecCard

/-- THE SECOND FORM's CARD OF 'interchangelaw8.PartnerTakesEachOnce'. -/
def partnerTakesEachOnceUptoCard : Claim7 := { stood := { row := partnerTakesEachOnceUptoRow, standIns := [], harness := (true, "5a645bfb8d1c35509f69108ec1876f3e317ebfd77428ab793a8d914379fa14e1"), looks := false }, kinds := [], alts := [], laidByText := true, laidKinds := [.data, .pinned], laidTests := true, laidLooks := .later }
def PartnerTakesEachOnceUptoCardSaid : Prop := Claim7.holds Tryd.pinned (.plain (OpenSpec.upto partnerTakesEachOnceSpec)) partnerTakesEachOnceUptoCard

/-- THE SECOND FORM's CARD OF 'interchangelaw8.PartnerIntakeMatchesSpec'. -/
def partnerIntakeMatchesSpecUptoCard : Claim7 := { stood := { row := partnerIntakeMatchesSpecUptoRow, standIns := [], harness := (true, "5a645bfb8d1c35509f69108ec1876f3e317ebfd77428ab793a8d914379fa14e1"), looks := false }, kinds := [], alts := [], laidByText := true, laidKinds := [.data, .pinned], laidTests := true, laidLooks := .later }
def PartnerIntakeMatchesSpecUptoCardSaid : Prop := Claim7.holds Tryd.pinned (.plain (OpenSpec.upto partnerIntakeMatchesSpecSpec)) partnerIntakeMatchesSpecUptoCard

/-- THE SECOND FORM's CARD OF 'interchangelaw8.PartnerPassedMatchesSpec'. -/
def partnerPassedMatchesSpecUptoCard : Claim7 := { stood := { row := partnerPassedMatchesSpecUptoRow, standIns := [], harness := (true, "5a645bfb8d1c35509f69108ec1876f3e317ebfd77428ab793a8d914379fa14e1"), looks := false }, kinds := [], alts := [], laidByText := true, laidKinds := [.data, .pinned], laidTests := true, laidLooks := .later }
def PartnerPassedMatchesSpecUptoCardSaid : Prop := Claim7.holds Tryd.pinned (.plain (OpenSpec.upto partnerPassedMatchesSpecSpec)) partnerPassedMatchesSpecUptoCard
end Rows
end Go.Proofs.YtalejlbiccdfjaaDoor
