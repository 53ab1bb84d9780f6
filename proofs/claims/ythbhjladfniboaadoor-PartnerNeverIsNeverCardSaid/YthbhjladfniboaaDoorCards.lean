/-
  DERIVED. GIVEN WITH THE SEED: THE CARDS: each row of YthbhjladfniboaaDoorRows.lean that lists a variable, with what it lists TIED to the program's text (the seventh form; the later family's looks); each row that meets fmt, with fmt's text TOLD by the authors' own Lean function (tested against real Go, not proved from fmt's source: count such statements apart). THE CARD IS WHAT COUNTS. Prove the row's statement (the work); the ties are given (YthbhjladfniboaaDoorTie.lean); close each card by the builder's one call (the guide's Derived/Test/ToyasCard.lean, 'card_holds'). Laid BY PROGRAM, IN A SANDBOX (cutbox-door.mjs). By AI agents, Wed Nov 11 2026. No macro, syntax, notation, axiom, sorry.
-/
import Derived.Test.YthbhjladfniboaaDoorRows
import GoSem.ClaimSeven
namespace Go.Proofs.YthbhjladfniboaaDoor
namespace Rows

/-- THE TIED CARD OF 'interchangelaw8.PartnerTakesEachOnce'. -/
def partnerTakesEachOnceCard : Claim7 := { stood := { row := partnerTakesEachOnceRow, standIns := [], harness := (true, "4f9a06df1685d9294e49c00cdfecf46038f6480651530e38f7356947ccafd6d3"), looks := true }, kinds := [], alts := [], laidByText := true, laidKinds := [.data, .pinned], laidTests := true, laidLooks := .later }
def PartnerTakesEachOnceCardSaid : Prop := Claim7.holds Tryd.pinned (.plain (OpenSpec.ofChange partnerTakesEachOnceSpec)) partnerTakesEachOnceCard

/-- THE TIED CARD OF 'interchangelaw8.PartnerIntakeMatchesSpec'. -/
def partnerIntakeMatchesSpecCard : Claim7 := { stood := { row := partnerIntakeMatchesSpecRow, standIns := [], harness := (true, "4f9a06df1685d9294e49c00cdfecf46038f6480651530e38f7356947ccafd6d3"), looks := true }, kinds := [], alts := [], laidByText := true, laidKinds := [.data, .pinned], laidTests := true, laidLooks := .later }
def PartnerIntakeMatchesSpecCardSaid : Prop := Claim7.holds Tryd.pinned (.plain (OpenSpec.ofChange partnerIntakeMatchesSpecSpec)) partnerIntakeMatchesSpecCard

/-- THE TIED CARD OF 'interchangelaw8.PartnerPassedMatchesSpec'. -/
def partnerPassedMatchesSpecCard : Claim7 := { stood := { row := partnerPassedMatchesSpecRow, standIns := [], harness := (true, "4f9a06df1685d9294e49c00cdfecf46038f6480651530e38f7356947ccafd6d3"), looks := true }, kinds := [], alts := [], laidByText := true, laidKinds := [.data, .pinned], laidTests := true, laidLooks := .later }
def PartnerPassedMatchesSpecCardSaid : Prop := Claim7.holds Tryd.pinned (.plain (OpenSpec.ofChange partnerPassedMatchesSpecSpec)) partnerPassedMatchesSpecCard

/-- THE TIED CARD OF 'interchangelaw8.PartnerNeverIsNever'. -/
def partnerNeverIsNeverCard : Claim7 := { stood := { row := partnerNeverIsNeverRow, standIns := [], harness := (true, "4f9a06df1685d9294e49c00cdfecf46038f6480651530e38f7356947ccafd6d3"), looks := true }, kinds := [], alts := [], laidByText := true, laidKinds := [.data, .pinned], laidTests := true, laidLooks := .later }
def PartnerNeverIsNeverCardSaid : Prop := Claim7.holds Tryd.pinned (.plain (OpenSpec.ofChange partnerNeverIsNeverSpec)) partnerNeverIsNeverCard

/-- THE TIED CARD OF 'interchangelaw8.PartnerReceiptsComeBack'. -/
def partnerReceiptsComeBackCard : Claim7 := { stood := { row := partnerReceiptsComeBackRow, standIns := [], harness := (true, "4f9a06df1685d9294e49c00cdfecf46038f6480651530e38f7356947ccafd6d3"), looks := true }, kinds := [], alts := [], laidByText := true, laidKinds := [.data, .data, .data, .data, .sentinel, .sentinel, .pinned], laidTests := true, laidLooks := .later }
def PartnerReceiptsComeBackCardSaid : Prop := Claim7.holds Tryd.pinned (.plain (OpenSpec.ofChange partnerReceiptsComeBackSpec)) partnerReceiptsComeBackCard

/-- THE SECOND FORM's CARD OF 'interchangelaw8.PartnerTakesEachOnce'. -/
def partnerTakesEachOnceUptoCard : Claim7 := { stood := { row := partnerTakesEachOnceUptoRow, standIns := [], harness := (true, "4f9a06df1685d9294e49c00cdfecf46038f6480651530e38f7356947ccafd6d3"), looks := true }, kinds := [], alts := [], laidByText := true, laidKinds := [.data, .pinned], laidTests := true, laidLooks := .later }
def PartnerTakesEachOnceUptoCardSaid : Prop := Claim7.holds Tryd.pinned (.plain (OpenSpec.upto partnerTakesEachOnceSpec)) partnerTakesEachOnceUptoCard

/-- THE SECOND FORM's CARD OF 'interchangelaw8.PartnerIntakeMatchesSpec'. -/
def partnerIntakeMatchesSpecUptoCard : Claim7 := { stood := { row := partnerIntakeMatchesSpecUptoRow, standIns := [], harness := (true, "4f9a06df1685d9294e49c00cdfecf46038f6480651530e38f7356947ccafd6d3"), looks := true }, kinds := [], alts := [], laidByText := true, laidKinds := [.data, .pinned], laidTests := true, laidLooks := .later }
def PartnerIntakeMatchesSpecUptoCardSaid : Prop := Claim7.holds Tryd.pinned (.plain (OpenSpec.upto partnerIntakeMatchesSpecSpec)) partnerIntakeMatchesSpecUptoCard

/-- THE SECOND FORM's CARD OF 'interchangelaw8.PartnerPassedMatchesSpec'. -/
def partnerPassedMatchesSpecUptoCard : Claim7 := { stood := { row := partnerPassedMatchesSpecUptoRow, standIns := [], harness := (true, "4f9a06df1685d9294e49c00cdfecf46038f6480651530e38f7356947ccafd6d3"), looks := true }, kinds := [], alts := [], laidByText := true, laidKinds := [.data, .pinned], laidTests := true, laidLooks := .later }
def PartnerPassedMatchesSpecUptoCardSaid : Prop := Claim7.holds Tryd.pinned (.plain (OpenSpec.upto partnerPassedMatchesSpecSpec)) partnerPassedMatchesSpecUptoCard

/-- THE SECOND FORM's CARD OF 'interchangelaw8.PartnerNeverIsNever'. -/
def partnerNeverIsNeverUptoCard : Claim7 := { stood := { row := partnerNeverIsNeverUptoRow, standIns := [], harness := (true, "4f9a06df1685d9294e49c00cdfecf46038f6480651530e38f7356947ccafd6d3"), looks := true }, kinds := [], alts := [], laidByText := true, laidKinds := [.data, .pinned], laidTests := true, laidLooks := .later }
def PartnerNeverIsNeverUptoCardSaid : Prop := Claim7.holds Tryd.pinned (.plain (OpenSpec.upto partnerNeverIsNeverSpec)) partnerNeverIsNeverUptoCard

/-- THE SECOND FORM's CARD OF 'interchangelaw8.PartnerReceiptsComeBack'. -/
def partnerReceiptsComeBackUptoCard : Claim7 := { stood := { row := partnerReceiptsComeBackUptoRow, standIns := [], harness := (true, "4f9a06df1685d9294e49c00cdfecf46038f6480651530e38f7356947ccafd6d3"), looks := true }, kinds := [], alts := [], laidByText := true, laidKinds := [.data, .data, .data, .data, .sentinel, .sentinel, .pinned], laidTests := true, laidLooks := .later }
def PartnerReceiptsComeBackUptoCardSaid : Prop := Claim7.holds Tryd.pinned (.plain (OpenSpec.upto partnerReceiptsComeBackSpec)) partnerReceiptsComeBackUptoCard
end Rows
end Go.Proofs.YthbhjladfniboaaDoor
