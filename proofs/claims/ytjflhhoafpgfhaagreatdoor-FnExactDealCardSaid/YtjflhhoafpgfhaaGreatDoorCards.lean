/-
  DERIVED. GIVEN WITH THE SEED: THE CARDS: each row of YtjflhhoafpgfhaaGreatDoorRows.lean that lists a variable, with what it lists TIED to the program's text (the seventh form; the later family's looks); each row that meets fmt, with fmt's text TOLD by the authors' own Lean function (tested against real Go, not proved from fmt's source: count such statements apart). THE CARD IS WHAT COUNTS. Prove the row's statement (the work); the ties are given (YtjflhhoafpgfhaaGreatDoorTie.lean); close each card by the builder's one call (the guide's Derived/Test/ToyasCard.lean, 'card_holds'). Laid BY PROGRAM, IN A SANDBOX (cutbox-door.mjs). By AI agents, Wed Nov 11 2026. No macro, syntax, notation, axiom, sorry.
-/
import Derived.Test.YtjflhhoafpgfhaaGreatDoorRows
import GoSem.ClaimSeven
namespace Go.Proofs.YtjflhhoafpgfhaaGreatDoor
namespace Rows

/-- THE TIED CARD OF 'laws.FnExactAsk'. -/
def fnExactAskCard : Claim7 := { stood := { row := fnExactAskRow, standIns := [], harness := (true, "f526552ebb1835b0a2f8e90eaebfcd8e868f463967dc0e92f56c8d687b0fba93"), looks := false }, kinds := [], alts := [], laidByText := true, laidKinds := [.data, .data, .data], laidTests := true, laidLooks := .later }
def FnExactAskCardSaid : Prop := Claim7.holds Tryz.pinned (.plain (OpenSpec.ofChange fnExactAskSpec)) fnExactAskCard

/-- THE TIED CARD OF 'laws.FnExactDeal'. -/
def fnExactDealCard : Claim7 := { stood := { row := fnExactDealRow, standIns := [], harness := (true, "f526552ebb1835b0a2f8e90eaebfcd8e868f463967dc0e92f56c8d687b0fba93"), looks := false }, kinds := [], alts := [], laidByText := true, laidKinds := [.data, .data, .data], laidTests := true, laidLooks := .later }
def FnExactDealCardSaid : Prop := Claim7.holds Tryz.pinned (.plain (OpenSpec.ofChange fnExactDealSpec)) fnExactDealCard

/-- THE SECOND FORM's CARD OF 'laws.FnExactAsk'. -/
def fnExactAskUptoCard : Claim7 := { stood := { row := fnExactAskUptoRow, standIns := [], harness := (true, "f526552ebb1835b0a2f8e90eaebfcd8e868f463967dc0e92f56c8d687b0fba93"), looks := false }, kinds := [], alts := [], laidByText := true, laidKinds := [.data, .data, .data], laidTests := true, laidLooks := .later }
def FnExactAskUptoCardSaid : Prop := Claim7.holds Tryz.pinned (.plain (OpenSpec.upto fnExactAskSpec)) fnExactAskUptoCard

/-- THE SECOND FORM's CARD OF 'laws.FnExactDeal'. -/
def fnExactDealUptoCard : Claim7 := { stood := { row := fnExactDealUptoRow, standIns := [], harness := (true, "f526552ebb1835b0a2f8e90eaebfcd8e868f463967dc0e92f56c8d687b0fba93"), looks := false }, kinds := [], alts := [], laidByText := true, laidKinds := [.data, .data, .data], laidTests := true, laidLooks := .later }
def FnExactDealUptoCardSaid : Prop := Claim7.holds Tryz.pinned (.plain (OpenSpec.upto fnExactDealSpec)) fnExactDealUptoCard
end Rows
end Go.Proofs.YtjflhhoafpgfhaaGreatDoor
