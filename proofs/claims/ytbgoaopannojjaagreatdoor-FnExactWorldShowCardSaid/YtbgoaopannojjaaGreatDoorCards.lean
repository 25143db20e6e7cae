/-
  DERIVED. GIVEN WITH THE SEED: THE CARDS: each row of YtbgoaopannojjaaGreatDoorRows.lean that lists a variable, with what it lists TIED to the program's text (the seventh form; the later family's looks); each row that meets fmt, with fmt's text TOLD by the authors' own Lean function (tested against real Go, not proved from fmt's source: count such statements apart). THE CARD IS WHAT COUNTS. Prove the row's statement (the work); the ties are given (YtbgoaopannojjaaGreatDoorTie.lean); close each card by the builder's one call (the guide's Derived/Test/ToyasCard.lean, 'card_holds'). Laid BY PROGRAM, IN A SANDBOX (cutbox-door.mjs). By AI agents, Wed Nov 11 2026. No macro, syntax, notation, axiom, sorry.
-/
import Derived.Test.YtbgoaopannojjaaGreatDoorRows
import GoSem.ClaimSeven
namespace Go.Proofs.YtbgoaopannojjaaGreatDoor
namespace Rows

/-- THE TIED CARD OF 'laws.FnExactWorldShow'. -/
def fnExactWorldShowCard : Claim7 := { stood := { row := fnExactWorldShowRow, standIns := [], harness := (true, "63520011f0a2b22137a1671335d861aaeec399f60ad374b0d994d8a8995ab031"), looks := true }, kinds := [], alts := [], laidByText := true, laidKinds := [.data, .data, .data, .data, .sentinel, .sentinel, .pinned], laidTests := true, laidLooks := .later }
def FnExactWorldShowCardSaid : Prop := Claim7.holds Tryz.pinned (.plain (OpenSpec.ofChange fnExactWorldShowSpec)) fnExactWorldShowCard

/-- THE TIED CARD OF 'laws.FnExactPass'. -/
def fnExactPassCard : Claim7 := { stood := { row := fnExactPassRow, standIns := [], harness := (true, "63520011f0a2b22137a1671335d861aaeec399f60ad374b0d994d8a8995ab031"), looks := true }, kinds := [], alts := [], laidByText := true, laidKinds := [.data, .data, .data, .data, .sentinel, .sentinel, .pinned], laidTests := true, laidLooks := .later }
def FnExactPassCardSaid : Prop := Claim7.holds Tryz.pinned (.plain (OpenSpec.ofChange fnExactPassSpec)) fnExactPassCard

/-- THE TIED CARD OF 'laws.FnExactArrive'. -/
def fnExactArriveCard : Claim7 := { stood := { row := fnExactArriveRow, standIns := [], harness := (true, "63520011f0a2b22137a1671335d861aaeec399f60ad374b0d994d8a8995ab031"), looks := true }, kinds := [], alts := [], laidByText := true, laidKinds := [.data, .data, .data, .data, .sentinel, .sentinel, .pinned], laidTests := true, laidLooks := .later }
def FnExactArriveCardSaid : Prop := Claim7.holds Tryz.pinned (.plain (OpenSpec.ofChange fnExactArriveSpec)) fnExactArriveCard

/-- THE TIED CARD OF 'laws.FnExactRestripe'. -/
def fnExactRestripeCard : Claim7 := { stood := { row := fnExactRestripeRow, standIns := [], harness := (true, "63520011f0a2b22137a1671335d861aaeec399f60ad374b0d994d8a8995ab031"), looks := true }, kinds := [], alts := [], laidByText := true, laidKinds := [.data, .data, .data, .data, .sentinel, .sentinel, .pinned], laidTests := true, laidLooks := .later }
def FnExactRestripeCardSaid : Prop := Claim7.holds Tryz.pinned (.plain (OpenSpec.ofChange fnExactRestripeSpec)) fnExactRestripeCard

/-- THE SECOND FORM's CARD OF 'laws.FnExactWorldShow'. -/
def fnExactWorldShowUptoCard : Claim7 := { stood := { row := fnExactWorldShowUptoRow, standIns := [], harness := (true, "63520011f0a2b22137a1671335d861aaeec399f60ad374b0d994d8a8995ab031"), looks := true }, kinds := [], alts := [], laidByText := true, laidKinds := [.data, .data, .data, .data, .sentinel, .sentinel, .pinned], laidTests := true, laidLooks := .later }
def FnExactWorldShowUptoCardSaid : Prop := Claim7.holds Tryz.pinned (.plain (OpenSpec.upto fnExactWorldShowSpec)) fnExactWorldShowUptoCard

/-- THE SECOND FORM's CARD OF 'laws.FnExactPass'. -/
def fnExactPassUptoCard : Claim7 := { stood := { row := fnExactPassUptoRow, standIns := [], harness := (true, "63520011f0a2b22137a1671335d861aaeec399f60ad374b0d994d8a8995ab031"), looks := true }, kinds := [], alts := [], laidByText := true, laidKinds := [.data, .data, .data, .data, .sentinel, .sentinel, .pinned], laidTests := true, laidLooks := .later }
def FnExactPassUptoCardSaid : Prop := Claim7.holds Tryz.pinned (.plain (OpenSpec.upto fnExactPassSpec)) fnExactPassUptoCard

/-- THE SECOND FORM's CARD OF 'laws.FnExactArrive'. -/
def fnExactArriveUptoCard : Claim7 := { stood := { row := fnExactArriveUptoRow, standIns := [], harness := (true, "63520011f0a2b22137a1671335d861aaeec399f60ad374b0d994d8a8995ab031"), looks := true }, kinds := [], alts := [], laidByText := true, laidKinds := [.data, .data, .data, .data, .sentinel, .sentinel, .pinned], laidTests := true, laidLooks := .later }
def FnExactArriveUptoCardSaid : Prop := Claim7.holds Tryz.pinned (.plain (OpenSpec.upto fnExactArriveSpec)) fnExactArriveUptoCard

/-- THE SECOND FORM's CARD OF 'laws.FnExactRestripe'. -/
def fnExactRestripeUptoCard : Claim7 := { stood := { row := fnExactRestripeUptoRow, standIns := [], harness := (true, "63520011f0a2b22137a1671335d861aaeec399f60ad374b0d994d8a8995ab031"), looks := true }, kinds := [], alts := [], laidByText := true, laidKinds := [.data, .data, .data, .data, .sentinel, .sentinel, .pinned], laidTests := true, laidLooks := .later }
def FnExactRestripeUptoCardSaid : Prop := Claim7.holds Tryz.pinned (.plain (OpenSpec.upto fnExactRestripeSpec)) fnExactRestripeUptoCard
end Rows
end Go.Proofs.YtbgoaopannojjaaGreatDoor
