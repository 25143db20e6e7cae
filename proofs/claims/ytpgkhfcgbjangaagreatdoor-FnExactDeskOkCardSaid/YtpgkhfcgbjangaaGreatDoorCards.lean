/-
  DERIVED. GIVEN WITH THE SEED: THE CARDS: each row of YtpgkhfcgbjangaaGreatDoorRows.lean that lists a variable, with what it lists TIED to the program's text (the seventh form; the later family's looks); each row that meets fmt, with fmt's text TOLD by the authors' own Lean function (tested against real Go, not proved from fmt's source: count such statements apart). THE CARD IS WHAT COUNTS. Prove the row's statement (the work); the ties are given (YtpgkhfcgbjangaaGreatDoorTie.lean); close each card by the builder's one call (the guide's Derived/Test/ToyasCard.lean, 'card_holds'). Laid BY PROGRAM, IN A SANDBOX (cutbox-door.mjs). By AI agents, Wed Nov 11 2026. No macro, syntax, notation, axiom, sorry.
-/
import Derived.Test.YtpgkhfcgbjangaaGreatDoorRows
import GoSem.ClaimSeven
namespace Go.Proofs.YtpgkhfcgbjangaaGreatDoor
namespace Rows

/-- THE TIED CARD OF 'laws.FnExactWorldOk'. -/
def fnExactWorldOkCard : Claim7 := { stood := { row := fnExactWorldOkRow, standIns := [], harness := (true, "e65d4345de9ba8f0a70f1efa7cdc30cd65a8e23288ae680d224a034d030917e2"), looks := true }, kinds := [], alts := [], laidByText := true, laidKinds := [.data, .data, .data, .data, .sentinel, .sentinel, .pinned], laidTests := true, laidLooks := .later }
def FnExactWorldOkCardSaid : Prop := Claim7.holds Tryz.pinned (.plain (OpenSpec.ofChange fnExactWorldOkSpec)) fnExactWorldOkCard

/-- THE TIED CARD OF 'laws.FnExactWaitsOn'. -/
def fnExactWaitsOnCard : Claim7 := { stood := { row := fnExactWaitsOnRow, standIns := [], harness := (true, "e65d4345de9ba8f0a70f1efa7cdc30cd65a8e23288ae680d224a034d030917e2"), looks := true }, kinds := [], alts := [], laidByText := true, laidKinds := [.data, .data, .data, .data, .sentinel, .sentinel, .pinned], laidTests := true, laidLooks := .later }
def FnExactWaitsOnCardSaid : Prop := Claim7.holds Tryz.pinned (.plain (OpenSpec.ofChange fnExactWaitsOnSpec)) fnExactWaitsOnCard

/-- THE TIED CARD OF 'laws.FnExactDeskOk'. -/
def fnExactDeskOkCard : Claim7 := { stood := { row := fnExactDeskOkRow, standIns := [], harness := (true, "e65d4345de9ba8f0a70f1efa7cdc30cd65a8e23288ae680d224a034d030917e2"), looks := true }, kinds := [], alts := [], laidByText := true, laidKinds := [.data, .data, .data, .data, .sentinel, .sentinel, .pinned], laidTests := true, laidLooks := .later }
def FnExactDeskOkCardSaid : Prop := Claim7.holds Tryz.pinned (.plain (OpenSpec.ofChange fnExactDeskOkSpec)) fnExactDeskOkCard

/-- THE TIED CARD OF 'laws.FnExactWorkLeft'. -/
def fnExactWorkLeftCard : Claim7 := { stood := { row := fnExactWorkLeftRow, standIns := [], harness := (true, "e65d4345de9ba8f0a70f1efa7cdc30cd65a8e23288ae680d224a034d030917e2"), looks := true }, kinds := [], alts := [], laidByText := true, laidKinds := [.data, .data, .data, .data, .sentinel, .sentinel, .pinned], laidTests := true, laidLooks := .later }
def FnExactWorkLeftCardSaid : Prop := Claim7.holds Tryz.pinned (.plain (OpenSpec.ofChange fnExactWorkLeftSpec)) fnExactWorkLeftCard

/-- THE TIED CARD OF 'laws.FnExactWaitChain'. -/
def fnExactWaitChainCard : Claim7 := { stood := { row := fnExactWaitChainRow, standIns := [], harness := (true, "e65d4345de9ba8f0a70f1efa7cdc30cd65a8e23288ae680d224a034d030917e2"), looks := true }, kinds := [], alts := [], laidByText := true, laidKinds := [.data, .data, .data, .data, .sentinel, .sentinel, .pinned], laidTests := true, laidLooks := .later }
def FnExactWaitChainCardSaid : Prop := Claim7.holds Tryz.pinned (.plain (OpenSpec.ofChange fnExactWaitChainSpec)) fnExactWaitChainCard

/-- THE SECOND FORM's CARD OF 'laws.FnExactWorldOk'. -/
def fnExactWorldOkUptoCard : Claim7 := { stood := { row := fnExactWorldOkUptoRow, standIns := [], harness := (true, "e65d4345de9ba8f0a70f1efa7cdc30cd65a8e23288ae680d224a034d030917e2"), looks := true }, kinds := [], alts := [], laidByText := true, laidKinds := [.data, .data, .data, .data, .sentinel, .sentinel, .pinned], laidTests := true, laidLooks := .later }
def FnExactWorldOkUptoCardSaid : Prop := Claim7.holds Tryz.pinned (.plain (OpenSpec.upto fnExactWorldOkSpec)) fnExactWorldOkUptoCard

/-- THE SECOND FORM's CARD OF 'laws.FnExactWaitsOn'. -/
def fnExactWaitsOnUptoCard : Claim7 := { stood := { row := fnExactWaitsOnUptoRow, standIns := [], harness := (true, "e65d4345de9ba8f0a70f1efa7cdc30cd65a8e23288ae680d224a034d030917e2"), looks := true }, kinds := [], alts := [], laidByText := true, laidKinds := [.data, .data, .data, .data, .sentinel, .sentinel, .pinned], laidTests := true, laidLooks := .later }
def FnExactWaitsOnUptoCardSaid : Prop := Claim7.holds Tryz.pinned (.plain (OpenSpec.upto fnExactWaitsOnSpec)) fnExactWaitsOnUptoCard

/-- THE SECOND FORM's CARD OF 'laws.FnExactDeskOk'. -/
def fnExactDeskOkUptoCard : Claim7 := { stood := { row := fnExactDeskOkUptoRow, standIns := [], harness := (true, "e65d4345de9ba8f0a70f1efa7cdc30cd65a8e23288ae680d224a034d030917e2"), looks := true }, kinds := [], alts := [], laidByText := true, laidKinds := [.data, .data, .data, .data, .sentinel, .sentinel, .pinned], laidTests := true, laidLooks := .later }
def FnExactDeskOkUptoCardSaid : Prop := Claim7.holds Tryz.pinned (.plain (OpenSpec.upto fnExactDeskOkSpec)) fnExactDeskOkUptoCard

/-- THE SECOND FORM's CARD OF 'laws.FnExactWorkLeft'. -/
def fnExactWorkLeftUptoCard : Claim7 := { stood := { row := fnExactWorkLeftUptoRow, standIns := [], harness := (true, "e65d4345de9ba8f0a70f1efa7cdc30cd65a8e23288ae680d224a034d030917e2"), looks := true }, kinds := [], alts := [], laidByText := true, laidKinds := [.data, .data, .data, .data, .sentinel, .sentinel, .pinned], laidTests := true, laidLooks := .later }
def FnExactWorkLeftUptoCardSaid : Prop := Claim7.holds Tryz.pinned (.plain (OpenSpec.upto fnExactWorkLeftSpec)) fnExactWorkLeftUptoCard

/-- THE SECOND FORM's CARD OF 'laws.FnExactWaitChain'. -/
def fnExactWaitChainUptoCard : Claim7 := { stood := { row := fnExactWaitChainUptoRow, standIns := [], harness := (true, "e65d4345de9ba8f0a70f1efa7cdc30cd65a8e23288ae680d224a034d030917e2"), looks := true }, kinds := [], alts := [], laidByText := true, laidKinds := [.data, .data, .data, .data, .sentinel, .sentinel, .pinned], laidTests := true, laidLooks := .later }
def FnExactWaitChainUptoCardSaid : Prop := Claim7.holds Tryz.pinned (.plain (OpenSpec.upto fnExactWaitChainSpec)) fnExactWaitChainUptoCard
end Rows
end Go.Proofs.YtpgkhfcgbjangaaGreatDoor
