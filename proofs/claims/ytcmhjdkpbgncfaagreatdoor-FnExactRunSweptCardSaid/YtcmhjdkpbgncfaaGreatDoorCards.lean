/-
  DERIVED. GIVEN WITH THE SEED: THE CARDS: each row of YtcmhjdkpbgncfaaGreatDoorRows.lean that lists a variable, with what it lists TIED to the program's text (the seventh form; the later family's looks); each row that meets fmt, with fmt's text TOLD by the authors' own Lean function (tested against real Go, not proved from fmt's source: count such statements apart). THE CARD IS WHAT COUNTS. Prove the row's statement (the work); the ties are given (YtcmhjdkpbgncfaaGreatDoorTie.lean); close each card by the builder's one call (the guide's Derived/Test/ToyasCard.lean, 'card_holds'). Laid BY PROGRAM, IN A SANDBOX (cutbox-door.mjs). By AI agents, Wed Nov 11 2026. No macro, syntax, notation, axiom, sorry.
-/
import Derived.Test.YtcmhjdkpbgncfaaGreatDoorRows
import GoSem.ClaimSeven
namespace Go.Proofs.YtcmhjdkpbgncfaaGreatDoor
namespace Rows

/-- THE TIED CARD OF 'laws.FnExactAgree'. -/
def fnExactAgreeCard : Claim7 := { stood := { row := fnExactAgreeRow, standIns := [], harness := (true, "7b1d776fb8907b4decce6c9b2332eb9e57bf308c43c2a3f1d995033f38db9224"), looks := true }, kinds := [], alts := [], laidByText := true, laidKinds := [.data, .data, .data, .data, .sentinel, .sentinel, .pinned], laidTests := true, laidLooks := .later }
def FnExactAgreeCardSaid : Prop := Claim7.holds Tryz.pinned (.plain (OpenSpec.ofChange fnExactAgreeSpec)) fnExactAgreeCard

/-- THE TIED CARD OF 'laws.FnExactHandle'. -/
def fnExactHandleCard : Claim7 := { stood := { row := fnExactHandleRow, standIns := [], harness := (true, "7b1d776fb8907b4decce6c9b2332eb9e57bf308c43c2a3f1d995033f38db9224"), looks := true }, kinds := [], alts := [], laidByText := true, laidKinds := [.data, .data, .data, .data, .sentinel, .sentinel, .pinned], laidTests := true, laidLooks := .later }
def FnExactHandleCardSaid : Prop := Claim7.holds Tryz.pinned (.plain (OpenSpec.ofChange fnExactHandleSpec)) fnExactHandleCard

/-- THE TIED CARD OF 'laws.FnExactRun'. -/
def fnExactRunCard : Claim7 := { stood := { row := fnExactRunRow, standIns := [], harness := (true, "7b1d776fb8907b4decce6c9b2332eb9e57bf308c43c2a3f1d995033f38db9224"), looks := true }, kinds := [], alts := [], laidByText := true, laidKinds := [.data, .data, .data, .data, .sentinel, .sentinel, .pinned], laidTests := true, laidLooks := .later }
def FnExactRunCardSaid : Prop := Claim7.holds Tryz.pinned (.plain (OpenSpec.ofChange fnExactRunSpec)) fnExactRunCard

/-- THE TIED CARD OF 'laws.FnExactRunSwept'. -/
def fnExactRunSweptCard : Claim7 := { stood := { row := fnExactRunSweptRow, standIns := [], harness := (true, "7b1d776fb8907b4decce6c9b2332eb9e57bf308c43c2a3f1d995033f38db9224"), looks := true }, kinds := [], alts := [], laidByText := true, laidKinds := [.data, .data, .data, .data, .sentinel, .sentinel, .pinned], laidTests := true, laidLooks := .later }
def FnExactRunSweptCardSaid : Prop := Claim7.holds Tryz.pinned (.plain (OpenSpec.ofChange fnExactRunSweptSpec)) fnExactRunSweptCard

/-- THE SECOND FORM's CARD OF 'laws.FnExactAgree'. -/
def fnExactAgreeUptoCard : Claim7 := { stood := { row := fnExactAgreeUptoRow, standIns := [], harness := (true, "7b1d776fb8907b4decce6c9b2332eb9e57bf308c43c2a3f1d995033f38db9224"), looks := true }, kinds := [], alts := [], laidByText := true, laidKinds := [.data, .data, .data, .data, .sentinel, .sentinel, .pinned], laidTests := true, laidLooks := .later }
def FnExactAgreeUptoCardSaid : Prop := Claim7.holds Tryz.pinned (.plain (OpenSpec.upto fnExactAgreeSpec)) fnExactAgreeUptoCard

/-- THE SECOND FORM's CARD OF 'laws.FnExactHandle'. -/
def fnExactHandleUptoCard : Claim7 := { stood := { row := fnExactHandleUptoRow, standIns := [], harness := (true, "7b1d776fb8907b4decce6c9b2332eb9e57bf308c43c2a3f1d995033f38db9224"), looks := true }, kinds := [], alts := [], laidByText := true, laidKinds := [.data, .data, .data, .data, .sentinel, .sentinel, .pinned], laidTests := true, laidLooks := .later }
def FnExactHandleUptoCardSaid : Prop := Claim7.holds Tryz.pinned (.plain (OpenSpec.upto fnExactHandleSpec)) fnExactHandleUptoCard

/-- THE SECOND FORM's CARD OF 'laws.FnExactRun'. -/
def fnExactRunUptoCard : Claim7 := { stood := { row := fnExactRunUptoRow, standIns := [], harness := (true, "7b1d776fb8907b4decce6c9b2332eb9e57bf308c43c2a3f1d995033f38db9224"), looks := true }, kinds := [], alts := [], laidByText := true, laidKinds := [.data, .data, .data, .data, .sentinel, .sentinel, .pinned], laidTests := true, laidLooks := .later }
def FnExactRunUptoCardSaid : Prop := Claim7.holds Tryz.pinned (.plain (OpenSpec.upto fnExactRunSpec)) fnExactRunUptoCard

/-- THE SECOND FORM's CARD OF 'laws.FnExactRunSwept'. -/
def fnExactRunSweptUptoCard : Claim7 := { stood := { row := fnExactRunSweptUptoRow, standIns := [], harness := (true, "7b1d776fb8907b4decce6c9b2332eb9e57bf308c43c2a3f1d995033f38db9224"), looks := true }, kinds := [], alts := [], laidByText := true, laidKinds := [.data, .data, .data, .data, .sentinel, .sentinel, .pinned], laidTests := true, laidLooks := .later }
def FnExactRunSweptUptoCardSaid : Prop := Claim7.holds Tryz.pinned (.plain (OpenSpec.upto fnExactRunSweptSpec)) fnExactRunSweptUptoCard
end Rows
end Go.Proofs.YtcmhjdkpbgncfaaGreatDoor
