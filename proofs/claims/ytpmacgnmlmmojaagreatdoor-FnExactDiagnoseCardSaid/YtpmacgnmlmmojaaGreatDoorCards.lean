/-
  DERIVED. GIVEN WITH THE SEED: THE CARDS: each row of YtpmacgnmlmmojaaGreatDoorRows.lean that lists a variable, with what it lists TIED to the program's text (the seventh form; the later family's looks); each row that meets fmt, with fmt's text TOLD by the authors' own Lean function (tested against real Go, not proved from fmt's source: count such statements apart). THE CARD IS WHAT COUNTS. Prove the row's statement (the work); the ties are given (YtpmacgnmlmmojaaGreatDoorTie.lean); close each card by the builder's one call (the guide's Derived/Test/ToyasCard.lean, 'card_holds'). Laid BY PROGRAM, IN A SANDBOX (cutbox-door.mjs). By AI agents, Wed Nov 11 2026. No macro, syntax, notation, axiom, sorry.
-/
import Derived.Test.YtpmacgnmlmmojaaGreatDoorRows
import GoSem.ClaimSeven
namespace Go.Proofs.YtpmacgnmlmmojaaGreatDoor
namespace Rows

/-- THE TIED CARD OF 'laws.FnDiagnosed'. -/
def fnDiagnosedCard : Claim7 := { stood := { row := fnDiagnosedRow, standIns := [], harness := (true, "9326bd234ae965b4eb3e4866507bb3034ef8198334fd90800f89dd8b7467a607"), looks := false }, kinds := [], alts := [], laidByText := true, laidKinds := [.data, .data, .data], laidTests := true, laidLooks := .later }
def FnDiagnosedCardSaid : Prop := Claim7.holds Tryz.pinned (.plain (OpenSpec.ofChange fnDiagnosedSpec)) fnDiagnosedCard

/-- THE TIED CARD OF 'laws.FnReplayBytes'. -/
def fnReplayBytesCard : Claim7 := { stood := { row := fnReplayBytesRow, standIns := [], harness := (true, "9326bd234ae965b4eb3e4866507bb3034ef8198334fd90800f89dd8b7467a607"), looks := false }, kinds := [], alts := [], laidByText := true, laidKinds := [.data, .pinned], laidTests := true, laidLooks := .later }
def FnReplayBytesCardSaid : Prop := Claim7.holds Tryz.pinned (.plain (OpenSpec.ofChange fnReplayBytesSpec)) fnReplayBytesCard

/-- THE TIED CARD OF 'laws.FnExactDiagnose'. -/
def fnExactDiagnoseCard : Claim7 := { stood := { row := fnExactDiagnoseRow, standIns := [], harness := (true, "9326bd234ae965b4eb3e4866507bb3034ef8198334fd90800f89dd8b7467a607"), looks := false }, kinds := [], alts := [], laidByText := true, laidKinds := [.data, .data, .data], laidTests := true, laidLooks := .later }
def FnExactDiagnoseCardSaid : Prop := Claim7.holds Tryz.pinned (.plain (OpenSpec.ofChange fnExactDiagnoseSpec)) fnExactDiagnoseCard

/-- THE SECOND FORM's CARD OF 'laws.FnDiagnosed'. -/
def fnDiagnosedUptoCard : Claim7 := { stood := { row := fnDiagnosedUptoRow, standIns := [], harness := (true, "9326bd234ae965b4eb3e4866507bb3034ef8198334fd90800f89dd8b7467a607"), looks := false }, kinds := [], alts := [], laidByText := true, laidKinds := [.data, .data, .data], laidTests := true, laidLooks := .later }
def FnDiagnosedUptoCardSaid : Prop := Claim7.holds Tryz.pinned (.plain (OpenSpec.upto fnDiagnosedSpec)) fnDiagnosedUptoCard

/-- THE SECOND FORM's CARD OF 'laws.FnReplayBytes'. -/
def fnReplayBytesUptoCard : Claim7 := { stood := { row := fnReplayBytesUptoRow, standIns := [], harness := (true, "9326bd234ae965b4eb3e4866507bb3034ef8198334fd90800f89dd8b7467a607"), looks := false }, kinds := [], alts := [], laidByText := true, laidKinds := [.data, .pinned], laidTests := true, laidLooks := .later }
def FnReplayBytesUptoCardSaid : Prop := Claim7.holds Tryz.pinned (.plain (OpenSpec.upto fnReplayBytesSpec)) fnReplayBytesUptoCard

/-- THE SECOND FORM's CARD OF 'laws.FnExactDiagnose'. -/
def fnExactDiagnoseUptoCard : Claim7 := { stood := { row := fnExactDiagnoseUptoRow, standIns := [], harness := (true, "9326bd234ae965b4eb3e4866507bb3034ef8198334fd90800f89dd8b7467a607"), looks := false }, kinds := [], alts := [], laidByText := true, laidKinds := [.data, .data, .data], laidTests := true, laidLooks := .later }
def FnExactDiagnoseUptoCardSaid : Prop := Claim7.holds Tryz.pinned (.plain (OpenSpec.upto fnExactDiagnoseSpec)) fnExactDiagnoseUptoCard
end Rows
end Go.Proofs.YtpmacgnmlmmojaaGreatDoor
