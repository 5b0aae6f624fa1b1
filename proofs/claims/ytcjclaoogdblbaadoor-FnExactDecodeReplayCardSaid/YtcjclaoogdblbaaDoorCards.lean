/-
  DERIVED. GIVEN WITH THE SEED: THE CARDS: each row of YtcjclaoogdblbaaDoorRows.lean that lists a variable, with what it lists TIED to the program's text (the seventh form; the later family's looks); each row that meets fmt, with fmt's text TOLD by the authors' own Lean function (tested against real Go, not proved from fmt's source: count such statements apart). THE CARD IS WHAT COUNTS. Prove the row's statement (the work); the ties are given (YtcjclaoogdblbaaDoorTie.lean); close each card by the builder's one call (the guide's Derived/Test/ToyasCard.lean, 'card_holds'). Laid BY PROGRAM, IN A SANDBOX (cutbox-door.mjs). By AI agents, Wed Nov 11 2026. No macro, syntax, notation, axiom, sorry.
-/
import Derived.Test.YtcjclaoogdblbaaDoorRows
import GoSem.ClaimSeven
namespace Go.Proofs.YtcjclaoogdblbaaDoor
namespace Rows

/-- THE TIED CARD OF 'laws.FnExactFormatAlarm'. -/
def fnExactFormatAlarmCard : Claim7 := { stood := { row := fnExactFormatAlarmRow, standIns := [], harness := (true, "7ce0b1a3258c62a7661be5b35af72482191dd1d06b649fd4a58b679ccb9d67f0"), looks := false }, kinds := [], alts := [], laidByText := true, laidKinds := [.data, .data, .data], laidTests := true, laidLooks := .later }
def FnExactFormatAlarmCardSaid : Prop := Claim7.holds Tryd.pinned (.plain (OpenSpec.ofChange fnExactFormatAlarmSpec)) fnExactFormatAlarmCard

/-- THE TIED CARD OF 'laws.FnExactParseAlarm'. -/
def fnExactParseAlarmCard : Claim7 := { stood := { row := fnExactParseAlarmRow, standIns := [], harness := (true, "7ce0b1a3258c62a7661be5b35af72482191dd1d06b649fd4a58b679ccb9d67f0"), looks := false }, kinds := [], alts := [], laidByText := true, laidKinds := [.data, .pinned], laidTests := true, laidLooks := .later }
def FnExactParseAlarmCardSaid : Prop := Claim7.holds Tryd.pinned (.plain (OpenSpec.ofChange fnExactParseAlarmSpec)) fnExactParseAlarmCard

/-- THE TIED CARD OF 'laws.FnAlarmTexts'. -/
def fnAlarmTextsCard : Claim7 := { stood := { row := fnAlarmTextsRow, standIns := [], harness := (true, "7ce0b1a3258c62a7661be5b35af72482191dd1d06b649fd4a58b679ccb9d67f0"), looks := false }, kinds := [], alts := [], laidByText := true, laidKinds := [.data, .data, .data, .data, .pinned], laidTests := true, laidLooks := .later }
def FnAlarmTextsCardSaid : Prop := Claim7.holds Tryd.pinned (.plain (OpenSpec.ofChange fnAlarmTextsSpec)) fnAlarmTextsCard

/-- THE TIED CARD OF 'laws.FnExactDecodeReplay'. -/
def fnExactDecodeReplayCard : Claim7 := { stood := { row := fnExactDecodeReplayRow, standIns := [], harness := (true, "7ce0b1a3258c62a7661be5b35af72482191dd1d06b649fd4a58b679ccb9d67f0"), looks := false }, kinds := [], alts := [], laidByText := true, laidKinds := [.data, .pinned], laidTests := true, laidLooks := .later }
def FnExactDecodeReplayCardSaid : Prop := Claim7.holds Tryd.pinned (.plain (OpenSpec.ofChange fnExactDecodeReplaySpec)) fnExactDecodeReplayCard

/-- THE TIED CARD OF 'laws.FnParts'. -/
def fnPartsCard : Claim7 := { stood := { row := fnPartsRow, standIns := [], harness := (true, "7ce0b1a3258c62a7661be5b35af72482191dd1d06b649fd4a58b679ccb9d67f0"), looks := false }, kinds := [], alts := [], laidByText := true, laidKinds := [.data, .data, .data], laidTests := true, laidLooks := .later }
def FnPartsCardSaid : Prop := Claim7.holds Tryd.pinned (.plain (OpenSpec.ofChange fnPartsSpec)) fnPartsCard

/-- THE SECOND FORM's CARD OF 'laws.FnExactFormatAlarm'. -/
def fnExactFormatAlarmUptoCard : Claim7 := { stood := { row := fnExactFormatAlarmUptoRow, standIns := [], harness := (true, "7ce0b1a3258c62a7661be5b35af72482191dd1d06b649fd4a58b679ccb9d67f0"), looks := false }, kinds := [], alts := [], laidByText := true, laidKinds := [.data, .data, .data], laidTests := true, laidLooks := .later }
def FnExactFormatAlarmUptoCardSaid : Prop := Claim7.holds Tryd.pinned (.plain (OpenSpec.upto fnExactFormatAlarmSpec)) fnExactFormatAlarmUptoCard

/-- THE SECOND FORM's CARD OF 'laws.FnExactParseAlarm'. -/
def fnExactParseAlarmUptoCard : Claim7 := { stood := { row := fnExactParseAlarmUptoRow, standIns := [], harness := (true, "7ce0b1a3258c62a7661be5b35af72482191dd1d06b649fd4a58b679ccb9d67f0"), looks := false }, kinds := [], alts := [], laidByText := true, laidKinds := [.data, .pinned], laidTests := true, laidLooks := .later }
def FnExactParseAlarmUptoCardSaid : Prop := Claim7.holds Tryd.pinned (.plain (OpenSpec.upto fnExactParseAlarmSpec)) fnExactParseAlarmUptoCard

/-- THE SECOND FORM's CARD OF 'laws.FnAlarmTexts'. -/
def fnAlarmTextsUptoCard : Claim7 := { stood := { row := fnAlarmTextsUptoRow, standIns := [], harness := (true, "7ce0b1a3258c62a7661be5b35af72482191dd1d06b649fd4a58b679ccb9d67f0"), looks := false }, kinds := [], alts := [], laidByText := true, laidKinds := [.data, .data, .data, .data, .pinned], laidTests := true, laidLooks := .later }
def FnAlarmTextsUptoCardSaid : Prop := Claim7.holds Tryd.pinned (.plain (OpenSpec.upto fnAlarmTextsSpec)) fnAlarmTextsUptoCard

/-- THE SECOND FORM's CARD OF 'laws.FnExactDecodeReplay'. -/
def fnExactDecodeReplayUptoCard : Claim7 := { stood := { row := fnExactDecodeReplayUptoRow, standIns := [], harness := (true, "7ce0b1a3258c62a7661be5b35af72482191dd1d06b649fd4a58b679ccb9d67f0"), looks := false }, kinds := [], alts := [], laidByText := true, laidKinds := [.data, .pinned], laidTests := true, laidLooks := .later }
def FnExactDecodeReplayUptoCardSaid : Prop := Claim7.holds Tryd.pinned (.plain (OpenSpec.upto fnExactDecodeReplaySpec)) fnExactDecodeReplayUptoCard

/-- THE SECOND FORM's CARD OF 'laws.FnParts'. -/
def fnPartsUptoCard : Claim7 := { stood := { row := fnPartsUptoRow, standIns := [], harness := (true, "7ce0b1a3258c62a7661be5b35af72482191dd1d06b649fd4a58b679ccb9d67f0"), looks := false }, kinds := [], alts := [], laidByText := true, laidKinds := [.data, .data, .data], laidTests := true, laidLooks := .later }
def FnPartsUptoCardSaid : Prop := Claim7.holds Tryd.pinned (.plain (OpenSpec.upto fnPartsSpec)) fnPartsUptoCard
end Rows
end Go.Proofs.YtcjclaoogdblbaaDoor
