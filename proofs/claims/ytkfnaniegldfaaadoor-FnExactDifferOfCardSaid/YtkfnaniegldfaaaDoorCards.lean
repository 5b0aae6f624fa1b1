/-
  DERIVED. GIVEN WITH THE SEED: THE CARDS: each row of YtkfnaniegldfaaaDoorRows.lean that lists a variable, with what it lists TIED to the program's text (the seventh form; the later family's looks); each row that meets fmt, with fmt's text TOLD by the authors' own Lean function (tested against real Go, not proved from fmt's source: count such statements apart). THE CARD IS WHAT COUNTS. Prove the row's statement (the work); the ties are given (YtkfnaniegldfaaaDoorTie.lean); close each card by the builder's one call (the guide's Derived/Test/ToyasCard.lean, 'card_holds'). Laid BY PROGRAM, IN A SANDBOX (cutbox-door.mjs). By AI agents, Wed Nov 11 2026. No macro, syntax, notation, axiom, sorry.
-/
import Derived.Test.YtkfnaniegldfaaaDoorRows
import GoSem.ClaimSeven
namespace Go.Proofs.YtkfnaniegldfaaaDoor
namespace Rows

/-- THE TIED CARD OF 'laws.FnExactParseAlarm'. -/
def fnExactParseAlarmCard : Claim7 := { stood := { row := fnExactParseAlarmRow, standIns := [], harness := (true, "62a02a6468aad0bde717ce4f8647e71f99a0b41f1817fcb16c428626a05c9a87"), looks := false }, kinds := [], alts := [], laidByText := true, laidKinds := [.data, .pinned], laidTests := true, laidLooks := .later }
def FnExactParseAlarmCardSaid : Prop := Claim7.holds Tryd.pinned (.plain (OpenSpec.ofChange fnExactParseAlarmSpec)) fnExactParseAlarmCard

/-- THE TIED CARD OF 'laws.FnExactPartsOf'. -/
def fnExactPartsOfCard : Claim7 := { stood := { row := fnExactPartsOfRow, standIns := [], harness := (true, "62a02a6468aad0bde717ce4f8647e71f99a0b41f1817fcb16c428626a05c9a87"), looks := false }, kinds := [], alts := [], laidByText := true, laidKinds := [.data, .data, .data], laidTests := true, laidLooks := .later }
def FnExactPartsOfCardSaid : Prop := Claim7.holds Tryd.pinned (.plain (OpenSpec.ofChange fnExactPartsOfSpec)) fnExactPartsOfCard

/-- THE TIED CARD OF 'laws.FnExactPartSum'. -/
def fnExactPartSumCard : Claim7 := { stood := { row := fnExactPartSumRow, standIns := [], harness := (true, "62a02a6468aad0bde717ce4f8647e71f99a0b41f1817fcb16c428626a05c9a87"), looks := false }, kinds := [], alts := [], laidByText := true, laidKinds := [.data, .data, .data], laidTests := true, laidLooks := .later }
def FnExactPartSumCardSaid : Prop := Claim7.holds Tryd.pinned (.plain (OpenSpec.ofChange fnExactPartSumSpec)) fnExactPartSumCard

/-- THE TIED CARD OF 'laws.FnExactDifferOf'. -/
def fnExactDifferOfCard : Claim7 := { stood := { row := fnExactDifferOfRow, standIns := [], harness := (true, "62a02a6468aad0bde717ce4f8647e71f99a0b41f1817fcb16c428626a05c9a87"), looks := false }, kinds := [], alts := [], laidByText := true, laidKinds := [.data, .data, .data], laidTests := true, laidLooks := .later }
def FnExactDifferOfCardSaid : Prop := Claim7.holds Tryd.pinned (.plain (OpenSpec.ofChange fnExactDifferOfSpec)) fnExactDifferOfCard

/-- THE TIED CARD OF 'laws.FnExactDecodeReplay'. -/
def fnExactDecodeReplayCard : Claim7 := { stood := { row := fnExactDecodeReplayRow, standIns := [], harness := (true, "62a02a6468aad0bde717ce4f8647e71f99a0b41f1817fcb16c428626a05c9a87"), looks := false }, kinds := [], alts := [], laidByText := true, laidKinds := [.data, .pinned], laidTests := true, laidLooks := .later }
def FnExactDecodeReplayCardSaid : Prop := Claim7.holds Tryd.pinned (.plain (OpenSpec.ofChange fnExactDecodeReplaySpec)) fnExactDecodeReplayCard

/-- THE SECOND FORM's CARD OF 'laws.FnExactParseAlarm'. -/
def fnExactParseAlarmUptoCard : Claim7 := { stood := { row := fnExactParseAlarmUptoRow, standIns := [], harness := (true, "62a02a6468aad0bde717ce4f8647e71f99a0b41f1817fcb16c428626a05c9a87"), looks := false }, kinds := [], alts := [], laidByText := true, laidKinds := [.data, .pinned], laidTests := true, laidLooks := .later }
def FnExactParseAlarmUptoCardSaid : Prop := Claim7.holds Tryd.pinned (.plain (OpenSpec.upto fnExactParseAlarmSpec)) fnExactParseAlarmUptoCard

/-- THE SECOND FORM's CARD OF 'laws.FnExactPartsOf'. -/
def fnExactPartsOfUptoCard : Claim7 := { stood := { row := fnExactPartsOfUptoRow, standIns := [], harness := (true, "62a02a6468aad0bde717ce4f8647e71f99a0b41f1817fcb16c428626a05c9a87"), looks := false }, kinds := [], alts := [], laidByText := true, laidKinds := [.data, .data, .data], laidTests := true, laidLooks := .later }
def FnExactPartsOfUptoCardSaid : Prop := Claim7.holds Tryd.pinned (.plain (OpenSpec.upto fnExactPartsOfSpec)) fnExactPartsOfUptoCard

/-- THE SECOND FORM's CARD OF 'laws.FnExactPartSum'. -/
def fnExactPartSumUptoCard : Claim7 := { stood := { row := fnExactPartSumUptoRow, standIns := [], harness := (true, "62a02a6468aad0bde717ce4f8647e71f99a0b41f1817fcb16c428626a05c9a87"), looks := false }, kinds := [], alts := [], laidByText := true, laidKinds := [.data, .data, .data], laidTests := true, laidLooks := .later }
def FnExactPartSumUptoCardSaid : Prop := Claim7.holds Tryd.pinned (.plain (OpenSpec.upto fnExactPartSumSpec)) fnExactPartSumUptoCard

/-- THE SECOND FORM's CARD OF 'laws.FnExactDifferOf'. -/
def fnExactDifferOfUptoCard : Claim7 := { stood := { row := fnExactDifferOfUptoRow, standIns := [], harness := (true, "62a02a6468aad0bde717ce4f8647e71f99a0b41f1817fcb16c428626a05c9a87"), looks := false }, kinds := [], alts := [], laidByText := true, laidKinds := [.data, .data, .data], laidTests := true, laidLooks := .later }
def FnExactDifferOfUptoCardSaid : Prop := Claim7.holds Tryd.pinned (.plain (OpenSpec.upto fnExactDifferOfSpec)) fnExactDifferOfUptoCard

/-- THE SECOND FORM's CARD OF 'laws.FnExactDecodeReplay'. -/
def fnExactDecodeReplayUptoCard : Claim7 := { stood := { row := fnExactDecodeReplayUptoRow, standIns := [], harness := (true, "62a02a6468aad0bde717ce4f8647e71f99a0b41f1817fcb16c428626a05c9a87"), looks := false }, kinds := [], alts := [], laidByText := true, laidKinds := [.data, .pinned], laidTests := true, laidLooks := .later }
def FnExactDecodeReplayUptoCardSaid : Prop := Claim7.holds Tryd.pinned (.plain (OpenSpec.upto fnExactDecodeReplaySpec)) fnExactDecodeReplayUptoCard
end Rows
end Go.Proofs.YtkfnaniegldfaaaDoor
