/-
  DERIVED. GIVEN WITH THE SEED: THE CARDS: each row of YtpeelghbhihgkaaDoorRows.lean that lists a variable, with what it lists TIED to the program's text (the seventh form; the later family's looks); each row that meets fmt, with fmt's text TOLD by the authors' own Lean function (tested against real Go, not proved from fmt's source: count such statements apart). THE CARD IS WHAT COUNTS. Prove the row's statement (the work); the ties are given (YtpeelghbhihgkaaDoorTie.lean); close each card by the builder's one call (the guide's Derived/Test/ToyasCard.lean, 'card_holds'). Laid BY PROGRAM, IN A SANDBOX (cutbox-door.mjs). By AI agents, Wed Nov 11 2026. No macro, syntax, notation, axiom, sorry.
-/
import Derived.Test.YtpeelghbhihgkaaDoorRows
import GoSem.ClaimSeven
namespace Go.Proofs.YtpeelghbhihgkaaDoor
namespace Rows

/-- THE TIED CARD OF 'sargassolaw2.CompactBack'. -/
def compactBackCard : Claim7 := { stood := { row := compactBackRow, standIns := [], harness := (true, "44c87253b6d1d649ea9f32081a4dd5fbff217aed9ab5f66e5b0991c77eb18b97"), looks := true }, kinds := [], alts := [], laidByText := true, laidKinds := [.sentinel, .sentinel, .sentinel, .sentinel, .sentinel, .sentinel, .sentinel, .sentinel, .sentinel, .sentinel, .sentinel, .sentinel, .sentinel, .sentinel, .sentinel, .sentinel, .sentinel, .sentinel, .sentinel, .sentinel, .sentinel, .sentinel, .sentinel, .sentinel, .sentinel], laidTests := true, laidLooks := .later }
def CompactBackCardSaid : Prop := Claim7.holds Tryd.pinned (.plain (OpenSpec.ofChange compactBackSpec)) compactBackCard

/-- THE TIED CARD OF 'sargassolaw2.CompactFewest'. -/
def compactFewestCard : Claim7 := { stood := { row := compactFewestRow, standIns := [], harness := (true, "44c87253b6d1d649ea9f32081a4dd5fbff217aed9ab5f66e5b0991c77eb18b97"), looks := true }, kinds := [], alts := [], laidByText := true, laidKinds := [.sentinel, .sentinel, .sentinel, .sentinel, .sentinel, .sentinel, .sentinel, .sentinel, .sentinel, .sentinel, .sentinel, .sentinel, .sentinel, .sentinel, .sentinel, .sentinel, .sentinel, .sentinel, .sentinel, .sentinel, .sentinel, .sentinel, .sentinel, .sentinel, .sentinel], laidTests := true, laidLooks := .later }
def CompactFewestCardSaid : Prop := Claim7.holds Tryd.pinned (.plain (OpenSpec.ofChange compactFewestSpec)) compactFewestCard

/-- THE TIED CARD OF 'sargassolaw2.CompactRows'. -/
def compactRowsCard : Claim7 := { stood := { row := compactRowsRow, standIns := [], harness := (true, "44c87253b6d1d649ea9f32081a4dd5fbff217aed9ab5f66e5b0991c77eb18b97"), looks := true }, kinds := [], alts := [], laidByText := true, laidKinds := [.sentinel, .sentinel, .sentinel], laidTests := true, laidLooks := .later }
def CompactRowsCardSaid : Prop := Claim7.holds Tryd.pinned (.plain (OpenSpec.ofChange compactRowsSpec)) compactRowsCard

/-- THE TIED CARD OF 'sargassolaw2.CompactReads'. -/
def compactReadsCard : Claim7 := { stood := { row := compactReadsRow, standIns := [], harness := (true, "44c87253b6d1d649ea9f32081a4dd5fbff217aed9ab5f66e5b0991c77eb18b97"), looks := true }, kinds := [], alts := [], laidByText := true, laidKinds := [.sentinel, .sentinel, .sentinel, .sentinel, .sentinel, .sentinel, .sentinel, .sentinel, .sentinel, .sentinel, .sentinel, .sentinel, .sentinel, .sentinel, .sentinel, .sentinel, .sentinel, .sentinel, .sentinel, .sentinel, .sentinel, .sentinel, .sentinel, .sentinel, .sentinel], laidTests := true, laidLooks := .later }
def CompactReadsCardSaid : Prop := Claim7.holds Tryd.pinned (.plain (OpenSpec.ofChange compactReadsSpec)) compactReadsCard

/-- THE TIED CARD OF 'sargassolaw2.CompactStops'. -/
def compactStopsCard : Claim7 := { stood := { row := compactStopsRow, standIns := [], harness := (true, "44c87253b6d1d649ea9f32081a4dd5fbff217aed9ab5f66e5b0991c77eb18b97"), looks := true }, kinds := [], alts := [], laidByText := true, laidKinds := [.sentinel, .sentinel, .sentinel, .sentinel, .sentinel, .sentinel, .sentinel, .sentinel, .sentinel, .sentinel, .sentinel, .sentinel, .sentinel, .sentinel, .sentinel, .sentinel, .sentinel, .sentinel, .sentinel, .sentinel, .sentinel, .sentinel, .sentinel, .sentinel, .sentinel], laidTests := true, laidLooks := .later }
def CompactStopsCardSaid : Prop := Claim7.holds Tryd.pinned (.plain (OpenSpec.ofChange compactStopsSpec)) compactStopsCard

/-- THE TIED CARD OF 'sargassolaw4.TxBounds'. -/
def txBoundsCard : Claim7 := { stood := { row := txBoundsRow, standIns := [], harness := (true, "44c87253b6d1d649ea9f32081a4dd5fbff217aed9ab5f66e5b0991c77eb18b97"), looks := true }, kinds := [], alts := [], laidByText := true, laidKinds := [.sentinel, .sentinel, .sentinel, .sentinel, .sentinel, .sentinel, .sentinel, .sentinel, .sentinel, .sentinel, .sentinel, .sentinel, .sentinel, .sentinel, .sentinel, .sentinel, .sentinel, .sentinel, .sentinel, .sentinel, .sentinel, .sentinel, .sentinel, .sentinel, .sentinel], laidTests := true, laidLooks := .later }
def TxBoundsCardSaid : Prop := Claim7.holds Tryd.pinned (.plain (OpenSpec.ofChange txBoundsSpec)) txBoundsCard

/-- THE TIED CARD OF 'sargassolaw4.TxBases'. -/
def txBasesCard : Claim7 := { stood := { row := txBasesRow, standIns := [], harness := (true, "44c87253b6d1d649ea9f32081a4dd5fbff217aed9ab5f66e5b0991c77eb18b97"), looks := true }, kinds := [], alts := [], laidByText := true, laidKinds := [.sentinel, .sentinel, .sentinel, .sentinel, .sentinel, .sentinel, .sentinel, .sentinel, .sentinel, .sentinel, .sentinel, .sentinel, .sentinel, .sentinel, .sentinel, .sentinel, .sentinel, .sentinel, .sentinel, .sentinel, .sentinel, .sentinel, .sentinel, .sentinel, .sentinel], laidTests := true, laidLooks := .later }
def TxBasesCardSaid : Prop := Claim7.holds Tryd.pinned (.plain (OpenSpec.ofChange txBasesSpec)) txBasesCard

/-- THE TIED CARD OF 'sargassolaw4.TxBack'. -/
def txBackCard : Claim7 := { stood := { row := txBackRow, standIns := [], harness := (true, "44c87253b6d1d649ea9f32081a4dd5fbff217aed9ab5f66e5b0991c77eb18b97"), looks := true }, kinds := [], alts := [], laidByText := true, laidKinds := [.sentinel, .sentinel, .sentinel, .sentinel, .sentinel, .sentinel, .sentinel, .sentinel, .sentinel, .sentinel, .sentinel, .sentinel, .sentinel, .sentinel, .sentinel, .sentinel, .sentinel, .sentinel, .sentinel, .sentinel, .sentinel, .sentinel, .sentinel, .sentinel, .sentinel], laidTests := true, laidLooks := .later }
def TxBackCardSaid : Prop := Claim7.holds Tryd.pinned (.plain (OpenSpec.ofChange txBackSpec)) txBackCard

/-- THE TIED CARD OF 'sargassolaw4.TxSizes'. -/
def txSizesCard : Claim7 := { stood := { row := txSizesRow, standIns := [], harness := (true, "44c87253b6d1d649ea9f32081a4dd5fbff217aed9ab5f66e5b0991c77eb18b97"), looks := true }, kinds := [], alts := [], laidByText := true, laidKinds := [.sentinel, .sentinel, .sentinel, .sentinel, .sentinel, .sentinel, .sentinel, .sentinel], laidTests := true, laidLooks := .later }
def TxSizesCardSaid : Prop := Claim7.holds Tryd.pinned (.plain (OpenSpec.ofChange txSizesSpec)) txSizesCard

/-- THE TIED CARD OF 'sargassolaw4.TxTurned'. -/
def txTurnedCard : Claim7 := { stood := { row := txTurnedRow, standIns := [], harness := (true, "44c87253b6d1d649ea9f32081a4dd5fbff217aed9ab5f66e5b0991c77eb18b97"), looks := true }, kinds := [], alts := [], laidByText := true, laidKinds := [.sentinel, .sentinel, .sentinel, .sentinel, .sentinel, .sentinel, .sentinel, .sentinel], laidTests := true, laidLooks := .later }
def TxTurnedCardSaid : Prop := Claim7.holds Tryd.pinned (.plain (OpenSpec.ofChange txTurnedSpec)) txTurnedCard

/-- THE TIED CARD OF 'sargassolaw4.TxSays'. -/
def txSaysCard : Claim7 := { stood := { row := txSaysRow, standIns := [], harness := (true, "44c87253b6d1d649ea9f32081a4dd5fbff217aed9ab5f66e5b0991c77eb18b97"), looks := true }, kinds := [], alts := [], laidByText := true, laidKinds := [.sentinel, .sentinel, .sentinel, .sentinel, .sentinel, .sentinel, .sentinel, .sentinel, .sentinel, .sentinel, .sentinel, .sentinel, .sentinel, .sentinel, .sentinel, .sentinel, .sentinel, .sentinel, .sentinel, .sentinel, .sentinel, .sentinel, .sentinel, .sentinel, .sentinel], laidTests := true, laidLooks := .later }
def TxSaysCardSaid : Prop := Claim7.holds Tryd.pinned (.plain (OpenSpec.ofChange txSaysSpec)) txSaysCard

/-- THE TIED CARD OF 'sargassolaw5.HeadWork'. -/
def headWorkCard : Claim7 := { stood := { row := headWorkRow, standIns := [], harness := (true, "44c87253b6d1d649ea9f32081a4dd5fbff217aed9ab5f66e5b0991c77eb18b97"), looks := true }, kinds := [], alts := [], laidByText := true, laidKinds := [.sentinel], laidTests := true, laidLooks := .later }
def HeadWorkCardSaid : Prop := Claim7.holds Tryd.pinned (.plain (OpenSpec.ofChange headWorkSpec)) headWorkCard

/-- THE TIED CARD OF 'sargassolaw5.HeadBack'. -/
def headBackCard : Claim7 := { stood := { row := headBackRow, standIns := [], harness := (true, "44c87253b6d1d649ea9f32081a4dd5fbff217aed9ab5f66e5b0991c77eb18b97"), looks := true }, kinds := [], alts := [], laidByText := true, laidKinds := [.sentinel, .sentinel, .sentinel, .sentinel, .sentinel, .sentinel, .sentinel, .sentinel, .sentinel, .sentinel, .sentinel, .sentinel, .sentinel, .sentinel, .sentinel, .sentinel, .sentinel, .sentinel, .sentinel, .sentinel, .sentinel, .sentinel, .sentinel, .sentinel, .sentinel], laidTests := true, laidLooks := .later }
def HeadBackCardSaid : Prop := Claim7.holds Tryd.pinned (.plain (OpenSpec.ofChange headBackSpec)) headBackCard

/-- THE TIED CARD OF 'sargassolaw15.ValueRules'. -/
def valueRulesCard : Claim7 := { stood := { row := valueRulesRow, standIns := [], harness := (true, "44c87253b6d1d649ea9f32081a4dd5fbff217aed9ab5f66e5b0991c77eb18b97"), looks := true }, kinds := [], alts := [], laidByText := true, laidKinds := [.sentinel, .sentinel, .sentinel, .sentinel, .sentinel, .sentinel, .sentinel, .sentinel, .sentinel, .sentinel, .sentinel, .sentinel, .sentinel, .sentinel, .sentinel, .sentinel, .sentinel, .sentinel, .sentinel, .sentinel, .sentinel, .sentinel, .sentinel, .sentinel, .sentinel], laidTests := true, laidLooks := .later }
def ValueRulesCardSaid : Prop := Claim7.holds Tryd.pinned (.plain (OpenSpec.ofChange valueRulesSpec)) valueRulesCard

/-- THE TIED CARD OF 'sargassolaw15.ValueKeeps'. -/
def valueKeepsCard : Claim7 := { stood := { row := valueKeepsRow, standIns := [], harness := (true, "44c87253b6d1d649ea9f32081a4dd5fbff217aed9ab5f66e5b0991c77eb18b97"), looks := true }, kinds := [], alts := [], laidByText := true, laidKinds := [.sentinel, .sentinel, .sentinel, .sentinel, .sentinel, .sentinel, .sentinel, .sentinel, .sentinel, .sentinel, .sentinel, .sentinel, .sentinel, .sentinel, .sentinel, .sentinel, .sentinel, .sentinel, .sentinel, .sentinel, .sentinel, .sentinel, .sentinel, .sentinel, .sentinel], laidTests := true, laidLooks := .later }
def ValueKeepsCardSaid : Prop := Claim7.holds Tryd.pinned (.plain (OpenSpec.ofChange valueKeepsSpec)) valueKeepsCard

/-- THE TIED CARD OF 'sargassolaw15.ValueSays'. -/
def valueSaysCard : Claim7 := { stood := { row := valueSaysRow, standIns := [], harness := (true, "44c87253b6d1d649ea9f32081a4dd5fbff217aed9ab5f66e5b0991c77eb18b97"), looks := true }, kinds := [], alts := [], laidByText := true, laidKinds := [.sentinel, .sentinel, .sentinel, .sentinel, .sentinel, .sentinel, .sentinel, .sentinel, .sentinel, .sentinel, .sentinel, .sentinel, .sentinel, .sentinel, .sentinel, .sentinel, .sentinel, .sentinel, .sentinel, .sentinel, .sentinel, .sentinel, .sentinel, .sentinel, .sentinel], laidTests := true, laidLooks := .later }
def ValueSaysCardSaid : Prop := Claim7.holds Tryd.pinned (.plain (OpenSpec.ofChange valueSaysSpec)) valueSaysCard

/-- THE TIED CARD OF 'sargassolaw20.NotesCap'. -/
def notesCapCard : Claim7 := { stood := { row := notesCapRow, standIns := [], harness := (true, "44c87253b6d1d649ea9f32081a4dd5fbff217aed9ab5f66e5b0991c77eb18b97"), looks := true }, kinds := [], alts := [], laidByText := true, laidKinds := [.sentinel, .sentinel, .sentinel, .sentinel, .sentinel, .sentinel, .sentinel, .sentinel, .sentinel, .sentinel, .sentinel, .sentinel, .sentinel, .sentinel, .sentinel, .sentinel, .sentinel, .sentinel, .sentinel, .sentinel, .sentinel, .sentinel, .sentinel, .sentinel, .sentinel], laidTests := true, laidLooks := .later }
def NotesCapCardSaid : Prop := Claim7.holds Tryd.pinned (.plain (OpenSpec.ofChange notesCapSpec)) notesCapCard

/-- THE TIED CARD OF 'sargassolaw20.NotesPlay'. -/
def notesPlayCard : Claim7 := { stood := { row := notesPlayRow, standIns := [], harness := (true, "44c87253b6d1d649ea9f32081a4dd5fbff217aed9ab5f66e5b0991c77eb18b97"), looks := true }, kinds := [], alts := [], laidByText := true, laidKinds := [.sentinel, .sentinel, .sentinel, .sentinel, .sentinel, .sentinel, .sentinel, .sentinel, .sentinel, .sentinel, .sentinel, .sentinel, .sentinel, .sentinel, .sentinel, .sentinel, .sentinel, .sentinel, .sentinel, .sentinel, .sentinel, .sentinel, .sentinel, .sentinel, .sentinel], laidTests := true, laidLooks := .later }
def NotesPlayCardSaid : Prop := Claim7.holds Tryd.pinned (.plain (OpenSpec.ofChange notesPlaySpec)) notesPlayCard

/-- THE TIED CARD OF 'sargassolaw20.NotesOps'. -/
def notesOpsCard : Claim7 := { stood := { row := notesOpsRow, standIns := [], harness := (true, "44c87253b6d1d649ea9f32081a4dd5fbff217aed9ab5f66e5b0991c77eb18b97"), looks := true }, kinds := [], alts := [], laidByText := true, laidKinds := [.sentinel, .sentinel, .sentinel, .sentinel, .sentinel, .sentinel, .sentinel, .sentinel, .sentinel, .sentinel, .sentinel, .sentinel, .sentinel, .sentinel, .sentinel, .sentinel, .sentinel, .sentinel, .sentinel, .sentinel, .sentinel, .sentinel, .sentinel, .sentinel, .sentinel], laidTests := true, laidLooks := .later }
def NotesOpsCardSaid : Prop := Claim7.holds Tryd.pinned (.plain (OpenSpec.ofChange notesOpsSpec)) notesOpsCard

/-- THE SECOND FORM's CARD OF 'sargassolaw2.CompactBack'. -/
def compactBackUptoCard : Claim7 := { stood := { row := compactBackUptoRow, standIns := [], harness := (true, "44c87253b6d1d649ea9f32081a4dd5fbff217aed9ab5f66e5b0991c77eb18b97"), looks := true }, kinds := [], alts := [], laidByText := true, laidKinds := [.sentinel, .sentinel, .sentinel, .sentinel, .sentinel, .sentinel, .sentinel, .sentinel, .sentinel, .sentinel, .sentinel, .sentinel, .sentinel, .sentinel, .sentinel, .sentinel, .sentinel, .sentinel, .sentinel, .sentinel, .sentinel, .sentinel, .sentinel, .sentinel, .sentinel], laidTests := true, laidLooks := .later }
def CompactBackUptoCardSaid : Prop := Claim7.holds Tryd.pinned (.plain (OpenSpec.upto compactBackSpec)) compactBackUptoCard

/-- THE SECOND FORM's CARD OF 'sargassolaw2.CompactFewest'. -/
def compactFewestUptoCard : Claim7 := { stood := { row := compactFewestUptoRow, standIns := [], harness := (true, "44c87253b6d1d649ea9f32081a4dd5fbff217aed9ab5f66e5b0991c77eb18b97"), looks := true }, kinds := [], alts := [], laidByText := true, laidKinds := [.sentinel, .sentinel, .sentinel, .sentinel, .sentinel, .sentinel, .sentinel, .sentinel, .sentinel, .sentinel, .sentinel, .sentinel, .sentinel, .sentinel, .sentinel, .sentinel, .sentinel, .sentinel, .sentinel, .sentinel, .sentinel, .sentinel, .sentinel, .sentinel, .sentinel], laidTests := true, laidLooks := .later }
def CompactFewestUptoCardSaid : Prop := Claim7.holds Tryd.pinned (.plain (OpenSpec.upto compactFewestSpec)) compactFewestUptoCard

/-- THE SECOND FORM's CARD OF 'sargassolaw2.CompactRows'. -/
def compactRowsUptoCard : Claim7 := { stood := { row := compactRowsUptoRow, standIns := [], harness := (true, "44c87253b6d1d649ea9f32081a4dd5fbff217aed9ab5f66e5b0991c77eb18b97"), looks := true }, kinds := [], alts := [], laidByText := true, laidKinds := [.sentinel, .sentinel, .sentinel], laidTests := true, laidLooks := .later }
def CompactRowsUptoCardSaid : Prop := Claim7.holds Tryd.pinned (.plain (OpenSpec.upto compactRowsSpec)) compactRowsUptoCard

/-- THE SECOND FORM's CARD OF 'sargassolaw2.CompactReads'. -/
def compactReadsUptoCard : Claim7 := { stood := { row := compactReadsUptoRow, standIns := [], harness := (true, "44c87253b6d1d649ea9f32081a4dd5fbff217aed9ab5f66e5b0991c77eb18b97"), looks := true }, kinds := [], alts := [], laidByText := true, laidKinds := [.sentinel, .sentinel, .sentinel, .sentinel, .sentinel, .sentinel, .sentinel, .sentinel, .sentinel, .sentinel, .sentinel, .sentinel, .sentinel, .sentinel, .sentinel, .sentinel, .sentinel, .sentinel, .sentinel, .sentinel, .sentinel, .sentinel, .sentinel, .sentinel, .sentinel], laidTests := true, laidLooks := .later }
def CompactReadsUptoCardSaid : Prop := Claim7.holds Tryd.pinned (.plain (OpenSpec.upto compactReadsSpec)) compactReadsUptoCard

/-- THE SECOND FORM's CARD OF 'sargassolaw2.CompactStops'. -/
def compactStopsUptoCard : Claim7 := { stood := { row := compactStopsUptoRow, standIns := [], harness := (true, "44c87253b6d1d649ea9f32081a4dd5fbff217aed9ab5f66e5b0991c77eb18b97"), looks := true }, kinds := [], alts := [], laidByText := true, laidKinds := [.sentinel, .sentinel, .sentinel, .sentinel, .sentinel, .sentinel, .sentinel, .sentinel, .sentinel, .sentinel, .sentinel, .sentinel, .sentinel, .sentinel, .sentinel, .sentinel, .sentinel, .sentinel, .sentinel, .sentinel, .sentinel, .sentinel, .sentinel, .sentinel, .sentinel], laidTests := true, laidLooks := .later }
def CompactStopsUptoCardSaid : Prop := Claim7.holds Tryd.pinned (.plain (OpenSpec.upto compactStopsSpec)) compactStopsUptoCard

/-- THE SECOND FORM's CARD OF 'sargassolaw4.TxBounds'. -/
def txBoundsUptoCard : Claim7 := { stood := { row := txBoundsUptoRow, standIns := [], harness := (true, "44c87253b6d1d649ea9f32081a4dd5fbff217aed9ab5f66e5b0991c77eb18b97"), looks := true }, kinds := [], alts := [], laidByText := true, laidKinds := [.sentinel, .sentinel, .sentinel, .sentinel, .sentinel, .sentinel, .sentinel, .sentinel, .sentinel, .sentinel, .sentinel, .sentinel, .sentinel, .sentinel, .sentinel, .sentinel, .sentinel, .sentinel, .sentinel, .sentinel, .sentinel, .sentinel, .sentinel, .sentinel, .sentinel], laidTests := true, laidLooks := .later }
def TxBoundsUptoCardSaid : Prop := Claim7.holds Tryd.pinned (.plain (OpenSpec.upto txBoundsSpec)) txBoundsUptoCard

/-- THE SECOND FORM's CARD OF 'sargassolaw4.TxBases'. -/
def txBasesUptoCard : Claim7 := { stood := { row := txBasesUptoRow, standIns := [], harness := (true, "44c87253b6d1d649ea9f32081a4dd5fbff217aed9ab5f66e5b0991c77eb18b97"), looks := true }, kinds := [], alts := [], laidByText := true, laidKinds := [.sentinel, .sentinel, .sentinel, .sentinel, .sentinel, .sentinel, .sentinel, .sentinel, .sentinel, .sentinel, .sentinel, .sentinel, .sentinel, .sentinel, .sentinel, .sentinel, .sentinel, .sentinel, .sentinel, .sentinel, .sentinel, .sentinel, .sentinel, .sentinel, .sentinel], laidTests := true, laidLooks := .later }
def TxBasesUptoCardSaid : Prop := Claim7.holds Tryd.pinned (.plain (OpenSpec.upto txBasesSpec)) txBasesUptoCard

/-- THE SECOND FORM's CARD OF 'sargassolaw4.TxBack'. -/
def txBackUptoCard : Claim7 := { stood := { row := txBackUptoRow, standIns := [], harness := (true, "44c87253b6d1d649ea9f32081a4dd5fbff217aed9ab5f66e5b0991c77eb18b97"), looks := true }, kinds := [], alts := [], laidByText := true, laidKinds := [.sentinel, .sentinel, .sentinel, .sentinel, .sentinel, .sentinel, .sentinel, .sentinel, .sentinel, .sentinel, .sentinel, .sentinel, .sentinel, .sentinel, .sentinel, .sentinel, .sentinel, .sentinel, .sentinel, .sentinel, .sentinel, .sentinel, .sentinel, .sentinel, .sentinel], laidTests := true, laidLooks := .later }
def TxBackUptoCardSaid : Prop := Claim7.holds Tryd.pinned (.plain (OpenSpec.upto txBackSpec)) txBackUptoCard

/-- THE SECOND FORM's CARD OF 'sargassolaw4.TxSizes'. -/
def txSizesUptoCard : Claim7 := { stood := { row := txSizesUptoRow, standIns := [], harness := (true, "44c87253b6d1d649ea9f32081a4dd5fbff217aed9ab5f66e5b0991c77eb18b97"), looks := true }, kinds := [], alts := [], laidByText := true, laidKinds := [.sentinel, .sentinel, .sentinel, .sentinel, .sentinel, .sentinel, .sentinel, .sentinel], laidTests := true, laidLooks := .later }
def TxSizesUptoCardSaid : Prop := Claim7.holds Tryd.pinned (.plain (OpenSpec.upto txSizesSpec)) txSizesUptoCard

/-- THE SECOND FORM's CARD OF 'sargassolaw4.TxTurned'. -/
def txTurnedUptoCard : Claim7 := { stood := { row := txTurnedUptoRow, standIns := [], harness := (true, "44c87253b6d1d649ea9f32081a4dd5fbff217aed9ab5f66e5b0991c77eb18b97"), looks := true }, kinds := [], alts := [], laidByText := true, laidKinds := [.sentinel, .sentinel, .sentinel, .sentinel, .sentinel, .sentinel, .sentinel, .sentinel], laidTests := true, laidLooks := .later }
def TxTurnedUptoCardSaid : Prop := Claim7.holds Tryd.pinned (.plain (OpenSpec.upto txTurnedSpec)) txTurnedUptoCard

/-- THE SECOND FORM's CARD OF 'sargassolaw4.TxSays'. -/
def txSaysUptoCard : Claim7 := { stood := { row := txSaysUptoRow, standIns := [], harness := (true, "44c87253b6d1d649ea9f32081a4dd5fbff217aed9ab5f66e5b0991c77eb18b97"), looks := true }, kinds := [], alts := [], laidByText := true, laidKinds := [.sentinel, .sentinel, .sentinel, .sentinel, .sentinel, .sentinel, .sentinel, .sentinel, .sentinel, .sentinel, .sentinel, .sentinel, .sentinel, .sentinel, .sentinel, .sentinel, .sentinel, .sentinel, .sentinel, .sentinel, .sentinel, .sentinel, .sentinel, .sentinel, .sentinel], laidTests := true, laidLooks := .later }
def TxSaysUptoCardSaid : Prop := Claim7.holds Tryd.pinned (.plain (OpenSpec.upto txSaysSpec)) txSaysUptoCard

/-- THE SECOND FORM's CARD OF 'sargassolaw5.HeadWork'. -/
def headWorkUptoCard : Claim7 := { stood := { row := headWorkUptoRow, standIns := [], harness := (true, "44c87253b6d1d649ea9f32081a4dd5fbff217aed9ab5f66e5b0991c77eb18b97"), looks := true }, kinds := [], alts := [], laidByText := true, laidKinds := [.sentinel], laidTests := true, laidLooks := .later }
def HeadWorkUptoCardSaid : Prop := Claim7.holds Tryd.pinned (.plain (OpenSpec.upto headWorkSpec)) headWorkUptoCard

/-- THE SECOND FORM's CARD OF 'sargassolaw5.HeadBack'. -/
def headBackUptoCard : Claim7 := { stood := { row := headBackUptoRow, standIns := [], harness := (true, "44c87253b6d1d649ea9f32081a4dd5fbff217aed9ab5f66e5b0991c77eb18b97"), looks := true }, kinds := [], alts := [], laidByText := true, laidKinds := [.sentinel, .sentinel, .sentinel, .sentinel, .sentinel, .sentinel, .sentinel, .sentinel, .sentinel, .sentinel, .sentinel, .sentinel, .sentinel, .sentinel, .sentinel, .sentinel, .sentinel, .sentinel, .sentinel, .sentinel, .sentinel, .sentinel, .sentinel, .sentinel, .sentinel], laidTests := true, laidLooks := .later }
def HeadBackUptoCardSaid : Prop := Claim7.holds Tryd.pinned (.plain (OpenSpec.upto headBackSpec)) headBackUptoCard

/-- THE SECOND FORM's CARD OF 'sargassolaw15.ValueRules'. -/
def valueRulesUptoCard : Claim7 := { stood := { row := valueRulesUptoRow, standIns := [], harness := (true, "44c87253b6d1d649ea9f32081a4dd5fbff217aed9ab5f66e5b0991c77eb18b97"), looks := true }, kinds := [], alts := [], laidByText := true, laidKinds := [.sentinel, .sentinel, .sentinel, .sentinel, .sentinel, .sentinel, .sentinel, .sentinel, .sentinel, .sentinel, .sentinel, .sentinel, .sentinel, .sentinel, .sentinel, .sentinel, .sentinel, .sentinel, .sentinel, .sentinel, .sentinel, .sentinel, .sentinel, .sentinel, .sentinel], laidTests := true, laidLooks := .later }
def ValueRulesUptoCardSaid : Prop := Claim7.holds Tryd.pinned (.plain (OpenSpec.upto valueRulesSpec)) valueRulesUptoCard

/-- THE SECOND FORM's CARD OF 'sargassolaw15.ValueKeeps'. -/
def valueKeepsUptoCard : Claim7 := { stood := { row := valueKeepsUptoRow, standIns := [], harness := (true, "44c87253b6d1d649ea9f32081a4dd5fbff217aed9ab5f66e5b0991c77eb18b97"), looks := true }, kinds := [], alts := [], laidByText := true, laidKinds := [.sentinel, .sentinel, .sentinel, .sentinel, .sentinel, .sentinel, .sentinel, .sentinel, .sentinel, .sentinel, .sentinel, .sentinel, .sentinel, .sentinel, .sentinel, .sentinel, .sentinel, .sentinel, .sentinel, .sentinel, .sentinel, .sentinel, .sentinel, .sentinel, .sentinel], laidTests := true, laidLooks := .later }
def ValueKeepsUptoCardSaid : Prop := Claim7.holds Tryd.pinned (.plain (OpenSpec.upto valueKeepsSpec)) valueKeepsUptoCard

/-- THE SECOND FORM's CARD OF 'sargassolaw15.ValueSays'. -/
def valueSaysUptoCard : Claim7 := { stood := { row := valueSaysUptoRow, standIns := [], harness := (true, "44c87253b6d1d649ea9f32081a4dd5fbff217aed9ab5f66e5b0991c77eb18b97"), looks := true }, kinds := [], alts := [], laidByText := true, laidKinds := [.sentinel, .sentinel, .sentinel, .sentinel, .sentinel, .sentinel, .sentinel, .sentinel, .sentinel, .sentinel, .sentinel, .sentinel, .sentinel, .sentinel, .sentinel, .sentinel, .sentinel, .sentinel, .sentinel, .sentinel, .sentinel, .sentinel, .sentinel, .sentinel, .sentinel], laidTests := true, laidLooks := .later }
def ValueSaysUptoCardSaid : Prop := Claim7.holds Tryd.pinned (.plain (OpenSpec.upto valueSaysSpec)) valueSaysUptoCard

/-- THE SECOND FORM's CARD OF 'sargassolaw20.NotesCap'. -/
def notesCapUptoCard : Claim7 := { stood := { row := notesCapUptoRow, standIns := [], harness := (true, "44c87253b6d1d649ea9f32081a4dd5fbff217aed9ab5f66e5b0991c77eb18b97"), looks := true }, kinds := [], alts := [], laidByText := true, laidKinds := [.sentinel, .sentinel, .sentinel, .sentinel, .sentinel, .sentinel, .sentinel, .sentinel, .sentinel, .sentinel, .sentinel, .sentinel, .sentinel, .sentinel, .sentinel, .sentinel, .sentinel, .sentinel, .sentinel, .sentinel, .sentinel, .sentinel, .sentinel, .sentinel, .sentinel], laidTests := true, laidLooks := .later }
def NotesCapUptoCardSaid : Prop := Claim7.holds Tryd.pinned (.plain (OpenSpec.upto notesCapSpec)) notesCapUptoCard

/-- THE SECOND FORM's CARD OF 'sargassolaw20.NotesPlay'. -/
def notesPlayUptoCard : Claim7 := { stood := { row := notesPlayUptoRow, standIns := [], harness := (true, "44c87253b6d1d649ea9f32081a4dd5fbff217aed9ab5f66e5b0991c77eb18b97"), looks := true }, kinds := [], alts := [], laidByText := true, laidKinds := [.sentinel, .sentinel, .sentinel, .sentinel, .sentinel, .sentinel, .sentinel, .sentinel, .sentinel, .sentinel, .sentinel, .sentinel, .sentinel, .sentinel, .sentinel, .sentinel, .sentinel, .sentinel, .sentinel, .sentinel, .sentinel, .sentinel, .sentinel, .sentinel, .sentinel], laidTests := true, laidLooks := .later }
def NotesPlayUptoCardSaid : Prop := Claim7.holds Tryd.pinned (.plain (OpenSpec.upto notesPlaySpec)) notesPlayUptoCard

/-- THE SECOND FORM's CARD OF 'sargassolaw20.NotesOps'. -/
def notesOpsUptoCard : Claim7 := { stood := { row := notesOpsUptoRow, standIns := [], harness := (true, "44c87253b6d1d649ea9f32081a4dd5fbff217aed9ab5f66e5b0991c77eb18b97"), looks := true }, kinds := [], alts := [], laidByText := true, laidKinds := [.sentinel, .sentinel, .sentinel, .sentinel, .sentinel, .sentinel, .sentinel, .sentinel, .sentinel, .sentinel, .sentinel, .sentinel, .sentinel, .sentinel, .sentinel, .sentinel, .sentinel, .sentinel, .sentinel, .sentinel, .sentinel, .sentinel, .sentinel, .sentinel, .sentinel], laidTests := true, laidLooks := .later }
def NotesOpsUptoCardSaid : Prop := Claim7.holds Tryd.pinned (.plain (OpenSpec.upto notesOpsSpec)) notesOpsUptoCard
end Rows
end Go.Proofs.YtpeelghbhihgkaaDoor
