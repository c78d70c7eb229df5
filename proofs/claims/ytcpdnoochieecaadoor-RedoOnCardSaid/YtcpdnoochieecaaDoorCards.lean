/-
  DERIVED. GIVEN WITH THE SEED: THE CARDS: each row of YtcpdnoochieecaaDoorRows.lean that lists a variable, with what it lists TIED to the program's text (the seventh form; the later family's looks); each row that meets fmt, with fmt's text TOLD by the authors' own Lean function (tested against real Go, not proved from fmt's source: count such statements apart). THE CARD IS WHAT COUNTS. Prove the row's statement (the work); the ties are given (YtcpdnoochieecaaDoorTie.lean); close each card by the builder's one call (the guide's Derived/Test/ToyasCard.lean, 'card_holds'). Laid BY PROGRAM, IN A SANDBOX (cutbox-door.mjs). By AI agents, Wed Nov 11 2026. No macro, syntax, notation, axiom, sorry.
-/
import Derived.Test.YtcpdnoochieecaaDoorRows
import GoSem.ClaimSeven
namespace Go.Proofs.YtcpdnoochieecaaDoor
namespace Rows

/-- THE TIED CARD OF 'sargassolaw7.BlockKinds'. -/
def blockKindsCard : Claim7 := { stood := { row := blockKindsRow, standIns := [], harness := (true, "894e04713d923bfb27bfa877465f2247fd58ab7820fef678bf1ba1207daf709b"), looks := true }, kinds := [], alts := [], laidByText := true, laidKinds := [.sentinel, .sentinel, .sentinel, .sentinel, .sentinel, .sentinel, .sentinel, .sentinel, .sentinel, .sentinel, .sentinel, .sentinel, .sentinel, .sentinel, .sentinel, .sentinel, .sentinel, .sentinel, .sentinel, .sentinel, .sentinel, .sentinel, .sentinel, .sentinel, .sentinel], laidTests := true, laidLooks := .later }
def BlockKindsCardSaid : Prop := Claim7.holds Tryd.pinned (.plain (OpenSpec.ofChange blockKindsSpec)) blockKindsCard

/-- THE TIED CARD OF 'sargassolaw11.TreeWays'. -/
def treeWaysCard : Claim7 := { stood := { row := treeWaysRow, standIns := [], harness := (true, "894e04713d923bfb27bfa877465f2247fd58ab7820fef678bf1ba1207daf709b"), looks := true }, kinds := [], alts := [], laidByText := true, laidKinds := [.sentinel, .sentinel, .sentinel], laidTests := true, laidLooks := .later }
def TreeWaysCardSaid : Prop := Claim7.holds Tryd.pinned (.plain (OpenSpec.ofChange treeWaysSpec)) treeWaysCard

/-- THE TIED CARD OF 'sargassolaw20.NotesCap'. -/
def notesCapCard : Claim7 := { stood := { row := notesCapRow, standIns := [], harness := (true, "894e04713d923bfb27bfa877465f2247fd58ab7820fef678bf1ba1207daf709b"), looks := true }, kinds := [], alts := [], laidByText := true, laidKinds := [.sentinel, .sentinel, .sentinel, .sentinel, .sentinel, .sentinel, .sentinel, .sentinel, .sentinel, .sentinel, .sentinel, .sentinel, .sentinel, .sentinel, .sentinel, .sentinel, .sentinel, .sentinel, .sentinel, .sentinel, .sentinel, .sentinel, .sentinel, .sentinel, .sentinel], laidTests := true, laidLooks := .later }
def NotesCapCardSaid : Prop := Claim7.holds Tryd.pinned (.plain (OpenSpec.ofChange notesCapSpec)) notesCapCard

/-- THE TIED CARD OF 'sargassolaw20.NotesPlay'. -/
def notesPlayCard : Claim7 := { stood := { row := notesPlayRow, standIns := [], harness := (true, "894e04713d923bfb27bfa877465f2247fd58ab7820fef678bf1ba1207daf709b"), looks := true }, kinds := [], alts := [], laidByText := true, laidKinds := [.sentinel, .sentinel, .sentinel, .sentinel, .sentinel, .sentinel, .sentinel, .sentinel, .sentinel, .sentinel, .sentinel, .sentinel, .sentinel, .sentinel, .sentinel, .sentinel, .sentinel, .sentinel, .sentinel, .sentinel, .sentinel, .sentinel, .sentinel, .sentinel, .sentinel], laidTests := true, laidLooks := .later }
def NotesPlayCardSaid : Prop := Claim7.holds Tryd.pinned (.plain (OpenSpec.ofChange notesPlaySpec)) notesPlayCard

/-- THE TIED CARD OF 'sargassolaw20.NotesOps'. -/
def notesOpsCard : Claim7 := { stood := { row := notesOpsRow, standIns := [], harness := (true, "894e04713d923bfb27bfa877465f2247fd58ab7820fef678bf1ba1207daf709b"), looks := true }, kinds := [], alts := [], laidByText := true, laidKinds := [.sentinel, .sentinel, .sentinel, .sentinel, .sentinel, .sentinel, .sentinel, .sentinel, .sentinel, .sentinel, .sentinel, .sentinel, .sentinel, .sentinel, .sentinel, .sentinel, .sentinel, .sentinel, .sentinel, .sentinel, .sentinel, .sentinel, .sentinel, .sentinel, .sentinel], laidTests := true, laidLooks := .later }
def NotesOpsCardSaid : Prop := Claim7.holds Tryd.pinned (.plain (OpenSpec.ofChange notesOpsSpec)) notesOpsCard

/-- THE TIED CARD OF 'sargassolaw24.RedoOrder'. -/
def redoOrderCard : Claim7 := { stood := { row := redoOrderRow, standIns := [], harness := (true, "894e04713d923bfb27bfa877465f2247fd58ab7820fef678bf1ba1207daf709b"), looks := true }, kinds := [], alts := [], laidByText := true, laidKinds := [.sentinel], laidTests := true, laidLooks := .later }
def RedoOrderCardSaid : Prop := Claim7.holds Tryd.pinned (.plain (OpenSpec.ofChange redoOrderSpec)) redoOrderCard

/-- THE TIED CARD OF 'sargassolaw24.RedoOn'. -/
def redoOnCard : Claim7 := { stood := { row := redoOnRow, standIns := [], harness := (true, "894e04713d923bfb27bfa877465f2247fd58ab7820fef678bf1ba1207daf709b"), looks := true }, kinds := [], alts := [], laidByText := true, laidKinds := [.sentinel], laidTests := true, laidLooks := .later }
def RedoOnCardSaid : Prop := Claim7.holds Tryd.pinned (.plain (OpenSpec.ofChange redoOnSpec)) redoOnCard

/-- THE SECOND FORM's CARD OF 'sargassolaw7.BlockKinds'. -/
def blockKindsUptoCard : Claim7 := { stood := { row := blockKindsUptoRow, standIns := [], harness := (true, "894e04713d923bfb27bfa877465f2247fd58ab7820fef678bf1ba1207daf709b"), looks := true }, kinds := [], alts := [], laidByText := true, laidKinds := [.sentinel, .sentinel, .sentinel, .sentinel, .sentinel, .sentinel, .sentinel, .sentinel, .sentinel, .sentinel, .sentinel, .sentinel, .sentinel, .sentinel, .sentinel, .sentinel, .sentinel, .sentinel, .sentinel, .sentinel, .sentinel, .sentinel, .sentinel, .sentinel, .sentinel], laidTests := true, laidLooks := .later }
def BlockKindsUptoCardSaid : Prop := Claim7.holds Tryd.pinned (.plain (OpenSpec.upto blockKindsSpec)) blockKindsUptoCard

/-- THE SECOND FORM's CARD OF 'sargassolaw11.TreeWays'. -/
def treeWaysUptoCard : Claim7 := { stood := { row := treeWaysUptoRow, standIns := [], harness := (true, "894e04713d923bfb27bfa877465f2247fd58ab7820fef678bf1ba1207daf709b"), looks := true }, kinds := [], alts := [], laidByText := true, laidKinds := [.sentinel, .sentinel, .sentinel], laidTests := true, laidLooks := .later }
def TreeWaysUptoCardSaid : Prop := Claim7.holds Tryd.pinned (.plain (OpenSpec.upto treeWaysSpec)) treeWaysUptoCard

/-- THE SECOND FORM's CARD OF 'sargassolaw20.NotesCap'. -/
def notesCapUptoCard : Claim7 := { stood := { row := notesCapUptoRow, standIns := [], harness := (true, "894e04713d923bfb27bfa877465f2247fd58ab7820fef678bf1ba1207daf709b"), looks := true }, kinds := [], alts := [], laidByText := true, laidKinds := [.sentinel, .sentinel, .sentinel, .sentinel, .sentinel, .sentinel, .sentinel, .sentinel, .sentinel, .sentinel, .sentinel, .sentinel, .sentinel, .sentinel, .sentinel, .sentinel, .sentinel, .sentinel, .sentinel, .sentinel, .sentinel, .sentinel, .sentinel, .sentinel, .sentinel], laidTests := true, laidLooks := .later }
def NotesCapUptoCardSaid : Prop := Claim7.holds Tryd.pinned (.plain (OpenSpec.upto notesCapSpec)) notesCapUptoCard

/-- THE SECOND FORM's CARD OF 'sargassolaw20.NotesPlay'. -/
def notesPlayUptoCard : Claim7 := { stood := { row := notesPlayUptoRow, standIns := [], harness := (true, "894e04713d923bfb27bfa877465f2247fd58ab7820fef678bf1ba1207daf709b"), looks := true }, kinds := [], alts := [], laidByText := true, laidKinds := [.sentinel, .sentinel, .sentinel, .sentinel, .sentinel, .sentinel, .sentinel, .sentinel, .sentinel, .sentinel, .sentinel, .sentinel, .sentinel, .sentinel, .sentinel, .sentinel, .sentinel, .sentinel, .sentinel, .sentinel, .sentinel, .sentinel, .sentinel, .sentinel, .sentinel], laidTests := true, laidLooks := .later }
def NotesPlayUptoCardSaid : Prop := Claim7.holds Tryd.pinned (.plain (OpenSpec.upto notesPlaySpec)) notesPlayUptoCard

/-- THE SECOND FORM's CARD OF 'sargassolaw20.NotesOps'. -/
def notesOpsUptoCard : Claim7 := { stood := { row := notesOpsUptoRow, standIns := [], harness := (true, "894e04713d923bfb27bfa877465f2247fd58ab7820fef678bf1ba1207daf709b"), looks := true }, kinds := [], alts := [], laidByText := true, laidKinds := [.sentinel, .sentinel, .sentinel, .sentinel, .sentinel, .sentinel, .sentinel, .sentinel, .sentinel, .sentinel, .sentinel, .sentinel, .sentinel, .sentinel, .sentinel, .sentinel, .sentinel, .sentinel, .sentinel, .sentinel, .sentinel, .sentinel, .sentinel, .sentinel, .sentinel], laidTests := true, laidLooks := .later }
def NotesOpsUptoCardSaid : Prop := Claim7.holds Tryd.pinned (.plain (OpenSpec.upto notesOpsSpec)) notesOpsUptoCard

/-- THE SECOND FORM's CARD OF 'sargassolaw24.RedoOrder'. -/
def redoOrderUptoCard : Claim7 := { stood := { row := redoOrderUptoRow, standIns := [], harness := (true, "894e04713d923bfb27bfa877465f2247fd58ab7820fef678bf1ba1207daf709b"), looks := true }, kinds := [], alts := [], laidByText := true, laidKinds := [.sentinel], laidTests := true, laidLooks := .later }
def RedoOrderUptoCardSaid : Prop := Claim7.holds Tryd.pinned (.plain (OpenSpec.upto redoOrderSpec)) redoOrderUptoCard

/-- THE SECOND FORM's CARD OF 'sargassolaw24.RedoOn'. -/
def redoOnUptoCard : Claim7 := { stood := { row := redoOnUptoRow, standIns := [], harness := (true, "894e04713d923bfb27bfa877465f2247fd58ab7820fef678bf1ba1207daf709b"), looks := true }, kinds := [], alts := [], laidByText := true, laidKinds := [.sentinel], laidTests := true, laidLooks := .later }
def RedoOnUptoCardSaid : Prop := Claim7.holds Tryd.pinned (.plain (OpenSpec.upto redoOnSpec)) redoOnUptoCard
end Rows
end Go.Proofs.YtcpdnoochieecaaDoor
