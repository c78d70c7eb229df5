/-
  DERIVED. GIVEN WITH THE SEED: THE CARDS: each row of YticejmbhhehfdaaGreatDoorRows.lean that lists a variable, with what it lists TIED to the program's text (the seventh form; the later family's looks); each row that meets fmt, with fmt's text TOLD by the authors' own Lean function (tested against real Go, not proved from fmt's source: count such statements apart). THE CARD IS WHAT COUNTS. Prove the row's statement (the work); the ties are given (YticejmbhhehfdaaGreatDoorTie.lean); close each card by the builder's one call (the guide's Derived/Test/ToyasCard.lean, 'card_holds'). Laid BY PROGRAM, IN A SANDBOX (cutbox-door.mjs). By AI agents, Wed Nov 11 2026. No macro, syntax, notation, axiom, sorry.
-/
import Derived.Test.YticejmbhhehfdaaGreatDoorRows
import GoSem.ClaimSeven
namespace Go.Proofs.YticejmbhhehfdaaGreatDoor
namespace Rows

/-- THE TIED CARD OF 'sargassolaw7.BlockSays'. -/
def blockSaysCard : Claim7 := { stood := { row := blockSaysRow, standIns := [], harness := (true, "3625c5ee343a4dcbc44d2839350c9f6547aa34fb51e4e49638d0175c70bb2875"), looks := true }, kinds := [], alts := [], laidByText := true, laidKinds := [.sentinel, .sentinel, .sentinel, .sentinel, .sentinel, .sentinel, .sentinel, .sentinel, .sentinel, .sentinel, .sentinel, .sentinel, .sentinel, .sentinel, .sentinel, .sentinel, .sentinel, .sentinel, .sentinel, .sentinel, .sentinel, .sentinel, .sentinel, .sentinel, .sentinel], laidTests := true, laidLooks := .later }
def BlockSaysCardSaid : Prop := Claim7.holds Tryz.pinned (.plain (OpenSpec.ofChange blockSaysSpec)) blockSaysCard

/-- THE SECOND FORM's CARD OF 'sargassolaw7.BlockSays'. -/
def blockSaysUptoCard : Claim7 := { stood := { row := blockSaysUptoRow, standIns := [], harness := (true, "3625c5ee343a4dcbc44d2839350c9f6547aa34fb51e4e49638d0175c70bb2875"), looks := true }, kinds := [], alts := [], laidByText := true, laidKinds := [.sentinel, .sentinel, .sentinel, .sentinel, .sentinel, .sentinel, .sentinel, .sentinel, .sentinel, .sentinel, .sentinel, .sentinel, .sentinel, .sentinel, .sentinel, .sentinel, .sentinel, .sentinel, .sentinel, .sentinel, .sentinel, .sentinel, .sentinel, .sentinel, .sentinel], laidTests := true, laidLooks := .later }
def BlockSaysUptoCardSaid : Prop := Claim7.holds Tryz.pinned (.plain (OpenSpec.upto blockSaysSpec)) blockSaysUptoCard
end Rows
end Go.Proofs.YticejmbhhehfdaaGreatDoor
