/-
  DERIVED. GIVEN WITH THE SEED: THE CARDS: each row of YtdngkgkkblfcjaaDoorRows.lean that lists a variable, with what it lists TIED to the program's text (the seventh form; the later family's looks); each row that meets fmt, with fmt's text TOLD by the authors' own Lean function (tested against real Go, not proved from fmt's source: count such statements apart). THE CARD IS WHAT COUNTS. Prove the row's statement (the work); the ties are given (YtdngkgkkblfcjaaDoorTie.lean); close each card by the builder's one call (the guide's Derived/Test/ToyasCard.lean, 'card_holds'). Laid BY PROGRAM, IN A SANDBOX (cutbox-door.mjs). By AI agents, Wed Nov 11 2026. No macro, syntax, notation, axiom, sorry.
-/
import Derived.Test.YtdngkgkkblfcjaaDoorRows
import GoSem.ClaimSeven
namespace Go.Proofs.YtdngkgkkblfcjaaDoor
namespace Rows

/-- THE TIED CARD OF 'sargassolaw7.BlockKinds'. -/
def blockKindsCard : Claim7 := { stood := { row := blockKindsRow, standIns := [], harness := (true, "d889ab0180b35f7dfdfb2bf9e438bf807bf16e9bf66438142aa2770c9f7a0ab8"), looks := true }, kinds := [], alts := [], laidByText := true, laidKinds := [.sentinel, .sentinel, .sentinel, .sentinel, .sentinel, .sentinel, .sentinel, .sentinel, .sentinel, .sentinel, .sentinel, .sentinel, .sentinel, .sentinel, .sentinel, .sentinel, .sentinel, .sentinel, .sentinel, .sentinel, .sentinel, .sentinel, .sentinel, .sentinel, .sentinel], laidTests := true, laidLooks := .later }
def BlockKindsCardSaid : Prop := Claim7.holds Tryd.pinned (.plain (OpenSpec.ofChange blockKindsSpec)) blockKindsCard

/-- THE TIED CARD OF 'sargassolaw11.TreeWays'. -/
def treeWaysCard : Claim7 := { stood := { row := treeWaysRow, standIns := [], harness := (true, "d889ab0180b35f7dfdfb2bf9e438bf807bf16e9bf66438142aa2770c9f7a0ab8"), looks := true }, kinds := [], alts := [], laidByText := true, laidKinds := [.sentinel, .sentinel, .sentinel], laidTests := true, laidLooks := .later }
def TreeWaysCardSaid : Prop := Claim7.holds Tryd.pinned (.plain (OpenSpec.ofChange treeWaysSpec)) treeWaysCard

/-- THE TIED CARD OF 'sargassolaw13.BestOver'. -/
def bestOverCard : Claim7 := { stood := { row := bestOverRow, standIns := [], harness := (true, "d889ab0180b35f7dfdfb2bf9e438bf807bf16e9bf66438142aa2770c9f7a0ab8"), looks := true }, kinds := [], alts := [], laidByText := true, laidKinds := [.sentinel, .sentinel, .sentinel], laidTests := true, laidLooks := .later }
def BestOverCardSaid : Prop := Claim7.holds Tryd.pinned (.plain (OpenSpec.ofChange bestOverSpec)) bestOverCard

/-- THE TIED CARD OF 'sargassolaw13.BestGoes'. -/
def bestGoesCard : Claim7 := { stood := { row := bestGoesRow, standIns := [], harness := (true, "d889ab0180b35f7dfdfb2bf9e438bf807bf16e9bf66438142aa2770c9f7a0ab8"), looks := true }, kinds := [], alts := [], laidByText := true, laidKinds := [.sentinel, .sentinel, .sentinel], laidTests := true, laidLooks := .later }
def BestGoesCardSaid : Prop := Claim7.holds Tryd.pinned (.plain (OpenSpec.ofChange bestGoesSpec)) bestGoesCard

/-- THE SECOND FORM's CARD OF 'sargassolaw7.BlockKinds'. -/
def blockKindsUptoCard : Claim7 := { stood := { row := blockKindsUptoRow, standIns := [], harness := (true, "d889ab0180b35f7dfdfb2bf9e438bf807bf16e9bf66438142aa2770c9f7a0ab8"), looks := true }, kinds := [], alts := [], laidByText := true, laidKinds := [.sentinel, .sentinel, .sentinel, .sentinel, .sentinel, .sentinel, .sentinel, .sentinel, .sentinel, .sentinel, .sentinel, .sentinel, .sentinel, .sentinel, .sentinel, .sentinel, .sentinel, .sentinel, .sentinel, .sentinel, .sentinel, .sentinel, .sentinel, .sentinel, .sentinel], laidTests := true, laidLooks := .later }
def BlockKindsUptoCardSaid : Prop := Claim7.holds Tryd.pinned (.plain (OpenSpec.upto blockKindsSpec)) blockKindsUptoCard

/-- THE SECOND FORM's CARD OF 'sargassolaw11.TreeWays'. -/
def treeWaysUptoCard : Claim7 := { stood := { row := treeWaysUptoRow, standIns := [], harness := (true, "d889ab0180b35f7dfdfb2bf9e438bf807bf16e9bf66438142aa2770c9f7a0ab8"), looks := true }, kinds := [], alts := [], laidByText := true, laidKinds := [.sentinel, .sentinel, .sentinel], laidTests := true, laidLooks := .later }
def TreeWaysUptoCardSaid : Prop := Claim7.holds Tryd.pinned (.plain (OpenSpec.upto treeWaysSpec)) treeWaysUptoCard

/-- THE SECOND FORM's CARD OF 'sargassolaw13.BestOver'. -/
def bestOverUptoCard : Claim7 := { stood := { row := bestOverUptoRow, standIns := [], harness := (true, "d889ab0180b35f7dfdfb2bf9e438bf807bf16e9bf66438142aa2770c9f7a0ab8"), looks := true }, kinds := [], alts := [], laidByText := true, laidKinds := [.sentinel, .sentinel, .sentinel], laidTests := true, laidLooks := .later }
def BestOverUptoCardSaid : Prop := Claim7.holds Tryd.pinned (.plain (OpenSpec.upto bestOverSpec)) bestOverUptoCard

/-- THE SECOND FORM's CARD OF 'sargassolaw13.BestGoes'. -/
def bestGoesUptoCard : Claim7 := { stood := { row := bestGoesUptoRow, standIns := [], harness := (true, "d889ab0180b35f7dfdfb2bf9e438bf807bf16e9bf66438142aa2770c9f7a0ab8"), looks := true }, kinds := [], alts := [], laidByText := true, laidKinds := [.sentinel, .sentinel, .sentinel], laidTests := true, laidLooks := .later }
def BestGoesUptoCardSaid : Prop := Claim7.holds Tryd.pinned (.plain (OpenSpec.upto bestGoesSpec)) bestGoesUptoCard
end Rows
end Go.Proofs.YtdngkgkkblfcjaaDoor
