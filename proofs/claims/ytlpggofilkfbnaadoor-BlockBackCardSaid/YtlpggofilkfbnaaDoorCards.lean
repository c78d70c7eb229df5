/-
  DERIVED. GIVEN WITH THE SEED: THE CARDS: each row of YtlpggofilkfbnaaDoorRows.lean that lists a variable, with what it lists TIED to the program's text (the seventh form; the later family's looks); each row that meets fmt, with fmt's text TOLD by the authors' own Lean function (tested against real Go, not proved from fmt's source: count such statements apart). THE CARD IS WHAT COUNTS. Prove the row's statement (the work); the ties are given (YtlpggofilkfbnaaDoorTie.lean); close each card by the builder's one call (the guide's Derived/Test/ToyasCard.lean, 'card_holds'). Laid BY PROGRAM, IN A SANDBOX (cutbox-door.mjs). By AI agents, Wed Nov 11 2026. No macro, syntax, notation, axiom, sorry.
-/
import Derived.Test.YtlpggofilkfbnaaDoorRows
import GoSem.ClaimSeven
namespace Go.Proofs.YtlpggofilkfbnaaDoor
namespace Rows

/-- THE TIED CARD OF 'sargassolaw7.BlockFirst'. -/
def blockFirstCard : Claim7 := { stood := { row := blockFirstRow, standIns := [], harness := (true, "570084c964d757cb9cf3ca22c3b2192bb755117f75e05724e6f174531d1bcd24"), looks := true }, kinds := [], alts := [], laidByText := true, laidKinds := [.sentinel, .sentinel, .sentinel, .sentinel, .sentinel, .sentinel, .sentinel, .sentinel], laidTests := true, laidLooks := .later }
def BlockFirstCardSaid : Prop := Claim7.holds Tryd.pinned (.plain (OpenSpec.ofChange blockFirstSpec)) blockFirstCard

/-- THE TIED CARD OF 'sargassolaw7.BlockKinds'. -/
def blockKindsCard : Claim7 := { stood := { row := blockKindsRow, standIns := [], harness := (true, "570084c964d757cb9cf3ca22c3b2192bb755117f75e05724e6f174531d1bcd24"), looks := true }, kinds := [], alts := [], laidByText := true, laidKinds := [.sentinel, .sentinel, .sentinel, .sentinel, .sentinel, .sentinel, .sentinel, .sentinel, .sentinel, .sentinel, .sentinel, .sentinel, .sentinel, .sentinel, .sentinel, .sentinel, .sentinel, .sentinel, .sentinel, .sentinel, .sentinel, .sentinel, .sentinel, .sentinel, .sentinel], laidTests := true, laidLooks := .later }
def BlockKindsCardSaid : Prop := Claim7.holds Tryd.pinned (.plain (OpenSpec.ofChange blockKindsSpec)) blockKindsCard

/-- THE TIED CARD OF 'sargassolaw7.BlockStart'. -/
def blockStartCard : Claim7 := { stood := { row := blockStartRow, standIns := [], harness := (true, "570084c964d757cb9cf3ca22c3b2192bb755117f75e05724e6f174531d1bcd24"), looks := true }, kinds := [], alts := [], laidByText := true, laidKinds := [.sentinel, .sentinel, .sentinel, .sentinel, .sentinel, .sentinel, .sentinel, .sentinel], laidTests := true, laidLooks := .later }
def BlockStartCardSaid : Prop := Claim7.holds Tryd.pinned (.plain (OpenSpec.ofChange blockStartSpec)) blockStartCard

/-- THE TIED CARD OF 'sargassolaw7.BlockBack'. -/
def blockBackCard : Claim7 := { stood := { row := blockBackRow, standIns := [], harness := (true, "570084c964d757cb9cf3ca22c3b2192bb755117f75e05724e6f174531d1bcd24"), looks := true }, kinds := [], alts := [], laidByText := true, laidKinds := [.sentinel, .sentinel, .sentinel, .sentinel, .sentinel, .sentinel, .sentinel, .sentinel, .sentinel, .sentinel, .sentinel, .sentinel, .sentinel, .sentinel, .sentinel, .sentinel, .sentinel, .sentinel, .sentinel, .sentinel, .sentinel, .sentinel, .sentinel, .sentinel, .sentinel], laidTests := true, laidLooks := .later }
def BlockBackCardSaid : Prop := Claim7.holds Tryd.pinned (.plain (OpenSpec.ofChange blockBackSpec)) blockBackCard

/-- THE SECOND FORM's CARD OF 'sargassolaw7.BlockFirst'. -/
def blockFirstUptoCard : Claim7 := { stood := { row := blockFirstUptoRow, standIns := [], harness := (true, "570084c964d757cb9cf3ca22c3b2192bb755117f75e05724e6f174531d1bcd24"), looks := true }, kinds := [], alts := [], laidByText := true, laidKinds := [.sentinel, .sentinel, .sentinel, .sentinel, .sentinel, .sentinel, .sentinel, .sentinel], laidTests := true, laidLooks := .later }
def BlockFirstUptoCardSaid : Prop := Claim7.holds Tryd.pinned (.plain (OpenSpec.upto blockFirstSpec)) blockFirstUptoCard

/-- THE SECOND FORM's CARD OF 'sargassolaw7.BlockKinds'. -/
def blockKindsUptoCard : Claim7 := { stood := { row := blockKindsUptoRow, standIns := [], harness := (true, "570084c964d757cb9cf3ca22c3b2192bb755117f75e05724e6f174531d1bcd24"), looks := true }, kinds := [], alts := [], laidByText := true, laidKinds := [.sentinel, .sentinel, .sentinel, .sentinel, .sentinel, .sentinel, .sentinel, .sentinel, .sentinel, .sentinel, .sentinel, .sentinel, .sentinel, .sentinel, .sentinel, .sentinel, .sentinel, .sentinel, .sentinel, .sentinel, .sentinel, .sentinel, .sentinel, .sentinel, .sentinel], laidTests := true, laidLooks := .later }
def BlockKindsUptoCardSaid : Prop := Claim7.holds Tryd.pinned (.plain (OpenSpec.upto blockKindsSpec)) blockKindsUptoCard

/-- THE SECOND FORM's CARD OF 'sargassolaw7.BlockStart'. -/
def blockStartUptoCard : Claim7 := { stood := { row := blockStartUptoRow, standIns := [], harness := (true, "570084c964d757cb9cf3ca22c3b2192bb755117f75e05724e6f174531d1bcd24"), looks := true }, kinds := [], alts := [], laidByText := true, laidKinds := [.sentinel, .sentinel, .sentinel, .sentinel, .sentinel, .sentinel, .sentinel, .sentinel], laidTests := true, laidLooks := .later }
def BlockStartUptoCardSaid : Prop := Claim7.holds Tryd.pinned (.plain (OpenSpec.upto blockStartSpec)) blockStartUptoCard

/-- THE SECOND FORM's CARD OF 'sargassolaw7.BlockBack'. -/
def blockBackUptoCard : Claim7 := { stood := { row := blockBackUptoRow, standIns := [], harness := (true, "570084c964d757cb9cf3ca22c3b2192bb755117f75e05724e6f174531d1bcd24"), looks := true }, kinds := [], alts := [], laidByText := true, laidKinds := [.sentinel, .sentinel, .sentinel, .sentinel, .sentinel, .sentinel, .sentinel, .sentinel, .sentinel, .sentinel, .sentinel, .sentinel, .sentinel, .sentinel, .sentinel, .sentinel, .sentinel, .sentinel, .sentinel, .sentinel, .sentinel, .sentinel, .sentinel, .sentinel, .sentinel], laidTests := true, laidLooks := .later }
def BlockBackUptoCardSaid : Prop := Claim7.holds Tryd.pinned (.plain (OpenSpec.upto blockBackSpec)) blockBackUptoCard
end Rows
end Go.Proofs.YtlpggofilkfbnaaDoor
