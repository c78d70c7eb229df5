/-
  No cell of these rows narrows 'for every input' (looked for: loops, veiled, ifaces, maps, wideKeys, modest, calm, conditions, laid).
  DERIVED. THE GIVEN ROWS OF THIS SEAT. 22 by the template 'for every input the law returns true; each argument reads behind the call as it read before'; 0 by the template 'total and deterministic' (their statements: YtnbnnphlffhgiaaTotals.lean).
  GIVEN WITH THE SEED: the statements are not yours to turn. If you find one false, say at which input.
  Laid BY PROGRAM, IN A SANDBOX (cutbox-rows.mjs): the forced cells as the released guide's own fill.sh prints them over the translation 965a53860e75d8f0… (all of the seat's roots in one cut). By AI agents, Wed Nov 11 2026. No macro, syntax, notation, axiom, sorry.
-/
import Derived.Test.YtnbnnphlffhgiaaChecked
import GoSem.Claim
import GoSem.ClaimJoined
import GoSem.ClaimMapViews
import Derived.JoinedTies
import Derived.KernelRfl
namespace Go.Proofs.Ytnbnnphlffhgiaa
/- THE CELL 'sum', in the pinned program and in every row, IS THE sha256 OF THE DUMP (.gsa) THAT YtnbnnphlffhgiaaProg.lean LOADS. Nothing in Lean hashes anything: it is a label: what it is worth is what the hold of that sum in a sandbox is worth. -/
noncomputable def Try.pinned : Pinned := { name := "ytnbnnphlffhgiaa", sum := "965a53860e75d8f05e5a0eb5b799c4dda993737b0d4bd9ec501d54a44508c951", checked := Try.checked }
namespace Rows
def none {H : Type} : Left H := { results := [], args := [] }

/-- 'sargassolaw1.DigestParts': WHATEVER THE INPUT: true; the input reads as it did. -/
def digestPartsSpec : ChangeSpec := { name := "digestParts", fn := fun _ => fun
  | [d1, d2] => { results := [.lit (.bool true)], args := [d1, d2] }
  | _ => none }
def digestPartsRow : OpenClaim := { program := "ytnbnnphlffhgiaa", sum := "965a53860e75d8f05e5a0eb5b799c4dda993737b0d4bd9ec501d54a44508c951", func := "sargasso/sargassolaw1.DigestParts", spec := "digestParts", apart := false }
def DigestPartsSaid : Prop := digestPartsRow.holds Try.pinned (OpenSpec.ofChange digestPartsSpec)

/-- ITS FALSE NEIGHBOUR: 'it returns false'. Refute it at one input. -/
def digestPartsWrong : ChangeSpec := { name := "digestParts", fn := fun _ => fun
  | [d1, d2] => { results := [.lit (.bool false)], args := [d1, d2] }
  | _ => none }
def DigestPartsWrongFalsely : Prop := digestPartsRow.holds Try.pinned (OpenSpec.ofChange digestPartsWrong)

/-- 'sargassolaw1.DigestEdges': WHATEVER THE INPUT: true; the input reads as it did. -/
def digestEdgesSpec : ChangeSpec := { name := "digestEdges", fn := fun _ => fun
  | [d1, d2] => { results := [.lit (.bool true)], args := [d1, d2] }
  | _ => none }
def digestEdgesRow : OpenClaim := { program := "ytnbnnphlffhgiaa", sum := "965a53860e75d8f05e5a0eb5b799c4dda993737b0d4bd9ec501d54a44508c951", func := "sargasso/sargassolaw1.DigestEdges", spec := "digestEdges", apart := false }
def DigestEdgesSaid : Prop := digestEdgesRow.holds Try.pinned (OpenSpec.ofChange digestEdgesSpec)

/-- ITS FALSE NEIGHBOUR: 'it returns false'. Refute it at one input. -/
def digestEdgesWrong : ChangeSpec := { name := "digestEdges", fn := fun _ => fun
  | [d1, d2] => { results := [.lit (.bool false)], args := [d1, d2] }
  | _ => none }
def DigestEdgesWrongFalsely : Prop := digestEdgesRow.holds Try.pinned (OpenSpec.ofChange digestEdgesWrong)

/-- 'sargassolaw1.DigestTurned': WHATEVER THE INPUT: true; the input reads as it did. -/
def digestTurnedSpec : ChangeSpec := { name := "digestTurned", fn := fun _ => fun
  | [d1, d2] => { results := [.lit (.bool true)], args := [d1, d2] }
  | _ => none }
def digestTurnedRow : OpenClaim := { program := "ytnbnnphlffhgiaa", sum := "965a53860e75d8f05e5a0eb5b799c4dda993737b0d4bd9ec501d54a44508c951", func := "sargasso/sargassolaw1.DigestTurned", spec := "digestTurned", apart := false }
def DigestTurnedSaid : Prop := digestTurnedRow.holds Try.pinned (OpenSpec.ofChange digestTurnedSpec)

/-- ITS FALSE NEIGHBOUR: 'it returns false'. Refute it at one input. -/
def digestTurnedWrong : ChangeSpec := { name := "digestTurned", fn := fun _ => fun
  | [d1, d2] => { results := [.lit (.bool false)], args := [d1, d2] }
  | _ => none }
def DigestTurnedWrongFalsely : Prop := digestTurnedRow.holds Try.pinned (OpenSpec.ofChange digestTurnedWrong)

/-- 'sargassolaw1.DigestOrder': WHATEVER THE INPUT: true; the input reads as it did. -/
def digestOrderSpec : ChangeSpec := { name := "digestOrder", fn := fun _ => fun
  | [d1, d2, d3, d4] => { results := [.lit (.bool true)], args := [d1, d2, d3, d4] }
  | _ => none }
def digestOrderRow : OpenClaim := { program := "ytnbnnphlffhgiaa", sum := "965a53860e75d8f05e5a0eb5b799c4dda993737b0d4bd9ec501d54a44508c951", func := "sargasso/sargassolaw1.DigestOrder", spec := "digestOrder", inPlace := ["internal/bytealg.Compare"], apart := false }
def DigestOrderSaid : Prop := digestOrderRow.holds Try.pinned (OpenSpec.ofChange digestOrderSpec)

/-- ITS FALSE NEIGHBOUR: 'it returns false'. Refute it at one input. -/
def digestOrderWrong : ChangeSpec := { name := "digestOrder", fn := fun _ => fun
  | [d1, d2, d3, d4] => { results := [.lit (.bool false)], args := [d1, d2, d3, d4] }
  | _ => none }
def DigestOrderWrongFalsely : Prop := digestOrderRow.holds Try.pinned (OpenSpec.ofChange digestOrderWrong)

/-- 'sargassolaw1.DigestSays': WHATEVER THE INPUT: true; the input reads as it did. -/
def digestSaysSpec : ChangeSpec := { name := "digestSays", fn := fun _ => fun
  | [d1, d2] => { results := [.lit (.bool true)], args := [d1, d2] }
  | _ => none }
def digestSaysRow : OpenClaim := { program := "ytnbnnphlffhgiaa", sum := "965a53860e75d8f05e5a0eb5b799c4dda993737b0d4bd9ec501d54a44508c951", func := "sargasso/sargassolaw1.DigestSays", spec := "digestSays", inPlace := ["internal/bytealg.Compare"], apart := false }
def DigestSaysSaid : Prop := digestSaysRow.holds Try.pinned (OpenSpec.ofChange digestSaysSpec)

/-- ITS FALSE NEIGHBOUR: 'it returns false'. Refute it at one input. -/
def digestSaysWrong : ChangeSpec := { name := "digestSays", fn := fun _ => fun
  | [d1, d2] => { results := [.lit (.bool false)], args := [d1, d2] }
  | _ => none }
def DigestSaysWrongFalsely : Prop := digestSaysRow.holds Try.pinned (OpenSpec.ofChange digestSaysWrong)

/-- 'sargassolaw2.CompactSums': WHATEVER THE INPUT: true; the input reads as it did. -/
def compactSumsSpec : ChangeSpec := { name := "compactSums", fn := fun _ => fun
  | [d1, d2] => { results := [.lit (.bool true)], args := [d1, d2] }
  | _ => none }
def compactSumsRow : OpenClaim := { program := "ytnbnnphlffhgiaa", sum := "965a53860e75d8f05e5a0eb5b799c4dda993737b0d4bd9ec501d54a44508c951", func := "sargasso/sargassolaw2.CompactSums", spec := "compactSums", apart := false }
def CompactSumsSaid : Prop := compactSumsRow.holds Try.pinned (OpenSpec.ofChange compactSumsSpec)

/-- ITS FALSE NEIGHBOUR: 'it returns false'. Refute it at one input. -/
def compactSumsWrong : ChangeSpec := { name := "compactSums", fn := fun _ => fun
  | [d1, d2] => { results := [.lit (.bool false)], args := [d1, d2] }
  | _ => none }
def CompactSumsWrongFalsely : Prop := compactSumsRow.holds Try.pinned (OpenSpec.ofChange compactSumsWrong)

/-- 'sargassolaw2.CompactSays': WHATEVER THE INPUT: true; the input reads as it did. -/
def compactSaysSpec : ChangeSpec := { name := "compactSays", fn := fun _ => fun
  | [d1, d2, d3] => { results := [.lit (.bool true)], args := [d1, d2, d3] }
  | _ => none }
def compactSaysRow : OpenClaim := { program := "ytnbnnphlffhgiaa", sum := "965a53860e75d8f05e5a0eb5b799c4dda993737b0d4bd9ec501d54a44508c951", func := "sargasso/sargassolaw2.CompactSays", spec := "compactSays", apart := false }
def CompactSaysSaid : Prop := compactSaysRow.holds Try.pinned (OpenSpec.ofChange compactSaysSpec)

/-- ITS FALSE NEIGHBOUR: 'it returns false'. Refute it at one input. -/
def compactSaysWrong : ChangeSpec := { name := "compactSays", fn := fun _ => fun
  | [d1, d2, d3] => { results := [.lit (.bool false)], args := [d1, d2, d3] }
  | _ => none }
def CompactSaysWrongFalsely : Prop := compactSaysRow.holds Try.pinned (OpenSpec.ofChange compactSaysWrong)

/-- 'sargassolaw3.SpendKeys': WHATEVER THE INPUT: true; the input reads as it did. -/
def spendKeysSpec : ChangeSpec := { name := "spendKeys", fn := fun _ => fun
  | [d1, d2] => { results := [.lit (.bool true)], args := [d1, d2] }
  | _ => none }
def spendKeysRow : OpenClaim := { program := "ytnbnnphlffhgiaa", sum := "965a53860e75d8f05e5a0eb5b799c4dda993737b0d4bd9ec501d54a44508c951", func := "sargasso/sargassolaw3.SpendKeys", spec := "spendKeys", apart := false }
def SpendKeysSaid : Prop := spendKeysRow.holds Try.pinned (OpenSpec.ofChange spendKeysSpec)

/-- ITS FALSE NEIGHBOUR: 'it returns false'. Refute it at one input. -/
def spendKeysWrong : ChangeSpec := { name := "spendKeys", fn := fun _ => fun
  | [d1, d2] => { results := [.lit (.bool false)], args := [d1, d2] }
  | _ => none }
def SpendKeysWrongFalsely : Prop := spendKeysRow.holds Try.pinned (OpenSpec.ofChange spendKeysWrong)

/-- 'sargassolaw3.SpendSays': WHATEVER THE INPUT: true; the input reads as it did. -/
def spendSaysSpec : ChangeSpec := { name := "spendSays", fn := fun _ => fun
  | [d1, d2, d3, d4] => { results := [.lit (.bool true)], args := [d1, d2, d3, d4] }
  | _ => none }
def spendSaysRow : OpenClaim := { program := "ytnbnnphlffhgiaa", sum := "965a53860e75d8f05e5a0eb5b799c4dda993737b0d4bd9ec501d54a44508c951", func := "sargasso/sargassolaw3.SpendSays", spec := "spendSays", inPlace := ["internal/bytealg.Compare"], apart := false }
def SpendSaysSaid : Prop := spendSaysRow.holds Try.pinned (OpenSpec.ofChange spendSaysSpec)

/-- ITS FALSE NEIGHBOUR: 'it returns false'. Refute it at one input. -/
def spendSaysWrong : ChangeSpec := { name := "spendSays", fn := fun _ => fun
  | [d1, d2, d3, d4] => { results := [.lit (.bool false)], args := [d1, d2, d3, d4] }
  | _ => none }
def SpendSaysWrongFalsely : Prop := spendSaysRow.holds Try.pinned (OpenSpec.ofChange spendSaysWrong)

/-- 'sargassolaw3.SpendOrder': WHATEVER THE INPUT: true; the input reads as it did. -/
def spendOrderSpec : ChangeSpec := { name := "spendOrder", fn := fun _ => fun
  | [d1, d2, d3] => { results := [.lit (.bool true)], args := [d1, d2, d3] }
  | _ => none }
def spendOrderRow : OpenClaim := { program := "ytnbnnphlffhgiaa", sum := "965a53860e75d8f05e5a0eb5b799c4dda993737b0d4bd9ec501d54a44508c951", func := "sargasso/sargassolaw3.SpendOrder", spec := "spendOrder", inPlace := ["internal/bytealg.Compare"], apart := false }
def SpendOrderSaid : Prop := spendOrderRow.holds Try.pinned (OpenSpec.ofChange spendOrderSpec)

/-- ITS FALSE NEIGHBOUR: 'it returns false'. Refute it at one input. -/
def spendOrderWrong : ChangeSpec := { name := "spendOrder", fn := fun _ => fun
  | [d1, d2, d3] => { results := [.lit (.bool false)], args := [d1, d2, d3] }
  | _ => none }
def SpendOrderWrongFalsely : Prop := spendOrderRow.holds Try.pinned (OpenSpec.ofChange spendOrderWrong)

/-- 'sargassolaw3.SpendNulls': WHATEVER THE INPUT: true; the input reads as it did. -/
def spendNullsSpec : ChangeSpec := { name := "spendNulls", fn := fun _ => fun
  | [d1, d2, d3] => { results := [.lit (.bool true)], args := [d1, d2, d3] }
  | _ => none }
def spendNullsRow : OpenClaim := { program := "ytnbnnphlffhgiaa", sum := "965a53860e75d8f05e5a0eb5b799c4dda993737b0d4bd9ec501d54a44508c951", func := "sargasso/sargassolaw3.SpendNulls", spec := "spendNulls", inPlace := ["internal/bytealg.Compare"], apart := false }
def SpendNullsSaid : Prop := spendNullsRow.holds Try.pinned (OpenSpec.ofChange spendNullsSpec)

/-- ITS FALSE NEIGHBOUR: 'it returns false'. Refute it at one input. -/
def spendNullsWrong : ChangeSpec := { name := "spendNulls", fn := fun _ => fun
  | [d1, d2, d3] => { results := [.lit (.bool false)], args := [d1, d2, d3] }
  | _ => none }
def SpendNullsWrongFalsely : Prop := spendNullsRow.holds Try.pinned (OpenSpec.ofChange spendNullsWrong)

/-- 'sargassolaw4.TxOwn': WHATEVER THE INPUT: true; the input reads as it did. -/
def txOwnSpec : ChangeSpec := { name := "txOwn", fn := fun _ => fun
  | [d] => { results := [.lit (.bool true)], args := [d] }
  | _ => none }
def txOwnRow : OpenClaim := { program := "ytnbnnphlffhgiaa", sum := "965a53860e75d8f05e5a0eb5b799c4dda993737b0d4bd9ec501d54a44508c951", func := "sargasso/sargassolaw4.TxOwn", spec := "txOwn", apart := false }
def TxOwnSaid : Prop := txOwnRow.holds Try.pinned (OpenSpec.ofChange txOwnSpec)

/-- ITS FALSE NEIGHBOUR: 'it returns false'. Refute it at one input. -/
def txOwnWrong : ChangeSpec := { name := "txOwn", fn := fun _ => fun
  | [d] => { results := [.lit (.bool false)], args := [d] }
  | _ => none }
def TxOwnWrongFalsely : Prop := txOwnRow.holds Try.pinned (OpenSpec.ofChange txOwnWrong)

/-- 'sargassolaw5.HeadFields': WHATEVER THE INPUT: true; the input reads as it did. -/
def headFieldsSpec : ChangeSpec := { name := "headFields", fn := fun _ => fun
  | [d1, d2] => { results := [.lit (.bool true)], args := [d1, d2] }
  | _ => none }
def headFieldsRow : OpenClaim := { program := "ytnbnnphlffhgiaa", sum := "965a53860e75d8f05e5a0eb5b799c4dda993737b0d4bd9ec501d54a44508c951", func := "sargasso/sargassolaw5.HeadFields", spec := "headFields", apart := false }
def HeadFieldsSaid : Prop := headFieldsRow.holds Try.pinned (OpenSpec.ofChange headFieldsSpec)

/-- ITS FALSE NEIGHBOUR: 'it returns false'. Refute it at one input. -/
def headFieldsWrong : ChangeSpec := { name := "headFields", fn := fun _ => fun
  | [d1, d2] => { results := [.lit (.bool false)], args := [d1, d2] }
  | _ => none }
def HeadFieldsWrongFalsely : Prop := headFieldsRow.holds Try.pinned (OpenSpec.ofChange headFieldsWrong)

/-- 'sargassolaw6.MerkleOdd': WHATEVER THE INPUT: true; the input reads as it did. -/
def merkleOddSpec : ChangeSpec := { name := "merkleOdd", fn := fun _ => fun
  | [d] => { results := [.lit (.bool true)], args := [d] }
  | _ => none }
def merkleOddRow : OpenClaim := { program := "ytnbnnphlffhgiaa", sum := "965a53860e75d8f05e5a0eb5b799c4dda993737b0d4bd9ec501d54a44508c951", func := "sargasso/sargassolaw6.MerkleOdd", spec := "merkleOdd", apart := false }
def MerkleOddSaid : Prop := merkleOddRow.holds Try.pinned (OpenSpec.ofChange merkleOddSpec)

/-- ITS FALSE NEIGHBOUR: 'it returns false'. Refute it at one input. -/
def merkleOddWrong : ChangeSpec := { name := "merkleOdd", fn := fun _ => fun
  | [d] => { results := [.lit (.bool false)], args := [d] }
  | _ => none }
def MerkleOddWrongFalsely : Prop := merkleOddRow.holds Try.pinned (OpenSpec.ofChange merkleOddWrong)

/-- 'sargassolaw6.MerkleRows': WHATEVER THE INPUT: true; the input reads as it did. -/
def merkleRowsSpec : ChangeSpec := { name := "merkleRows", fn := fun _ => fun
  | [d1, d2] => { results := [.lit (.bool true)], args := [d1, d2] }
  | _ => none }
def merkleRowsRow : OpenClaim := { program := "ytnbnnphlffhgiaa", sum := "965a53860e75d8f05e5a0eb5b799c4dda993737b0d4bd9ec501d54a44508c951", func := "sargasso/sargassolaw6.MerkleRows", spec := "merkleRows", apart := false }
def MerkleRowsSaid : Prop := merkleRowsRow.holds Try.pinned (OpenSpec.ofChange merkleRowsSpec)

/-- ITS FALSE NEIGHBOUR: 'it returns false'. Refute it at one input. -/
def merkleRowsWrong : ChangeSpec := { name := "merkleRows", fn := fun _ => fun
  | [d1, d2] => { results := [.lit (.bool false)], args := [d1, d2] }
  | _ => none }
def MerkleRowsWrongFalsely : Prop := merkleRowsRow.holds Try.pinned (OpenSpec.ofChange merkleRowsWrong)

/-- 'sargassolaw6.MerkleSays': WHATEVER THE INPUT: true; the input reads as it did. -/
def merkleSaysSpec : ChangeSpec := { name := "merkleSays", fn := fun _ => fun
  | [d1, d2, d3, d4, d5] => { results := [.lit (.bool true)], args := [d1, d2, d3, d4, d5] }
  | _ => none }
def merkleSaysRow : OpenClaim := { program := "ytnbnnphlffhgiaa", sum := "965a53860e75d8f05e5a0eb5b799c4dda993737b0d4bd9ec501d54a44508c951", func := "sargasso/sargassolaw6.MerkleSays", spec := "merkleSays", apart := false }
def MerkleSaysSaid : Prop := merkleSaysRow.holds Try.pinned (OpenSpec.ofChange merkleSaysSpec)

/-- ITS FALSE NEIGHBOUR: 'it returns false'. Refute it at one input. -/
def merkleSaysWrong : ChangeSpec := { name := "merkleSays", fn := fun _ => fun
  | [d1, d2, d3, d4, d5] => { results := [.lit (.bool false)], args := [d1, d2, d3, d4, d5] }
  | _ => none }
def MerkleSaysWrongFalsely : Prop := merkleSaysRow.holds Try.pinned (OpenSpec.ofChange merkleSaysWrong)

/-- 'sargassolaw6.MerkleClimbs': WHATEVER THE INPUT: true; the input reads as it did. -/
def merkleClimbsSpec : ChangeSpec := { name := "merkleClimbs", fn := fun _ => fun
  | [d1, d2] => { results := [.lit (.bool true)], args := [d1, d2] }
  | _ => none }
def merkleClimbsRow : OpenClaim := { program := "ytnbnnphlffhgiaa", sum := "965a53860e75d8f05e5a0eb5b799c4dda993737b0d4bd9ec501d54a44508c951", func := "sargasso/sargassolaw6.MerkleClimbs", spec := "merkleClimbs", apart := false }
def MerkleClimbsSaid : Prop := merkleClimbsRow.holds Try.pinned (OpenSpec.ofChange merkleClimbsSpec)

/-- ITS FALSE NEIGHBOUR: 'it returns false'. Refute it at one input. -/
def merkleClimbsWrong : ChangeSpec := { name := "merkleClimbs", fn := fun _ => fun
  | [d1, d2] => { results := [.lit (.bool false)], args := [d1, d2] }
  | _ => none }
def MerkleClimbsWrongFalsely : Prop := merkleClimbsRow.holds Try.pinned (OpenSpec.ofChange merkleClimbsWrong)

/-- 'sargassolaw6.MerkleTurned': WHATEVER THE INPUT: true; the input reads as it did. -/
def merkleTurnedSpec : ChangeSpec := { name := "merkleTurned", fn := fun _ => fun
  | [d1, d2, d3] => { results := [.lit (.bool true)], args := [d1, d2, d3] }
  | _ => none }
def merkleTurnedRow : OpenClaim := { program := "ytnbnnphlffhgiaa", sum := "965a53860e75d8f05e5a0eb5b799c4dda993737b0d4bd9ec501d54a44508c951", func := "sargasso/sargassolaw6.MerkleTurned", spec := "merkleTurned", apart := false }
def MerkleTurnedSaid : Prop := merkleTurnedRow.holds Try.pinned (OpenSpec.ofChange merkleTurnedSpec)

/-- ITS FALSE NEIGHBOUR: 'it returns false'. Refute it at one input. -/
def merkleTurnedWrong : ChangeSpec := { name := "merkleTurned", fn := fun _ => fun
  | [d1, d2, d3] => { results := [.lit (.bool false)], args := [d1, d2, d3] }
  | _ => none }
def MerkleTurnedWrongFalsely : Prop := merkleTurnedRow.holds Try.pinned (OpenSpec.ofChange merkleTurnedWrong)

/-- 'sargassolaw14.SeqMost': WHATEVER THE INPUT: true; the input reads as it did. -/
def seqMostSpec : ChangeSpec := { name := "seqMost", fn := fun _ => fun
  | [d1, d2, d3] => { results := [.lit (.bool true)], args := [d1, d2, d3] }
  | _ => none }
def seqMostRow : OpenClaim := { program := "ytnbnnphlffhgiaa", sum := "965a53860e75d8f05e5a0eb5b799c4dda993737b0d4bd9ec501d54a44508c951", func := "sargasso/sargassolaw14.SeqMost", spec := "seqMost", unfollowed := true, recurses := true, apart := false }
def SeqMostSaid : Prop := seqMostRow.holds Try.pinned (OpenSpec.ofChange seqMostSpec)

/-- ITS FALSE NEIGHBOUR: 'it returns false'. Refute it at one input. -/
def seqMostWrong : ChangeSpec := { name := "seqMost", fn := fun _ => fun
  | [d1, d2, d3] => { results := [.lit (.bool false)], args := [d1, d2, d3] }
  | _ => none }
def SeqMostWrongFalsely : Prop := seqMostRow.holds Try.pinned (OpenSpec.ofChange seqMostWrong)

/-- 'sargassolaw14.SeqWaits': WHATEVER THE INPUT: true; the input reads as it did. -/
def seqWaitsSpec : ChangeSpec := { name := "seqWaits", fn := fun _ => fun
  | [d1, d2, d3, d4] => { results := [.lit (.bool true)], args := [d1, d2, d3, d4] }
  | _ => none }
def seqWaitsRow : OpenClaim := { program := "ytnbnnphlffhgiaa", sum := "965a53860e75d8f05e5a0eb5b799c4dda993737b0d4bd9ec501d54a44508c951", func := "sargasso/sargassolaw14.SeqWaits", spec := "seqWaits", unfollowed := true, recurses := true, apart := false }
def SeqWaitsSaid : Prop := seqWaitsRow.holds Try.pinned (OpenSpec.ofChange seqWaitsSpec)

/-- ITS FALSE NEIGHBOUR: 'it returns false'. Refute it at one input. -/
def seqWaitsWrong : ChangeSpec := { name := "seqWaits", fn := fun _ => fun
  | [d1, d2, d3, d4] => { results := [.lit (.bool false)], args := [d1, d2, d3, d4] }
  | _ => none }
def SeqWaitsWrongFalsely : Prop := seqWaitsRow.holds Try.pinned (OpenSpec.ofChange seqWaitsWrong)

/-- 'sargassolaw15.ValueHalves': WHATEVER THE INPUT: true; the input reads as it did. -/
def valueHalvesSpec : ChangeSpec := { name := "valueHalves", fn := fun _ => fun
  | [d1, d2, d3] => { results := [.lit (.bool true)], args := [d1, d2, d3] }
  | _ => none }
def valueHalvesRow : OpenClaim := { program := "ytnbnnphlffhgiaa", sum := "965a53860e75d8f05e5a0eb5b799c4dda993737b0d4bd9ec501d54a44508c951", func := "sargasso/sargassolaw15.ValueHalves", spec := "valueHalves", apart := false }
def ValueHalvesSaid : Prop := valueHalvesRow.holds Try.pinned (OpenSpec.ofChange valueHalvesSpec)

/-- ITS FALSE NEIGHBOUR: 'it returns false'. Refute it at one input. -/
def valueHalvesWrong : ChangeSpec := { name := "valueHalves", fn := fun _ => fun
  | [d1, d2, d3] => { results := [.lit (.bool false)], args := [d1, d2, d3] }
  | _ => none }
def ValueHalvesWrongFalsely : Prop := valueHalvesRow.holds Try.pinned (OpenSpec.ofChange valueHalvesWrong)

/-- 'sargassolaw15.ValueRipe': WHATEVER THE INPUT: true; the input reads as it did. -/
def valueRipeSpec : ChangeSpec := { name := "valueRipe", fn := fun _ => fun
  | [d1, d2, d3] => { results := [.lit (.bool true)], args := [d1, d2, d3] }
  | _ => none }
def valueRipeRow : OpenClaim := { program := "ytnbnnphlffhgiaa", sum := "965a53860e75d8f05e5a0eb5b799c4dda993737b0d4bd9ec501d54a44508c951", func := "sargasso/sargassolaw15.ValueRipe", spec := "valueRipe", apart := false }
def ValueRipeSaid : Prop := valueRipeRow.holds Try.pinned (OpenSpec.ofChange valueRipeSpec)

/-- ITS FALSE NEIGHBOUR: 'it returns false'. Refute it at one input. -/
def valueRipeWrong : ChangeSpec := { name := "valueRipe", fn := fun _ => fun
  | [d1, d2, d3] => { results := [.lit (.bool false)], args := [d1, d2, d3] }
  | _ => none }
def ValueRipeWrongFalsely : Prop := valueRipeRow.holds Try.pinned (OpenSpec.ofChange valueRipeWrong)

/- THE SECOND FORM. 'bulk': how many values and letters a reading holds, each counted each time it is reached (what is shared counts as often as it is met; a slice's spare places count too). A statement '..UptoSaid' is the law's where the arguments, and the package variables that the reading takes, are together of bulk at most 1048576: NARROWER than '..Said'. Prove '..Said' where nothing that the law and all that it calls make is longer than what came in: it says more and counts as full. Else prove '..UptoSaid'. A law counts once. -/
mutual
def uptoBulk {H : Type} : DataW H → Nat
  | .lit (.string bytes) => bytes.length + 1
  | .lit _ => 1
  | .nil => 1
  | .ptr d => uptoBulk d + 1
  | .slice elems spare => uptoBulkAll elems + uptoBulkAll spare + 1
  | .agg parts => uptoBulkAll parts + 1
  | .iface _ d => uptoBulk d + 1
  | .map entries => uptoBulkEntries entries + 1
  | .held _ => 1
def uptoBulkAll {H : Type} : List (DataW H) → Nat
  | [] => 0
  | d :: r => uptoBulk d + uptoBulkAll r
def uptoBulkEntries {H : Type} : List (Lit × DataW H) → Nat
  | [] => 0
  | x :: r => uptoBulkEntry x + uptoBulkEntries r
def uptoBulkEntry {H : Type} : Lit × DataW H → Nat
  | (.string bytes, d) => bytes.length + uptoBulk d + 1
  | (_, d) => uptoBulk d + 1
 end
def uptoSmall : (H : Type) → List (DataW H) → Bool := fun _ ds => decide (uptoBulkAll ds ≤ 1048576)
def OpenSpec.upto (s : _root_.Go.ChangeSpec) : _root_.Go.OpenSpec := { _root_.Go.OpenSpec.ofChange s with cond := some uptoSmall }

/-- 'sargassolaw1.DigestParts', WHERE WHAT IT READS IS OF BULK AT MOST 1048576: true; the input reads as it did. -/
def digestPartsUptoRow : OpenClaim := { program := "ytnbnnphlffhgiaa", sum := "965a53860e75d8f05e5a0eb5b799c4dda993737b0d4bd9ec501d54a44508c951", func := "sargasso/sargassolaw1.DigestParts", spec := "digestParts", apart := false, narrowed := true }
def DigestPartsUptoSaid : Prop := digestPartsUptoRow.holds Try.pinned (OpenSpec.upto digestPartsSpec)

/-- 'sargassolaw1.DigestEdges', WHERE WHAT IT READS IS OF BULK AT MOST 1048576: true; the input reads as it did. -/
def digestEdgesUptoRow : OpenClaim := { program := "ytnbnnphlffhgiaa", sum := "965a53860e75d8f05e5a0eb5b799c4dda993737b0d4bd9ec501d54a44508c951", func := "sargasso/sargassolaw1.DigestEdges", spec := "digestEdges", apart := false, narrowed := true }
def DigestEdgesUptoSaid : Prop := digestEdgesUptoRow.holds Try.pinned (OpenSpec.upto digestEdgesSpec)

/-- 'sargassolaw1.DigestTurned', WHERE WHAT IT READS IS OF BULK AT MOST 1048576: true; the input reads as it did. -/
def digestTurnedUptoRow : OpenClaim := { program := "ytnbnnphlffhgiaa", sum := "965a53860e75d8f05e5a0eb5b799c4dda993737b0d4bd9ec501d54a44508c951", func := "sargasso/sargassolaw1.DigestTurned", spec := "digestTurned", apart := false, narrowed := true }
def DigestTurnedUptoSaid : Prop := digestTurnedUptoRow.holds Try.pinned (OpenSpec.upto digestTurnedSpec)

/-- 'sargassolaw1.DigestOrder', WHERE WHAT IT READS IS OF BULK AT MOST 1048576: true; the input reads as it did. -/
def digestOrderUptoRow : OpenClaim := { program := "ytnbnnphlffhgiaa", sum := "965a53860e75d8f05e5a0eb5b799c4dda993737b0d4bd9ec501d54a44508c951", func := "sargasso/sargassolaw1.DigestOrder", spec := "digestOrder", inPlace := ["internal/bytealg.Compare"], apart := false, narrowed := true }
def DigestOrderUptoSaid : Prop := digestOrderUptoRow.holds Try.pinned (OpenSpec.upto digestOrderSpec)

/-- 'sargassolaw1.DigestSays', WHERE WHAT IT READS IS OF BULK AT MOST 1048576: true; the input reads as it did. -/
def digestSaysUptoRow : OpenClaim := { program := "ytnbnnphlffhgiaa", sum := "965a53860e75d8f05e5a0eb5b799c4dda993737b0d4bd9ec501d54a44508c951", func := "sargasso/sargassolaw1.DigestSays", spec := "digestSays", inPlace := ["internal/bytealg.Compare"], apart := false, narrowed := true }
def DigestSaysUptoSaid : Prop := digestSaysUptoRow.holds Try.pinned (OpenSpec.upto digestSaysSpec)

/-- 'sargassolaw2.CompactSums', WHERE WHAT IT READS IS OF BULK AT MOST 1048576: true; the input reads as it did. -/
def compactSumsUptoRow : OpenClaim := { program := "ytnbnnphlffhgiaa", sum := "965a53860e75d8f05e5a0eb5b799c4dda993737b0d4bd9ec501d54a44508c951", func := "sargasso/sargassolaw2.CompactSums", spec := "compactSums", apart := false, narrowed := true }
def CompactSumsUptoSaid : Prop := compactSumsUptoRow.holds Try.pinned (OpenSpec.upto compactSumsSpec)

/-- 'sargassolaw2.CompactSays', WHERE WHAT IT READS IS OF BULK AT MOST 1048576: true; the input reads as it did. -/
def compactSaysUptoRow : OpenClaim := { program := "ytnbnnphlffhgiaa", sum := "965a53860e75d8f05e5a0eb5b799c4dda993737b0d4bd9ec501d54a44508c951", func := "sargasso/sargassolaw2.CompactSays", spec := "compactSays", apart := false, narrowed := true }
def CompactSaysUptoSaid : Prop := compactSaysUptoRow.holds Try.pinned (OpenSpec.upto compactSaysSpec)

/-- 'sargassolaw3.SpendKeys', WHERE WHAT IT READS IS OF BULK AT MOST 1048576: true; the input reads as it did. -/
def spendKeysUptoRow : OpenClaim := { program := "ytnbnnphlffhgiaa", sum := "965a53860e75d8f05e5a0eb5b799c4dda993737b0d4bd9ec501d54a44508c951", func := "sargasso/sargassolaw3.SpendKeys", spec := "spendKeys", apart := false, narrowed := true }
def SpendKeysUptoSaid : Prop := spendKeysUptoRow.holds Try.pinned (OpenSpec.upto spendKeysSpec)

/-- 'sargassolaw3.SpendSays', WHERE WHAT IT READS IS OF BULK AT MOST 1048576: true; the input reads as it did. -/
def spendSaysUptoRow : OpenClaim := { program := "ytnbnnphlffhgiaa", sum := "965a53860e75d8f05e5a0eb5b799c4dda993737b0d4bd9ec501d54a44508c951", func := "sargasso/sargassolaw3.SpendSays", spec := "spendSays", inPlace := ["internal/bytealg.Compare"], apart := false, narrowed := true }
def SpendSaysUptoSaid : Prop := spendSaysUptoRow.holds Try.pinned (OpenSpec.upto spendSaysSpec)

/-- 'sargassolaw3.SpendOrder', WHERE WHAT IT READS IS OF BULK AT MOST 1048576: true; the input reads as it did. -/
def spendOrderUptoRow : OpenClaim := { program := "ytnbnnphlffhgiaa", sum := "965a53860e75d8f05e5a0eb5b799c4dda993737b0d4bd9ec501d54a44508c951", func := "sargasso/sargassolaw3.SpendOrder", spec := "spendOrder", inPlace := ["internal/bytealg.Compare"], apart := false, narrowed := true }
def SpendOrderUptoSaid : Prop := spendOrderUptoRow.holds Try.pinned (OpenSpec.upto spendOrderSpec)

/-- 'sargassolaw3.SpendNulls', WHERE WHAT IT READS IS OF BULK AT MOST 1048576: true; the input reads as it did. -/
def spendNullsUptoRow : OpenClaim := { program := "ytnbnnphlffhgiaa", sum := "965a53860e75d8f05e5a0eb5b799c4dda993737b0d4bd9ec501d54a44508c951", func := "sargasso/sargassolaw3.SpendNulls", spec := "spendNulls", inPlace := ["internal/bytealg.Compare"], apart := false, narrowed := true }
def SpendNullsUptoSaid : Prop := spendNullsUptoRow.holds Try.pinned (OpenSpec.upto spendNullsSpec)

/-- 'sargassolaw4.TxOwn', WHERE WHAT IT READS IS OF BULK AT MOST 1048576: true; the input reads as it did. -/
def txOwnUptoRow : OpenClaim := { program := "ytnbnnphlffhgiaa", sum := "965a53860e75d8f05e5a0eb5b799c4dda993737b0d4bd9ec501d54a44508c951", func := "sargasso/sargassolaw4.TxOwn", spec := "txOwn", apart := false, narrowed := true }
def TxOwnUptoSaid : Prop := txOwnUptoRow.holds Try.pinned (OpenSpec.upto txOwnSpec)

/-- 'sargassolaw5.HeadFields', WHERE WHAT IT READS IS OF BULK AT MOST 1048576: true; the input reads as it did. -/
def headFieldsUptoRow : OpenClaim := { program := "ytnbnnphlffhgiaa", sum := "965a53860e75d8f05e5a0eb5b799c4dda993737b0d4bd9ec501d54a44508c951", func := "sargasso/sargassolaw5.HeadFields", spec := "headFields", apart := false, narrowed := true }
def HeadFieldsUptoSaid : Prop := headFieldsUptoRow.holds Try.pinned (OpenSpec.upto headFieldsSpec)

/-- 'sargassolaw6.MerkleOdd', WHERE WHAT IT READS IS OF BULK AT MOST 1048576: true; the input reads as it did. -/
def merkleOddUptoRow : OpenClaim := { program := "ytnbnnphlffhgiaa", sum := "965a53860e75d8f05e5a0eb5b799c4dda993737b0d4bd9ec501d54a44508c951", func := "sargasso/sargassolaw6.MerkleOdd", spec := "merkleOdd", apart := false, narrowed := true }
def MerkleOddUptoSaid : Prop := merkleOddUptoRow.holds Try.pinned (OpenSpec.upto merkleOddSpec)

/-- 'sargassolaw6.MerkleRows', WHERE WHAT IT READS IS OF BULK AT MOST 1048576: true; the input reads as it did. -/
def merkleRowsUptoRow : OpenClaim := { program := "ytnbnnphlffhgiaa", sum := "965a53860e75d8f05e5a0eb5b799c4dda993737b0d4bd9ec501d54a44508c951", func := "sargasso/sargassolaw6.MerkleRows", spec := "merkleRows", apart := false, narrowed := true }
def MerkleRowsUptoSaid : Prop := merkleRowsUptoRow.holds Try.pinned (OpenSpec.upto merkleRowsSpec)

/-- 'sargassolaw6.MerkleSays', WHERE WHAT IT READS IS OF BULK AT MOST 1048576: true; the input reads as it did. -/
def merkleSaysUptoRow : OpenClaim := { program := "ytnbnnphlffhgiaa", sum := "965a53860e75d8f05e5a0eb5b799c4dda993737b0d4bd9ec501d54a44508c951", func := "sargasso/sargassolaw6.MerkleSays", spec := "merkleSays", apart := false, narrowed := true }
def MerkleSaysUptoSaid : Prop := merkleSaysUptoRow.holds Try.pinned (OpenSpec.upto merkleSaysSpec)

/-- 'sargassolaw6.MerkleClimbs', WHERE WHAT IT READS IS OF BULK AT MOST 1048576: true; the input reads as it did. -/
def merkleClimbsUptoRow : OpenClaim := { program := "ytnbnnphlffhgiaa", sum := "965a53860e75d8f05e5a0eb5b799c4dda993737b0d4bd9ec501d54a44508c951", func := "sargasso/sargassolaw6.MerkleClimbs", spec := "merkleClimbs", apart := false, narrowed := true }
def MerkleClimbsUptoSaid : Prop := merkleClimbsUptoRow.holds Try.pinned (OpenSpec.upto merkleClimbsSpec)

/-- 'sargassolaw6.MerkleTurned', WHERE WHAT IT READS IS OF BULK AT MOST 1048576: true; the input reads as it did. -/
def merkleTurnedUptoRow : OpenClaim := { program := "ytnbnnphlffhgiaa", sum := "965a53860e75d8f05e5a0eb5b799c4dda993737b0d4bd9ec501d54a44508c951", func := "sargasso/sargassolaw6.MerkleTurned", spec := "merkleTurned", apart := false, narrowed := true }
def MerkleTurnedUptoSaid : Prop := merkleTurnedUptoRow.holds Try.pinned (OpenSpec.upto merkleTurnedSpec)

/-- 'sargassolaw14.SeqMost', WHERE WHAT IT READS IS OF BULK AT MOST 1048576: true; the input reads as it did. -/
def seqMostUptoRow : OpenClaim := { program := "ytnbnnphlffhgiaa", sum := "965a53860e75d8f05e5a0eb5b799c4dda993737b0d4bd9ec501d54a44508c951", func := "sargasso/sargassolaw14.SeqMost", spec := "seqMost", unfollowed := true, recurses := true, apart := false, narrowed := true }
def SeqMostUptoSaid : Prop := seqMostUptoRow.holds Try.pinned (OpenSpec.upto seqMostSpec)

/-- 'sargassolaw14.SeqWaits', WHERE WHAT IT READS IS OF BULK AT MOST 1048576: true; the input reads as it did. -/
def seqWaitsUptoRow : OpenClaim := { program := "ytnbnnphlffhgiaa", sum := "965a53860e75d8f05e5a0eb5b799c4dda993737b0d4bd9ec501d54a44508c951", func := "sargasso/sargassolaw14.SeqWaits", spec := "seqWaits", unfollowed := true, recurses := true, apart := false, narrowed := true }
def SeqWaitsUptoSaid : Prop := seqWaitsUptoRow.holds Try.pinned (OpenSpec.upto seqWaitsSpec)

/-- 'sargassolaw15.ValueHalves', WHERE WHAT IT READS IS OF BULK AT MOST 1048576: true; the input reads as it did. -/
def valueHalvesUptoRow : OpenClaim := { program := "ytnbnnphlffhgiaa", sum := "965a53860e75d8f05e5a0eb5b799c4dda993737b0d4bd9ec501d54a44508c951", func := "sargasso/sargassolaw15.ValueHalves", spec := "valueHalves", apart := false, narrowed := true }
def ValueHalvesUptoSaid : Prop := valueHalvesUptoRow.holds Try.pinned (OpenSpec.upto valueHalvesSpec)

/-- 'sargassolaw15.ValueRipe', WHERE WHAT IT READS IS OF BULK AT MOST 1048576: true; the input reads as it did. -/
def valueRipeUptoRow : OpenClaim := { program := "ytnbnnphlffhgiaa", sum := "965a53860e75d8f05e5a0eb5b799c4dda993737b0d4bd9ec501d54a44508c951", func := "sargasso/sargassolaw15.ValueRipe", spec := "valueRipe", apart := false, narrowed := true }
def ValueRipeUptoSaid : Prop := valueRipeUptoRow.holds Try.pinned (OpenSpec.upto valueRipeSpec)

end Rows
end Go.Proofs.Ytnbnnphlffhgiaa
