/- Proved: the statement TreeWays, as given (its conditions are those of the given row, and card where there is one; no others): the call ends, with true, and the input reads as it did. This file is one of its parts. -/
import Derived.Test.YtdngkgkkblfcjaaDoorPTreeWays1
import Derived.Test.YtdngkgkkblfcjaaDoorProg
namespace Go.Proofs.YtdngkgkkblfcjaaDoor.T
open Go Go.Proofs Go.Proofs.YtdngkgkkblfcjaaDoor.K
set_option linter.unusedVariables false
set_option linter.unusedSimpArgs false
def errTexts : List (Nat × List UInt8) := [(0, [116, 111, 111, 32, 109, 97, 110, 121, 44, 32, 111, 114, 32, 116, 111, 111, 32, 102, 101, 119]), (1, [116, 111, 111, 32, 108, 111, 110, 103]), (2, [111, 110, 101, 32, 116, 104, 105, 110, 103, 32, 116, 119, 105, 99, 101]), (3, [97, 32, 114, 111, 111, 116, 32, 116, 104, 97, 116, 32, 100, 111, 101, 115, 32, 110, 111, 116, 32, 102, 105, 116]), (4, [107, 110, 111, 119, 110, 32, 97, 108, 114, 101, 97, 100, 121]), (5, [110, 111, 32, 115, 117, 99, 104, 32, 112, 97, 114, 101, 110, 116]), (6, [116, 104, 101, 114, 101, 32, 105, 115, 32, 110, 111, 32, 114, 111, 111, 109]), (7, [97, 32, 110, 117, 109, 98, 101, 114, 32, 111, 117, 116, 32, 111, 102, 32, 105, 116, 115, 32, 114, 97, 110, 103, 101]), (8, [110, 111, 32, 102, 105, 114, 115, 116, 32, 116, 114, 97, 110, 115, 97, 99, 116, 105, 111, 110, 32, 119, 104, 101, 114, 101, 32, 116, 104, 101, 114, 101, 32, 104, 97, 115, 32, 116, 111, 32, 98, 101, 32, 111, 110, 101, 44, 32, 111, 114, 32, 111, 110, 101, 32, 119, 104, 101, 114, 101, 32, 116, 104, 101, 114, 101, 32, 109, 97, 121, 32, 98, 101, 32, 110, 111, 110, 101]), (9, [97, 32, 107, 101, 121, 32, 116, 104, 97, 116, 32, 100, 111, 101, 115, 32, 110, 111, 116, 32, 102, 105, 116]), (10, [97, 110, 32, 97, 109, 111, 117, 110, 116, 32, 116, 104, 97, 116, 32, 99, 97, 110, 39, 116, 32, 98, 101]), (11, [105, 116, 32, 101, 110, 100, 115, 32, 116, 111, 111, 32, 101, 97, 114, 108, 121]), (12, [110, 111, 116, 32, 97, 115, 32, 105, 116, 32, 104, 97, 115, 32, 116, 111, 32, 98, 101]), (13, [98, 101, 104, 105, 110, 100, 32, 119, 104, 97, 116, 32, 105, 115, 32, 110, 111, 116, 32, 118, 97, 108, 105, 100]), (14, [97, 32, 116, 105, 109, 101, 32, 116, 104, 97, 116, 32, 105, 115, 32, 116, 111, 111, 32, 101, 97, 114, 108, 121]), (15, [97, 32, 99, 111, 105, 110, 32, 116, 104, 97, 116, 32, 105, 115, 32, 110, 111, 116, 32, 116, 104, 101, 114, 101]), (16, [97, 32, 99, 111, 105, 110, 32, 116, 104, 97, 116, 32, 105, 115, 32, 116, 111, 111, 32, 121, 111, 117, 110, 103]), (17, [116, 111, 111, 32, 101, 97, 114, 108, 121, 32, 116, 111, 32, 98, 101, 32, 116, 97, 107, 101, 110]), (18, [108, 101, 115, 115, 32, 99, 111, 109, 101, 115, 32, 105, 110, 32, 116, 104, 97, 110, 32, 103, 111, 101, 115, 32, 111, 117, 116]), (19, [109, 111, 114, 101, 32, 116, 104, 97, 110, 32, 116, 104, 101, 32, 114, 101, 119, 97, 114, 100]), (20, [97, 32, 99, 111, 105, 110, 32, 116, 104, 97, 116, 32, 105, 115, 32, 115, 112, 101, 110, 116, 32, 105, 110, 32, 116, 104, 101, 32, 112, 111, 111, 108]), (21, [116, 111, 111, 32, 109, 97, 110, 121, 32, 116, 104, 97, 116, 32, 104, 97, 110, 103, 32, 116, 111, 103, 101, 116, 104, 101, 114]), (22, [116, 104, 101, 114, 101, 32, 105, 115, 32, 110, 111, 110, 101]), (23, [110, 111, 32, 115, 117, 99, 104, 32, 119, 111, 114, 100]), (24, [110, 111, 116, 32, 97, 32, 110, 117, 109, 98, 101, 114])]
def errCode (z : ByteArray) : Nat := match errTexts.find? (fun q => decide (q.2 = z.data.toList)) with | some q => q.1 + 1 | none => 0
abbrev xErrMany : Er := Er.b 1
abbrev xErrLong : Er := Er.b 2
abbrev xErrTwice : Er := Er.b 3
abbrev xErrRoot : Er := Er.b 4
abbrev xErrKnown : Er := Er.b 5
abbrev xErrParent : Er := Er.b 6
abbrev xErrFull : Er := Er.b 7
abbrev xErrRange : Er := Er.b 8
abbrev xErrBase : Er := Er.b 9
abbrev xErrKey : Er := Er.b 10
abbrev xErrValue : Er := Er.b 11
abbrev xErrEnd : Er := Er.b 12
abbrev xErrShape : Er := Er.b 13
abbrev xErrInvalid : Er := Er.b 14
abbrev xErrTime : Er := Er.b 15
abbrev xErrMissing : Er := Er.b 16
abbrev xErrYoung : Er := Er.b 17
abbrev xErrEarly : Er := Er.b 18
abbrev xErrLess : Er := Er.b 19
abbrev xErrReward : Er := Er.b 20
abbrev xErrClash : Er := Er.b 21
abbrev xErrLimit : Er := Er.b 22
abbrev xErrNone : Er := Er.b 23
abbrev xErrWord : Er := Er.b 24
abbrev xErrNumber : Er := Er.b 25
abbrev ErS (μ : Store) (v : Value) (x : Er) : Prop := ErV 201 121 errCode μ x v
structure Gl (μ : Store) : Prop where
  g0 : ∃ v, ErS μ v (Er.b 1)
  g1 : ∃ v, ErS μ v (Er.b 2)
  g2 : ∃ v, ErS μ v (Er.b 3)
  g3 : ∃ v, ErS μ v (Er.b 4)
  g4 : ∃ v, ErS μ v (Er.b 5)
  g5 : ∃ v, ErS μ v (Er.b 6)
  g6 : ∃ v, ErS μ v (Er.b 7)
  g7 : ∃ v, ErS μ v (Er.b 8)
  g8 : ∃ v, ErS μ v (Er.b 9)
  g9 : ∃ v, ErS μ v (Er.b 10)
  g10 : ∃ v, ErS μ v (Er.b 11)
  g11 : ∃ v, ErS μ v (Er.b 12)
  g12 : ∃ v, ErS μ v (Er.b 13)
  g13 : ∃ v, ErS μ v (Er.b 14)
  g14 : ∃ v, ErS μ v (Er.b 15)
  g15 : ∃ v, ErS μ v (Er.b 16)
  g16 : ∃ v, ErS μ v (Er.b 17)
  g17 : ∃ v, ErS μ v (Er.b 18)
  g18 : ∃ v, ErS μ v (Er.b 19)
  g19 : ∃ v, ErS μ v (Er.b 20)
  g20 : ∃ v, ErS μ v (Er.b 21)
  g21 : ∃ v, ErS μ v (Er.b 22)
  g22 : ∃ v, ErS μ v (Er.b 23)
  g23 : ∃ v, ErS μ v (Er.b 24)
  g24 : ∃ v, ErS μ v (Er.b 25)
theorem Gl.le {μ ν : Store} (hl : μ.le ν) (h : Gl μ) : Gl ν := ⟨h.g0.imp fun _ h => ErV.le (fun _ _ h => h) hl h, h.g1.imp fun _ h => ErV.le (fun _ _ h => h) hl h, h.g2.imp fun _ h => ErV.le (fun _ _ h => h) hl h, h.g3.imp fun _ h => ErV.le (fun _ _ h => h) hl h, h.g4.imp fun _ h => ErV.le (fun _ _ h => h) hl h, h.g5.imp fun _ h => ErV.le (fun _ _ h => h) hl h, h.g6.imp fun _ h => ErV.le (fun _ _ h => h) hl h, h.g7.imp fun _ h => ErV.le (fun _ _ h => h) hl h, h.g8.imp fun _ h => ErV.le (fun _ _ h => h) hl h, h.g9.imp fun _ h => ErV.le (fun _ _ h => h) hl h, h.g10.imp fun _ h => ErV.le (fun _ _ h => h) hl h, h.g11.imp fun _ h => ErV.le (fun _ _ h => h) hl h, h.g12.imp fun _ h => ErV.le (fun _ _ h => h) hl h, h.g13.imp fun _ h => ErV.le (fun _ _ h => h) hl h, h.g14.imp fun _ h => ErV.le (fun _ _ h => h) hl h, h.g15.imp fun _ h => ErV.le (fun _ _ h => h) hl h, h.g16.imp fun _ h => ErV.le (fun _ _ h => h) hl h, h.g17.imp fun _ h => ErV.le (fun _ _ h => h) hl h, h.g18.imp fun _ h => ErV.le (fun _ _ h => h) hl h, h.g19.imp fun _ h => ErV.le (fun _ _ h => h) hl h, h.g20.imp fun _ h => ErV.le (fun _ _ h => h) hl h, h.g21.imp fun _ h => ErV.le (fun _ _ h => h) hl h, h.g22.imp fun _ h => ErV.le (fun _ _ h => h) hl h, h.g23.imp fun _ h => ErV.le (fun _ _ h => h) hl h, h.g24.imp fun _ h => ErV.le (fun _ _ h => h) hl h⟩
structure digestWriter where
  s : List Int
  rest : List Int
  n : Int
deriving Inhabited, DecidableEq
def digestWriterC (x : digestWriter) (v0 : Value) : List (List Value) := [av .u32 8 x.s, [v0], [.int .i64 x.n]]
def digestWriterW (μ : Store) (x : digestWriter) (v0 : Value) : Prop := Arr .u32 8 x.s ∧ Slc (RI .u8) 1 μ v0 x.rest ∧ InR .i64 x.n
def RdigestWriter (μ : Store) (x : digestWriter) (c : List Value) : Prop := ∃ v0 : Value, c = (digestWriterC x v0).flatten ∧ digestWriterW μ x v0
theorem digestWriterW.le {μ ν : Store} (hl : μ.le ν) {x : digestWriter} {v0 : Value} (h : digestWriterW μ x v0) : digestWriterW ν x v0 := let ⟨h0, h1, h2⟩ := h; ⟨h0, h1.le (fun _ _ h => h) hl, h2⟩
theorem RdigestWriter.ones {μ : Store} : ∀ x c, RdigestWriter μ x c → ∀ u ∈ c, u.oneCell' = true := by
  rintro x c ⟨v0, rfl, hw⟩ u hu
  simp only [digestWriterC, List.flatten_cons, List.flatten_nil, List.append_nil, List.mem_append, List.mem_singleton, List.mem_cons, List.not_mem_nil, or_false] at hu
  obtain ⟨_, hs0⟩ := Slc.sv (hw.2.1)
  rcases hu with hu | hu | hu <;> first | exact one_av _ _ _ _ hu | (subst hu; rfl) | (subst hu; exact one_sl hs0)
theorem RdigestWriter.le {μ ν : Store} (hl : μ.le ν) {x : digestWriter} {c : List Value} (h : RdigestWriter μ x c) : RdigestWriter ν x c := let ⟨v0, h0, h1⟩ := h; ⟨v0, h0, h1.le hl⟩
structure Point where
  Tx : List Int
  N : Int
deriving Inhabited, DecidableEq
def PointC (x : Point) : List (List Value) := [av .u8 32 x.Tx, [.int .u32 x.N]]
def PointW (μ : Store) (x : Point) : Prop := Arr .u8 32 x.Tx ∧ InR .u32 x.N
def RPoint (μ : Store) (x : Point) (c : List Value) : Prop := c = (PointC x).flatten ∧ PointW μ x
theorem PointW.le {μ ν : Store} (hl : μ.le ν) {x : Point} (h : PointW μ x) : PointW ν x := let ⟨h0, h1⟩ := h; ⟨h0, h1⟩
theorem RPoint.ones {μ : Store} : ∀ x c, RPoint μ x c → ∀ u ∈ c, u.oneCell' = true := by
  rintro x c ⟨rfl, hw⟩ u hu
  simp only [PointC, List.flatten_cons, List.flatten_nil, List.append_nil, List.mem_append, List.mem_singleton, List.mem_cons, List.not_mem_nil, or_false] at hu
  rcases hu with hu | hu <;> first | exact one_av _ _ _ _ hu | (subst hu; rfl)
theorem RPoint.le {μ ν : Store} (hl : μ.le ν) {x : Point} {c : List Value} (h : RPoint μ x c) : RPoint ν x c := let ⟨h0, h1⟩ := h; ⟨h0, h1.le hl⟩
structure In where
  From : Point
  Key : List Int
  Seq : Int
deriving Inhabited, DecidableEq
def InC (x : In) (v0 : Value) : List (List Value) := [av .u8 32 x.From.Tx, [.int .u32 x.From.N], [v0], [.int .u32 x.Seq]]
def InW (μ : Store) (x : In) (v0 : Value) : Prop := Arr .u8 32 x.From.Tx ∧ InR .u32 x.From.N ∧ Slc (RI .u8) 1 μ v0 x.Key ∧ InR .u32 x.Seq
def RIn (μ : Store) (x : In) (c : List Value) : Prop := ∃ v0 : Value, c = (InC x v0).flatten ∧ InW μ x v0
theorem InW.le {μ ν : Store} (hl : μ.le ν) {x : In} {v0 : Value} (h : InW μ x v0) : InW ν x v0 := let ⟨h0, h1, h2, h3⟩ := h; ⟨h0, h1, h2.le (fun _ _ h => h) hl, h3⟩
theorem RIn.ones {μ : Store} : ∀ x c, RIn μ x c → ∀ u ∈ c, u.oneCell' = true := by
  rintro x c ⟨v0, rfl, hw⟩ u hu
  simp only [InC, List.flatten_cons, List.flatten_nil, List.append_nil, List.mem_append, List.mem_singleton, List.mem_cons, List.not_mem_nil, or_false] at hu
  obtain ⟨_, hs0⟩ := Slc.sv (hw.2.2.1)
  rcases hu with hu | hu | hu | hu <;> first | exact one_av _ _ _ _ hu | (subst hu; rfl) | (subst hu; exact one_sl hs0)
theorem RIn.le {μ ν : Store} (hl : μ.le ν) {x : In} {c : List Value} (h : RIn μ x c) : RIn ν x c := let ⟨v0, h0, h1⟩ := h; ⟨v0, h0, h1.le hl⟩
structure Out where
  Value : Int
  Lock : List Int
deriving Inhabited, DecidableEq
def OutC (x : Out) : List (List Value) := [[.int .u64 x.Value], av .u8 32 x.Lock]
def OutW (μ : Store) (x : Out) : Prop := InR .u64 x.Value ∧ Arr .u8 32 x.Lock
def ROut (μ : Store) (x : Out) (c : List Value) : Prop := c = (OutC x).flatten ∧ OutW μ x
theorem OutW.le {μ ν : Store} (hl : μ.le ν) {x : Out} (h : OutW μ x) : OutW ν x := let ⟨h0, h1⟩ := h; ⟨h0, h1⟩
theorem ROut.ones {μ : Store} : ∀ x c, ROut μ x c → ∀ u ∈ c, u.oneCell' = true := by
  rintro x c ⟨rfl, hw⟩ u hu
  simp only [OutC, List.flatten_cons, List.flatten_nil, List.append_nil, List.mem_append, List.mem_singleton, List.mem_cons, List.not_mem_nil, or_false] at hu
  rcases hu with hu | hu <;> first | exact one_av _ _ _ _ hu | (subst hu; rfl)
theorem ROut.le {μ ν : Store} (hl : μ.le ν) {x : Out} {c : List Value} (h : ROut μ x c) : ROut ν x c := let ⟨h0, h1⟩ := h; ⟨h0, h1.le hl⟩
structure Tx where
  Version : Int
  Ins : List In
  Outs : List Out
  Time : Int
deriving Inhabited, DecidableEq
def TxC (x : Tx) (v0 : Value) (v1 : Value) : List (List Value) := [[.int .u32 x.Version], [v0], [v1], [.int .u32 x.Time]]
def TxW (μ : Store) (x : Tx) (v0 : Value) (v1 : Value) : Prop := InR .u32 x.Version ∧ Slc (RIn μ) 35 μ v0 x.Ins ∧ Slc (ROut μ) 33 μ v1 x.Outs ∧ InR .u32 x.Time
def RTx (μ : Store) (x : Tx) (c : List Value) : Prop := ∃ v0 v1 : Value, c = (TxC x v0 v1).flatten ∧ TxW μ x v0 v1
theorem TxW.le {μ ν : Store} (hl : μ.le ν) {x : Tx} {v0 : Value} {v1 : Value} (h : TxW μ x v0 v1) : TxW ν x v0 v1 := let ⟨h0, h1, h2, h3⟩ := h; ⟨h0, h1.le (fun _ _ h => RIn.le hl h) hl, h2.le (fun _ _ h => ROut.le hl h) hl, h3⟩
theorem RTx.ones {μ : Store} : ∀ x c, RTx μ x c → ∀ u ∈ c, u.oneCell' = true := by
  rintro x c ⟨v0, v1, rfl, hw⟩ u hu
  simp only [TxC, List.flatten_cons, List.flatten_nil, List.append_nil, List.mem_append, List.mem_singleton, List.mem_cons, List.not_mem_nil, or_false] at hu
  obtain ⟨_, hs0⟩ := Slc.sv (hw.2.1)
  obtain ⟨_, hs1⟩ := Slc.sv (hw.2.2.1)
  rcases hu with hu | hu | hu | hu <;> first | exact one_av _ _ _ _ hu | (subst hu; rfl) | (subst hu; exact one_sl hs0) | (subst hu; exact one_sl hs1)
theorem RTx.le {μ ν : Store} (hl : μ.le ν) {x : Tx} {c : List Value} (h : RTx μ x c) : RTx ν x c := let ⟨v0, v1, h0, h1⟩ := h; ⟨v0, v1, h0, h1.le hl⟩
structure Head where
  Version : Int
  Prev : List Int
  Root : List Int
  Time : Int
  Work : Int
  Nonce : Int
deriving Inhabited, DecidableEq
def HeadC (x : Head) : List (List Value) := [[.int .u32 x.Version], av .u8 32 x.Prev, av .u8 32 x.Root, [.int .u32 x.Time], [.int .u32 x.Work], [.int .u32 x.Nonce]]
def HeadW (μ : Store) (x : Head) : Prop := InR .u32 x.Version ∧ Arr .u8 32 x.Prev ∧ Arr .u8 32 x.Root ∧ InR .u32 x.Time ∧ InR .u32 x.Work ∧ InR .u32 x.Nonce
def RHead (μ : Store) (x : Head) (c : List Value) : Prop := c = (HeadC x).flatten ∧ HeadW μ x
theorem HeadW.le {μ ν : Store} (hl : μ.le ν) {x : Head} (h : HeadW μ x) : HeadW ν x := let ⟨h0, h1, h2, h3, h4, h5⟩ := h; ⟨h0, h1, h2, h3, h4, h5⟩
theorem RHead.ones {μ : Store} : ∀ x c, RHead μ x c → ∀ u ∈ c, u.oneCell' = true := by
  rintro x c ⟨rfl, hw⟩ u hu
  simp only [HeadC, List.flatten_cons, List.flatten_nil, List.append_nil, List.mem_append, List.mem_singleton, List.mem_cons, List.not_mem_nil, or_false] at hu
  rcases hu with hu | hu | hu | hu | hu | hu <;> first | exact one_av _ _ _ _ hu | (subst hu; rfl)
theorem RHead.le {μ ν : Store} (hl : μ.le ν) {x : Head} {c : List Value} (h : RHead μ x c) : RHead ν x c := let ⟨h0, h1⟩ := h; ⟨h0, h1.le hl⟩
structure Block where
  Head : Head
  Txs : List Tx
deriving Inhabited, DecidableEq
def BlockC (x : Block) (v0 : Value) : List (List Value) := [[.int .u32 x.Head.Version], av .u8 32 x.Head.Prev, av .u8 32 x.Head.Root, [.int .u32 x.Head.Time], [.int .u32 x.Head.Work], [.int .u32 x.Head.Nonce], [v0]]
def BlockW (μ : Store) (x : Block) (v0 : Value) : Prop := InR .u32 x.Head.Version ∧ Arr .u8 32 x.Head.Prev ∧ Arr .u8 32 x.Head.Root ∧ InR .u32 x.Head.Time ∧ InR .u32 x.Head.Work ∧ InR .u32 x.Head.Nonce ∧ Slc (RTx μ) 4 μ v0 x.Txs
def RBlock (μ : Store) (x : Block) (c : List Value) : Prop := ∃ v0 : Value, c = (BlockC x v0).flatten ∧ BlockW μ x v0
theorem BlockW.le {μ ν : Store} (hl : μ.le ν) {x : Block} {v0 : Value} (h : BlockW μ x v0) : BlockW ν x v0 := let ⟨h0, h1, h2, h3, h4, h5, h6⟩ := h; ⟨h0, h1, h2, h3, h4, h5, h6.le (fun _ _ h => RTx.le hl h) hl⟩
theorem RBlock.ones {μ : Store} : ∀ x c, RBlock μ x c → ∀ u ∈ c, u.oneCell' = true := by
  rintro x c ⟨v0, rfl, hw⟩ u hu
  simp only [BlockC, List.flatten_cons, List.flatten_nil, List.append_nil, List.mem_append, List.mem_singleton, List.mem_cons, List.not_mem_nil, or_false] at hu
  obtain ⟨_, hs0⟩ := Slc.sv (hw.2.2.2.2.2.2)
  rcases hu with hu | hu | hu | hu | hu | hu | hu <;> first | exact one_av _ _ _ _ hu | (subst hu; rfl) | (subst hu; exact one_sl hs0)
theorem RBlock.le {μ ν : Store} (hl : μ.le ν) {x : Block} {c : List Value} (h : RBlock μ x c) : RBlock ν x c := let ⟨v0, h0, h1⟩ := h; ⟨v0, h0, h1.le hl⟩
structure ApiAt where
  Pos : Int
  Err : Er
deriving Inhabited, DecidableEq
def ApiAtC (x : ApiAt) (v0 : Value) : List (List Value) := [[.int .i64 x.Pos], [v0]]
def ApiAtW (μ : Store) (x : ApiAt) (v0 : Value) : Prop := InR .i64 x.Pos ∧ ErS μ v0 x.Err
def RApiAt (μ : Store) (x : ApiAt) (c : List Value) : Prop := ∃ v0 : Value, c = (ApiAtC x v0).flatten ∧ ApiAtW μ x v0
theorem ApiAtW.le {μ ν : Store} (hl : μ.le ν) {x : ApiAt} {v0 : Value} (h : ApiAtW μ x v0) : ApiAtW ν x v0 := let ⟨h0, h1⟩ := h; ⟨h0, h1.le (fun _ _ h => h) hl⟩
theorem RApiAt.ones {μ : Store} : ∀ x c, RApiAt μ x c → ∀ u ∈ c, u.oneCell' = true := by
  rintro x c ⟨v0, rfl, hw⟩ u hu
  simp only [ApiAtC, List.flatten_cons, List.flatten_nil, List.append_nil, List.mem_append, List.mem_singleton, List.mem_cons, List.not_mem_nil, or_false] at hu
  have hs0 := ErV.one (hw.2)
  rcases hu with hu | hu <;> first | exact one_av _ _ _ _ hu | (subst hu; rfl) | (subst hu; exact hs0)
theorem RApiAt.le {μ ν : Store} (hl : μ.le ν) {x : ApiAt} {c : List Value} (h : RApiAt μ x c) : RApiAt ν x c := let ⟨v0, h0, h1⟩ := h; ⟨v0, h0, h1.le hl⟩
structure sargassorefFault where
  Code : Int
  Placed : Bool
  Pos : Int
  Outer : Bool
  At : Int
deriving Inhabited, DecidableEq
def sargassorefFaultC (x : sargassorefFault) : List (List Value) := [[.int .i64 x.Code], [.bool x.Placed], [.int .i64 x.Pos], [.bool x.Outer], [.int .i64 x.At]]
def sargassorefFaultW (μ : Store) (x : sargassorefFault) : Prop := InR .i64 x.Code ∧ InR .i64 x.Pos ∧ InR .i64 x.At
def RsargassorefFault (μ : Store) (x : sargassorefFault) (c : List Value) : Prop := c = (sargassorefFaultC x).flatten ∧ sargassorefFaultW μ x
theorem sargassorefFaultW.le {μ ν : Store} (hl : μ.le ν) {x : sargassorefFault} (h : sargassorefFaultW μ x) : sargassorefFaultW ν x := let ⟨h0, h1, h2⟩ := h; ⟨h0, h1, h2⟩
theorem RsargassorefFault.ones {μ : Store} : ∀ x c, RsargassorefFault μ x c → ∀ u ∈ c, u.oneCell' = true := by
  rintro x c ⟨rfl, hw⟩ u hu
  simp only [sargassorefFaultC, List.flatten_cons, List.flatten_nil, List.append_nil, List.mem_append, List.mem_singleton, List.mem_cons, List.not_mem_nil, or_false] at hu
  rcases hu with hu | hu | hu | hu | hu <;> first | exact one_av _ _ _ _ hu | (subst hu; rfl)
theorem RsargassorefFault.le {μ ν : Store} (hl : μ.le ν) {x : sargassorefFault} {c : List Value} (h : RsargassorefFault μ x c) : RsargassorefFault ν x c := let ⟨h0, h1⟩ := h; ⟨h0, h1.le hl⟩
structure treeNode where
  head : Head
  height : Int
  work : Int
  up : List (List Int)
deriving Inhabited, DecidableEq
def treeNodeC (x : treeNode) (v0 : Value) : List (List Value) := [[.int .u32 x.head.Version], av .u8 32 x.head.Prev, av .u8 32 x.head.Root, [.int .u32 x.head.Time], [.int .u32 x.head.Work], [.int .u32 x.head.Nonce], [.int .i64 x.height], [.int .u64 x.work], [v0]]
def treeNodeW (μ : Store) (x : treeNode) (v0 : Value) : Prop := InR .u32 x.head.Version ∧ Arr .u8 32 x.head.Prev ∧ Arr .u8 32 x.head.Root ∧ InR .u32 x.head.Time ∧ InR .u32 x.head.Work ∧ InR .u32 x.head.Nonce ∧ InR .i64 x.height ∧ InR .u64 x.work ∧ Slc (RA .u8 32) 32 μ v0 x.up
def RtreeNode (μ : Store) (x : treeNode) (c : List Value) : Prop := ∃ v0 : Value, c = (treeNodeC x v0).flatten ∧ treeNodeW μ x v0
theorem treeNodeW.le {μ ν : Store} (hl : μ.le ν) {x : treeNode} {v0 : Value} (h : treeNodeW μ x v0) : treeNodeW ν x v0 := let ⟨h0, h1, h2, h3, h4, h5, h6, h7, h8⟩ := h; ⟨h0, h1, h2, h3, h4, h5, h6, h7, h8.le (fun _ _ h => h) hl⟩
theorem RtreeNode.ones {μ : Store} : ∀ x c, RtreeNode μ x c → ∀ u ∈ c, u.oneCell' = true := by
  rintro x c ⟨v0, rfl, hw⟩ u hu
  simp only [treeNodeC, List.flatten_cons, List.flatten_nil, List.append_nil, List.mem_append, List.mem_singleton, List.mem_cons, List.not_mem_nil, or_false] at hu
  obtain ⟨_, hs0⟩ := Slc.sv (hw.2.2.2.2.2.2.2.2)
  rcases hu with hu | hu | hu | hu | hu | hu | hu | hu | hu <;> first | exact one_av _ _ _ _ hu | (subst hu; rfl) | (subst hu; exact one_sl hs0)
theorem RtreeNode.le {μ ν : Store} (hl : μ.le ν) {x : treeNode} {c : List Value} (h : RtreeNode μ x c) : RtreeNode ν x c := let ⟨v0, h0, h1⟩ := h; ⟨v0, h0, h1.le hl⟩
structure treeTree where
  m : List ((List Int) × treeNode)
  start : List Int
deriving Inhabited, DecidableEq
abbrev kv95 (x : List Int) : Value := .agg [av .u8 32 x].flatten.toArray
abbrev nq95 (μ : Store) (x : treeNode) (cs : List Value) : Prop := HeadW μ x.head ∧ InR .i64 x.height ∧ InR .u64 x.work ∧ Els (RA .u8 32) 32 x.up cs
abbrev nw95 (μ : Store) (m : List ((List Int) × treeNode)) (gs : (List Int) → NG) : Prop := NdW (fun x : List Int => Arr .u8 32 x) (nq95 μ) m gs
abbrev nd95 (g : Nat) (m : List ((List Int) × treeNode)) (gs : (List Int) → NG) : It := ndI treeNodeC 94 26 32 (fun x => x.up.length) kv95 g m gs
abbrev nr95 (g : Nat) (m : List ((List Int) × treeNode)) (gs : (List Int) → NG) (k : List Int) : It := ndR treeNodeC 94 26 32 (fun x => x.up.length) kv95 g m gs k
theorem nw95.le {μ ν : Store} {m : List ((List Int) × treeNode)} {gs : (List Int) → NG} (hl : μ.le ν) (h : nw95 μ m gs) : nw95 ν m gs := NdW.mono h fun _ _ h => ⟨(h.1).le hl, h.2.1, h.2.2.1, h.2.2.2⟩
end Go.Proofs.YtdngkgkkblfcjaaDoor.T
namespace Go.Proofs.YtdngkgkkblfcjaaDoor.T
open Go Go.Proofs Go.Proofs.YtdngkgkkblfcjaaDoor.K
set_option linter.unusedVariables false
set_option linter.unusedSimpArgs false
theorem mo : Tryd.prog.follows .mixedOrders = true := by kernel_rfl
theorem sz2 : (Tryd.prog.info? 2).map (·.size) = some 1 := by kernel_rfl
theorem sz3 : (Tryd.prog.info? 3).map (·.size) = some 1 := by kernel_rfl
theorem sz5 : (Tryd.prog.info? 5).map (·.size) = some 1 := by kernel_rfl
theorem sz24 : (Tryd.prog.info? 24).map (·.size) = some 1 := by kernel_rfl
theorem sz26 : (Tryd.prog.info? 26).map (·.size) = some 32 := by kernel_rfl
theorem sz28 : (Tryd.prog.info? 28).map (·.size) = some 68 := by kernel_rfl
theorem sz29 : (Tryd.prog.info? 29).map (·.size) = some 1 := by kernel_rfl
theorem sz30 : (Tryd.prog.info? 30).map (·.size) = some 1 := by kernel_rfl
theorem sz32 : (Tryd.prog.info? 32).map (·.size) = some 4 := by kernel_rfl
theorem sz34 : (Tryd.prog.info? 34).map (·.size) = some 1 := by kernel_rfl
theorem sz35 : (Tryd.prog.info? 35).map (·.size) = some 1 := by kernel_rfl
theorem sz37 : (Tryd.prog.info? 37).map (·.size) = some 69 := by kernel_rfl
theorem sz39 : (Tryd.prog.info? 39).map (·.size) = some 33 := by kernel_rfl
theorem sz40 : (Tryd.prog.info? 40).map (·.size) = some 1 := by kernel_rfl
theorem sz42 : (Tryd.prog.info? 42).map (·.size) = some 35 := by kernel_rfl
theorem sz44 : (Tryd.prog.info? 44).map (·.size) = some 33 := by kernel_rfl
theorem sz62 : (Tryd.prog.info? 62).map (·.size) = some 1 := by kernel_rfl
theorem sz95 : (Tryd.prog.info? 95).map (·.size) = some 1 := by kernel_rfl
theorem sz165 : (Tryd.prog.info? 165).map (·.size) = some 8 := by kernel_rfl
theorem sz188 : (Tryd.prog.info? 188).map (·.size) = some 64 := by kernel_rfl
theorem eg26 : Tryd.prog.eqGuardType Tryd.prog.depth 26 = false := by kernel_rfl
theorem cf8 : CalleeF Tryd.prog 8 := ⟨Tryd.f8, Tryd.func8, by decide, rfl⟩
theorem cf9 : CalleeF Tryd.prog 9 := ⟨Tryd.f9, Tryd.func9, by decide, rfl⟩
theorem cf15 : CalleeF Tryd.prog 15 := ⟨Tryd.f15, Tryd.func15, by decide, rfl⟩
theorem cf16 : CalleeF Tryd.prog 16 := ⟨Tryd.f16, Tryd.func16, by decide, rfl⟩
theorem cf17 : CalleeF Tryd.prog 17 := ⟨Tryd.f17, Tryd.func17, by decide, rfl⟩
theorem cf18 : CalleeF Tryd.prog 18 := ⟨Tryd.f18, Tryd.func18, by decide, rfl⟩
theorem cf19 : CalleeF Tryd.prog 19 := ⟨Tryd.f19, Tryd.func19, by decide, rfl⟩
theorem cf20 : CalleeF Tryd.prog 20 := ⟨Tryd.f20, Tryd.func20, by decide, rfl⟩
theorem cf21 : CalleeF Tryd.prog 21 := ⟨Tryd.f21, Tryd.func21, by decide, rfl⟩
theorem cf22 : CalleeF Tryd.prog 22 := ⟨Tryd.f22, Tryd.func22, by decide, rfl⟩
theorem cf23 : CalleeF Tryd.prog 23 := ⟨Tryd.f23, Tryd.func23, by decide, rfl⟩
theorem cf25 : CalleeF Tryd.prog 25 := ⟨Tryd.f25, Tryd.func25, by decide, rfl⟩
theorem cf27 : CalleeF Tryd.prog 27 := ⟨Tryd.f27, Tryd.func27, by decide, rfl⟩
theorem cf36 : CalleeF Tryd.prog 36 := ⟨Tryd.f36, Tryd.func36, by decide, rfl⟩
theorem cf37 : CalleeF Tryd.prog 37 := ⟨Tryd.f37, Tryd.func37, by decide, rfl⟩
theorem cf47 : CalleeF Tryd.prog 47 := ⟨Tryd.f47, Tryd.func47, by decide, rfl⟩
theorem cf48 : CalleeF Tryd.prog 48 := ⟨Tryd.f48, Tryd.func48, by decide, rfl⟩
theorem cf49 : CalleeF Tryd.prog 49 := ⟨Tryd.f49, Tryd.func49, by decide, rfl⟩
theorem cf50 : CalleeF Tryd.prog 50 := ⟨Tryd.f50, Tryd.func50, by decide, rfl⟩
theorem cf51 : CalleeF Tryd.prog 51 := ⟨Tryd.f51, Tryd.func51, by decide, rfl⟩
theorem cf52 : CalleeF Tryd.prog 52 := ⟨Tryd.f52, Tryd.func52, by decide, rfl⟩
theorem cf53 : CalleeF Tryd.prog 53 := ⟨Tryd.f53, Tryd.func53, by decide, rfl⟩
theorem cf54 : CalleeF Tryd.prog 54 := ⟨Tryd.f54, Tryd.func54, by decide, rfl⟩
theorem cf55 : CalleeF Tryd.prog 55 := ⟨Tryd.f55, Tryd.func55, by decide, rfl⟩
theorem cf63 : CalleeF Tryd.prog 63 := ⟨Tryd.f63, Tryd.func63, by decide, rfl⟩
theorem cf70 : CalleeF Tryd.prog 70 := ⟨Tryd.f70, Tryd.func70, by decide, rfl⟩
theorem cf71 : CalleeF Tryd.prog 71 := ⟨Tryd.f71, Tryd.func71, by decide, rfl⟩
theorem cf72 : CalleeF Tryd.prog 72 := ⟨Tryd.f72, Tryd.func72, by decide, rfl⟩
theorem cf73 : CalleeF Tryd.prog 73 := ⟨Tryd.f73, Tryd.func73, by decide, rfl⟩
theorem cf74 : CalleeF Tryd.prog 74 := ⟨Tryd.f74, Tryd.func74, by decide, rfl⟩
theorem cf75 : CalleeF Tryd.prog 75 := ⟨Tryd.f75, Tryd.func75, by decide, rfl⟩
theorem cf76 : CalleeF Tryd.prog 76 := ⟨Tryd.f76, Tryd.func76, by decide, rfl⟩
theorem cf82 : CalleeF Tryd.prog 82 := ⟨Tryd.f82, Tryd.func82, by decide, rfl⟩
theorem cf83 : CalleeF Tryd.prog 83 := ⟨Tryd.f83, Tryd.func83, by decide, rfl⟩
theorem cf85 : CalleeF Tryd.prog 85 := ⟨Tryd.f85, Tryd.func85, by decide, rfl⟩
theorem cf99 : CalleeF Tryd.prog 99 := ⟨Tryd.f99, Tryd.func99, by decide, rfl⟩
theorem cf100 : CalleeF Tryd.prog 100 := ⟨Tryd.f100, Tryd.func100, by decide, rfl⟩
theorem cf105 : CalleeF Tryd.prog 105 := ⟨Tryd.f105, Tryd.func105, by decide, rfl⟩
theorem cf106 : CalleeF Tryd.prog 106 := ⟨Tryd.f106, Tryd.func106, by decide, rfl⟩
theorem cf107 : CalleeF Tryd.prog 107 := ⟨Tryd.f107, Tryd.func107, by decide, rfl⟩
theorem cf108 : CalleeF Tryd.prog 108 := ⟨Tryd.f108, Tryd.func108, by decide, rfl⟩
theorem cf109 : CalleeF Tryd.prog 109 := ⟨Tryd.f109, Tryd.func109, by decide, rfl⟩
theorem cf116 : CalleeF Tryd.prog 116 := ⟨Tryd.f116, Tryd.func116, by decide, rfl⟩
theorem cf117 : CalleeF Tryd.prog 117 := ⟨Tryd.f117, Tryd.func117, by decide, rfl⟩
theorem cf122 : CalleeF Tryd.prog 122 := ⟨Tryd.f122, Tryd.func122, by decide, rfl⟩
theorem cf123 : CalleeF Tryd.prog 123 := ⟨Tryd.f123, Tryd.func123, by decide, rfl⟩
theorem cf124 : CalleeF Tryd.prog 124 := ⟨Tryd.f124, Tryd.func124, by decide, rfl⟩
theorem cf125 : CalleeF Tryd.prog 125 := ⟨Tryd.f125, Tryd.func125, by decide, rfl⟩
theorem cf136 : CalleeF Tryd.prog 136 := ⟨Tryd.f136, Tryd.func136, by decide, rfl⟩
theorem cf137 : CalleeF Tryd.prog 137 := ⟨Tryd.f137, Tryd.func137, by decide, rfl⟩
theorem cf138 : CalleeF Tryd.prog 138 := ⟨Tryd.f138, Tryd.func138, by decide, rfl⟩
theorem cf139 : CalleeF Tryd.prog 139 := ⟨Tryd.f139, Tryd.func139, by decide, rfl⟩
theorem cf140 : CalleeF Tryd.prog 140 := ⟨Tryd.f140, Tryd.func140, by decide, rfl⟩
theorem cf146 : CalleeF Tryd.prog 146 := ⟨Tryd.f146, Tryd.func146, by decide, rfl⟩
theorem zr5 : ∃ z, (Tryd.prog.info? 5).map (·.zero) = some (some z) ∧ z.cells = ([[.int .u8 0]] : List (List Value)).flatten.toArray := ⟨.int .u8 0, by kernel_rfl, by kernel_rfl⟩
theorem zr24 : ∃ z, (Tryd.prog.info? 24).map (·.zero) = some (some z) ∧ z.cells = ([[.int .u32 0]] : List (List Value)).flatten.toArray := ⟨.int .u32 0, by kernel_rfl, by kernel_rfl⟩
theorem zr26 : ∃ z, (Tryd.prog.info? 26).map (·.zero) = some (some z) ∧ z.cells = ([av .u8 32 (List.replicate 32 0)] : List (List Value)).flatten.toArray := ⟨.agg #[.int .u8 0, .int .u8 0, .int .u8 0, .int .u8 0, .int .u8 0, .int .u8 0, .int .u8 0, .int .u8 0, .int .u8 0, .int .u8 0, .int .u8 0, .int .u8 0, .int .u8 0, .int .u8 0, .int .u8 0, .int .u8 0, .int .u8 0, .int .u8 0, .int .u8 0, .int .u8 0, .int .u8 0, .int .u8 0, .int .u8 0, .int .u8 0, .int .u8 0, .int .u8 0, .int .u8 0, .int .u8 0, .int .u8 0, .int .u8 0, .int .u8 0, .int .u8 0], by kernel_rfl, by kernel_rfl⟩
theorem zr28 : ∃ z, (Tryd.prog.info? 28).map (·.zero) = some (some z) ∧ z.cells = ([[.int .u32 0], av .u8 32 (List.replicate 32 0), av .u8 32 (List.replicate 32 0), [.int .u32 0], [.int .u32 0], [.int .u32 0]] : List (List Value)).flatten.toArray := ⟨.agg #[.int .u32 0, .int .u8 0, .int .u8 0, .int .u8 0, .int .u8 0, .int .u8 0, .int .u8 0, .int .u8 0, .int .u8 0, .int .u8 0, .int .u8 0, .int .u8 0, .int .u8 0, .int .u8 0, .int .u8 0, .int .u8 0, .int .u8 0, .int .u8 0, .int .u8 0, .int .u8 0, .int .u8 0, .int .u8 0, .int .u8 0, .int .u8 0, .int .u8 0, .int .u8 0, .int .u8 0, .int .u8 0, .int .u8 0, .int .u8 0, .int .u8 0, .int .u8 0, .int .u8 0, .int .u8 0, .int .u8 0, .int .u8 0, .int .u8 0, .int .u8 0, .int .u8 0, .int .u8 0, .int .u8 0, .int .u8 0, .int .u8 0, .int .u8 0, .int .u8 0, .int .u8 0, .int .u8 0, .int .u8 0, .int .u8 0, .int .u8 0, .int .u8 0, .int .u8 0, .int .u8 0, .int .u8 0, .int .u8 0, .int .u8 0, .int .u8 0, .int .u8 0, .int .u8 0, .int .u8 0, .int .u8 0, .int .u8 0, .int .u8 0, .int .u8 0, .int .u8 0, .int .u32 0, .int .u32 0, .int .u32 0], by kernel_rfl, by kernel_rfl⟩
theorem zr32 : ∃ z, (Tryd.prog.info? 32).map (·.zero) = some (some z) ∧ z.cells = ([[.int .u32 0], [(.slice none 0 0)], [(.slice none 0 0)], [.int .u32 0]] : List (List Value)).flatten.toArray := ⟨.agg #[.int .u32 0, .slice none 0 0, .slice none 0 0, .int .u32 0], by kernel_rfl, by kernel_rfl⟩
theorem zr37 : ∃ z, (Tryd.prog.info? 37).map (·.zero) = some (some z) ∧ z.cells = ([[.int .u32 0], av .u8 32 (List.replicate 32 0), av .u8 32 (List.replicate 32 0), [.int .u32 0], [.int .u32 0], [.int .u32 0], [(.slice none 0 0)]] : List (List Value)).flatten.toArray := ⟨.agg #[.int .u32 0, .int .u8 0, .int .u8 0, .int .u8 0, .int .u8 0, .int .u8 0, .int .u8 0, .int .u8 0, .int .u8 0, .int .u8 0, .int .u8 0, .int .u8 0, .int .u8 0, .int .u8 0, .int .u8 0, .int .u8 0, .int .u8 0, .int .u8 0, .int .u8 0, .int .u8 0, .int .u8 0, .int .u8 0, .int .u8 0, .int .u8 0, .int .u8 0, .int .u8 0, .int .u8 0, .int .u8 0, .int .u8 0, .int .u8 0, .int .u8 0, .int .u8 0, .int .u8 0, .int .u8 0, .int .u8 0, .int .u8 0, .int .u8 0, .int .u8 0, .int .u8 0, .int .u8 0, .int .u8 0, .int .u8 0, .int .u8 0, .int .u8 0, .int .u8 0, .int .u8 0, .int .u8 0, .int .u8 0, .int .u8 0, .int .u8 0, .int .u8 0, .int .u8 0, .int .u8 0, .int .u8 0, .int .u8 0, .int .u8 0, .int .u8 0, .int .u8 0, .int .u8 0, .int .u8 0, .int .u8 0, .int .u8 0, .int .u8 0, .int .u8 0, .int .u8 0, .int .u32 0, .int .u32 0, .int .u32 0, .slice none 0 0], by kernel_rfl, by kernel_rfl⟩
theorem zr39 : ∃ z, (Tryd.prog.info? 39).map (·.zero) = some (some z) ∧ z.cells = ([av .u8 32 (List.replicate 32 0), [.int .u32 0]] : List (List Value)).flatten.toArray := ⟨.agg #[.int .u8 0, .int .u8 0, .int .u8 0, .int .u8 0, .int .u8 0, .int .u8 0, .int .u8 0, .int .u8 0, .int .u8 0, .int .u8 0, .int .u8 0, .int .u8 0, .int .u8 0, .int .u8 0, .int .u8 0, .int .u8 0, .int .u8 0, .int .u8 0, .int .u8 0, .int .u8 0, .int .u8 0, .int .u8 0, .int .u8 0, .int .u8 0, .int .u8 0, .int .u8 0, .int .u8 0, .int .u8 0, .int .u8 0, .int .u8 0, .int .u8 0, .int .u8 0, .int .u32 0], by kernel_rfl, by kernel_rfl⟩
theorem zr40 : ∃ z, (Tryd.prog.info? 40).map (·.zero) = some (some z) ∧ z.cells = ([[(.slice none 0 0)]] : List (List Value)).flatten.toArray := ⟨.slice none 0 0, by kernel_rfl, by kernel_rfl⟩
theorem zr42 : ∃ z, (Tryd.prog.info? 42).map (·.zero) = some (some z) ∧ z.cells = ([av .u8 32 (List.replicate 32 0), [.int .u32 0], [(.slice none 0 0)], [.int .u32 0]] : List (List Value)).flatten.toArray := ⟨.agg #[.int .u8 0, .int .u8 0, .int .u8 0, .int .u8 0, .int .u8 0, .int .u8 0, .int .u8 0, .int .u8 0, .int .u8 0, .int .u8 0, .int .u8 0, .int .u8 0, .int .u8 0, .int .u8 0, .int .u8 0, .int .u8 0, .int .u8 0, .int .u8 0, .int .u8 0, .int .u8 0, .int .u8 0, .int .u8 0, .int .u8 0, .int .u8 0, .int .u8 0, .int .u8 0, .int .u8 0, .int .u8 0, .int .u8 0, .int .u8 0, .int .u8 0, .int .u8 0, .int .u32 0, .slice none 0 0, .int .u32 0], by kernel_rfl, by kernel_rfl⟩
theorem zr44 : ∃ z, (Tryd.prog.info? 44).map (·.zero) = some (some z) ∧ z.cells = ([[.int .u64 0], av .u8 32 (List.replicate 32 0)] : List (List Value)).flatten.toArray := ⟨.agg #[.int .u64 0, .int .u8 0, .int .u8 0, .int .u8 0, .int .u8 0, .int .u8 0, .int .u8 0, .int .u8 0, .int .u8 0, .int .u8 0, .int .u8 0, .int .u8 0, .int .u8 0, .int .u8 0, .int .u8 0, .int .u8 0, .int .u8 0, .int .u8 0, .int .u8 0, .int .u8 0, .int .u8 0, .int .u8 0, .int .u8 0, .int .u8 0, .int .u8 0, .int .u8 0, .int .u8 0, .int .u8 0, .int .u8 0, .int .u8 0, .int .u8 0, .int .u8 0, .int .u8 0], by kernel_rfl, by kernel_rfl⟩
theorem zr94 : ∃ z, (Tryd.prog.info? 94).map (·.zero) = some (some z) ∧ z.cells = ([[.int .u32 0], av .u8 32 (List.replicate 32 0), av .u8 32 (List.replicate 32 0), [.int .u32 0], [.int .u32 0], [.int .u32 0], [.int .i64 0], [.int .u64 0], [(.slice none 0 0)]] : List (List Value)).flatten.toArray := ⟨.agg #[.int .u32 0, .int .u8 0, .int .u8 0, .int .u8 0, .int .u8 0, .int .u8 0, .int .u8 0, .int .u8 0, .int .u8 0, .int .u8 0, .int .u8 0, .int .u8 0, .int .u8 0, .int .u8 0, .int .u8 0, .int .u8 0, .int .u8 0, .int .u8 0, .int .u8 0, .int .u8 0, .int .u8 0, .int .u8 0, .int .u8 0, .int .u8 0, .int .u8 0, .int .u8 0, .int .u8 0, .int .u8 0, .int .u8 0, .int .u8 0, .int .u8 0, .int .u8 0, .int .u8 0, .int .u8 0, .int .u8 0, .int .u8 0, .int .u8 0, .int .u8 0, .int .u8 0, .int .u8 0, .int .u8 0, .int .u8 0, .int .u8 0, .int .u8 0, .int .u8 0, .int .u8 0, .int .u8 0, .int .u8 0, .int .u8 0, .int .u8 0, .int .u8 0, .int .u8 0, .int .u8 0, .int .u8 0, .int .u8 0, .int .u8 0, .int .u8 0, .int .u8 0, .int .u8 0, .int .u8 0, .int .u8 0, .int .u8 0, .int .u8 0, .int .u8 0, .int .u8 0, .int .u32 0, .int .u32 0, .int .u32 0, .int .i64 0, .int .u64 0, .slice none 0 0], by kernel_rfl, by kernel_rfl⟩
theorem zr97 : ∃ z, (Tryd.prog.info? 97).map (·.zero) = some (some z) ∧ z.cells = ([[.map none], av .u8 32 (List.replicate 32 0)] : List (List Value)).flatten.toArray := ⟨.agg #[.map none, .int .u8 0, .int .u8 0, .int .u8 0, .int .u8 0, .int .u8 0, .int .u8 0, .int .u8 0, .int .u8 0, .int .u8 0, .int .u8 0, .int .u8 0, .int .u8 0, .int .u8 0, .int .u8 0, .int .u8 0, .int .u8 0, .int .u8 0, .int .u8 0, .int .u8 0, .int .u8 0, .int .u8 0, .int .u8 0, .int .u8 0, .int .u8 0, .int .u8 0, .int .u8 0, .int .u8 0, .int .u8 0, .int .u8 0, .int .u8 0, .int .u8 0, .int .u8 0], by kernel_rfl, by kernel_rfl⟩
theorem zr165 : ∃ z, (Tryd.prog.info? 165).map (·.zero) = some (some z) ∧ z.cells = ([av .u32 8 (List.replicate 8 0)] : List (List Value)).flatten.toArray := ⟨.agg #[.int .u32 0, .int .u32 0, .int .u32 0, .int .u32 0, .int .u32 0, .int .u32 0, .int .u32 0, .int .u32 0], by kernel_rfl, by kernel_rfl⟩
theorem zr167 : ∃ z, (Tryd.prog.info? 167).map (·.zero) = some (some z) ∧ z.cells = ([av .u32 8 (List.replicate 8 0), [(.slice none 0 0)], [.int .i64 0]] : List (List Value)).flatten.toArray := ⟨.agg #[.int .u32 0, .int .u32 0, .int .u32 0, .int .u32 0, .int .u32 0, .int .u32 0, .int .u32 0, .int .u32 0, .slice none 0 0, .int .i64 0], by kernel_rfl, by kernel_rfl⟩
theorem zr188 : ∃ z, (Tryd.prog.info? 188).map (·.zero) = some (some z) ∧ z.cells = ([av .u32 64 (List.replicate 64 0)] : List (List Value)).flatten.toArray := ⟨.agg #[.int .u32 0, .int .u32 0, .int .u32 0, .int .u32 0, .int .u32 0, .int .u32 0, .int .u32 0, .int .u32 0, .int .u32 0, .int .u32 0, .int .u32 0, .int .u32 0, .int .u32 0, .int .u32 0, .int .u32 0, .int .u32 0, .int .u32 0, .int .u32 0, .int .u32 0, .int .u32 0, .int .u32 0, .int .u32 0, .int .u32 0, .int .u32 0, .int .u32 0, .int .u32 0, .int .u32 0, .int .u32 0, .int .u32 0, .int .u32 0, .int .u32 0, .int .u32 0, .int .u32 0, .int .u32 0, .int .u32 0, .int .u32 0, .int .u32 0, .int .u32 0, .int .u32 0, .int .u32 0, .int .u32 0, .int .u32 0, .int .u32 0, .int .u32 0, .int .u32 0, .int .u32 0, .int .u32 0, .int .u32 0, .int .u32 0, .int .u32 0, .int .u32 0, .int .u32 0, .int .u32 0, .int .u32 0, .int .u32 0, .int .u32 0, .int .u32 0, .int .u32 0, .int .u32 0, .int .u32 0, .int .u32 0, .int .u32 0, .int .u32 0, .int .u32 0], by kernel_rfl, by kernel_rfl⟩
theorem te5 : TyE Tryd.prog 5 1 1 := TyE.of (by kernel_rfl) (by kernel_rfl) ⟨.int .u8 0, by kernel_rfl, by kernel_rfl⟩
theorem te24 : TyE Tryd.prog 24 1 4 := TyE.of (by kernel_rfl) (by kernel_rfl) ⟨.int .u32 0, by kernel_rfl, by kernel_rfl⟩
theorem te26 : TyE Tryd.prog 26 32 32 := TyE.of (by kernel_rfl) (by kernel_rfl) ⟨.agg #[.int .u8 0, .int .u8 0, .int .u8 0, .int .u8 0, .int .u8 0, .int .u8 0, .int .u8 0, .int .u8 0, .int .u8 0, .int .u8 0, .int .u8 0, .int .u8 0, .int .u8 0, .int .u8 0, .int .u8 0, .int .u8 0, .int .u8 0, .int .u8 0, .int .u8 0, .int .u8 0, .int .u8 0, .int .u8 0, .int .u8 0, .int .u8 0, .int .u8 0, .int .u8 0, .int .u8 0, .int .u8 0, .int .u8 0, .int .u8 0, .int .u8 0, .int .u8 0], by kernel_rfl, by kernel_rfl⟩
theorem te28 : TyE Tryd.prog 28 68 80 := TyE.of (by kernel_rfl) (by kernel_rfl) ⟨.agg #[.int .u32 0, .int .u8 0, .int .u8 0, .int .u8 0, .int .u8 0, .int .u8 0, .int .u8 0, .int .u8 0, .int .u8 0, .int .u8 0, .int .u8 0, .int .u8 0, .int .u8 0, .int .u8 0, .int .u8 0, .int .u8 0, .int .u8 0, .int .u8 0, .int .u8 0, .int .u8 0, .int .u8 0, .int .u8 0, .int .u8 0, .int .u8 0, .int .u8 0, .int .u8 0, .int .u8 0, .int .u8 0, .int .u8 0, .int .u8 0, .int .u8 0, .int .u8 0, .int .u8 0, .int .u8 0, .int .u8 0, .int .u8 0, .int .u8 0, .int .u8 0, .int .u8 0, .int .u8 0, .int .u8 0, .int .u8 0, .int .u8 0, .int .u8 0, .int .u8 0, .int .u8 0, .int .u8 0, .int .u8 0, .int .u8 0, .int .u8 0, .int .u8 0, .int .u8 0, .int .u8 0, .int .u8 0, .int .u8 0, .int .u8 0, .int .u8 0, .int .u8 0, .int .u8 0, .int .u8 0, .int .u8 0, .int .u8 0, .int .u8 0, .int .u8 0, .int .u8 0, .int .u32 0, .int .u32 0, .int .u32 0], by kernel_rfl, by kernel_rfl⟩
theorem te32 : TyE Tryd.prog 32 4 64 := TyE.of (by kernel_rfl) (by kernel_rfl) ⟨.agg #[.int .u32 0, .slice none 0 0, .slice none 0 0, .int .u32 0], by kernel_rfl, by kernel_rfl⟩
theorem te40 : TyE Tryd.prog 40 1 24 := TyE.of (by kernel_rfl) (by kernel_rfl) ⟨.slice none 0 0, by kernel_rfl, by kernel_rfl⟩
theorem te42 : TyE Tryd.prog 42 35 72 := TyE.of (by kernel_rfl) (by kernel_rfl) ⟨.agg #[.int .u8 0, .int .u8 0, .int .u8 0, .int .u8 0, .int .u8 0, .int .u8 0, .int .u8 0, .int .u8 0, .int .u8 0, .int .u8 0, .int .u8 0, .int .u8 0, .int .u8 0, .int .u8 0, .int .u8 0, .int .u8 0, .int .u8 0, .int .u8 0, .int .u8 0, .int .u8 0, .int .u8 0, .int .u8 0, .int .u8 0, .int .u8 0, .int .u8 0, .int .u8 0, .int .u8 0, .int .u8 0, .int .u8 0, .int .u8 0, .int .u8 0, .int .u8 0, .int .u32 0, .slice none 0 0, .int .u32 0], by kernel_rfl, by kernel_rfl⟩
theorem te44 : TyE Tryd.prog 44 33 40 := TyE.of (by kernel_rfl) (by kernel_rfl) ⟨.agg #[.int .u64 0, .int .u8 0, .int .u8 0, .int .u8 0, .int .u8 0, .int .u8 0, .int .u8 0, .int .u8 0, .int .u8 0, .int .u8 0, .int .u8 0, .int .u8 0, .int .u8 0, .int .u8 0, .int .u8 0, .int .u8 0, .int .u8 0, .int .u8 0, .int .u8 0, .int .u8 0, .int .u8 0, .int .u8 0, .int .u8 0, .int .u8 0, .int .u8 0, .int .u8 0, .int .u8 0, .int .u8 0, .int .u8 0, .int .u8 0, .int .u8 0, .int .u8 0, .int .u8 0], by kernel_rfl, by kernel_rfl⟩
theorem laidB : laidOutB Tryd.prog = true := by kernel_rfl
theorem mz95 : (Tryd.prog.info? 92).map (·.zero) = some (some (.pointer none)) := by kernel_rfl
theorem kk95 : Maps.Keyed Tryd.prog 26 := Maps.Keyed.of_law (deep_law_laid laidB (m := 5) (by decide) (of_decide_eq_true (by kernel_rfl)) (by kernel_rfl) (by kernel_rfl))
theorem kn95 : KeyN Tryd.prog 26 kv95 (fun x : List Int => Arr .u8 32 x) := keyN_arr Tryd.underlying26 Tryd.underlying5 (by kernel_rfl) (by kernel_rfl) kk95 (by kernel_rfl) ⟨_, (by kernel_rfl : Tryd.prog.types.size = 222 + 1)⟩
end Go.Proofs.YtdngkgkkblfcjaaDoor.T
namespace Go.Proofs.YtdngkgkkblfcjaaDoor.T
open Go Go.Proofs Go.Proofs.YtdngkgkkblfcjaaDoor.K
set_option linter.unusedVariables false
set_option linter.unusedSimpArgs false
noncomputable def math_bits_RotateLeft32.f (x0 : Int) (x1 : Int) : Option Int := (if 0 ≤ (bAnd .u64 (IntKind.u64.wrap x1) 31) then (if 0 ≤ (IntKind.u64.wrap (32 - (bAnd .u64 (IntKind.u64.wrap x1) 31))) then some (bOr .u32 (sL .u32 x0 (bAnd .u64 (IntKind.u64.wrap x1) 31)) (sR .u32 x0 (IntKind.u64.wrap (32 - (bAnd .u64 (IntKind.u64.wrap x1) 31))))) else none) else none)
noncomputable def sargassoworld_Number.f (x0 : Int) (x1 : Int) : Option Int := (if x1 ≠ 0 then (((if (Int.tmod x0 x1) < 0 then some (IntKind.i64.wrap ((Int.tmod x0 x1) + x1)) else some (Int.tmod x0 x1))).bind fun c1 => some c1) else none)
noncomputable def sargassoref_Bytes.s0 (x0 : List Int) : ((List Int) × Int) → Option (((List Int) × Int) ⊕ (List Int)) := fun (s1, s2) => (if s2 < (x0.length : Int) then (if 0 ≤ s2 ∧ s2 < (x0.length : Int) then (if s1.length + 1 ≤ 140737488355328 then some (.inl (s1 ++ ([(x0.getD s2.toNat 0)] : List Int), IntKind.i64.wrap (s2 + 1))) else none) else none) else some (.inr s1))
noncomputable def sargassoref_Bytes.f (x0 : List Int) : Option (List Int) := (if 0 ≤ (0 : Int) ∧ (0 : Int) ≤ (x0.length : Int) ∧ (x0.length : Int) ≤ 140737488355328 then ((loopO (sargassoref_Bytes.s0 x0) ((List.replicate ((0 : Int).toNat) 0 : List Int), 0)).bind fun c1 => some c1) else none)
noncomputable def sargassoref_SameHash.s0 (x0 : List Int) (x1 : List Int) : Int → Option (Int ⊕ Bool) := fun s1 => (if s1 < 32 then (if 0 ≤ s1 ∧ s1 < 32 then (if (x0.getD s1.toNat 0) ≠ (x1.getD s1.toNat 0) then some (.inr false) else some (.inl (IntKind.i64.wrap (s1 + 1)))) else none) else some (.inr true))
noncomputable def sargassoref_SameHash.f (x0 : List Int) (x1 : List Int) : Option Bool := loopO (sargassoref_SameHash.s0 x0 x1) 0
end Go.Proofs.YtdngkgkkblfcjaaDoor.T
namespace Go.Proofs.YtdngkgkkblfcjaaDoor.T
open Go Go.Proofs Go.Proofs.YtdngkgkkblfcjaaDoor.K
set_option linter.unusedVariables false
set_option linter.unusedSimpArgs false
set_option maxRecDepth 20000 in
theorem math_bits_RotateLeft32.c (μ : Store) (w0 : World) (hμ : Agr μ w0) (x0 : Int) (hx0 : InR .u32 x0) (x1 : Int) (hx1 : InR .i64 x1) (r : Int) (H : math_bits_RotateLeft32.f x0 x1 = some r) :
    Calls Tryd.prog 146 [.int .u32 x0, .int .i64 x1].toArray w0 (fun e w' => ∃ v, e = .returned v ∧ v = .int .u32 r ∧ InR .u32 r ∧ Iv w0 [] μ μ [] w') := by
  refine enter Tryd.func146 rfl Tryd.ntmps146 rfl fun a hA => ?_
  have hI := Iv.start hμ
  have H := bI H
  refine w_seq fun _ hN1 => w_reg <| sta hA rfl rfl fun a hA => ?_
  refine o_nil <| hN1 _ _ <| w_seq fun _ hN2 => w_reg <| stm hA rfl rfl fun a hA => 
    stp hA (r_conv Tryd.underlying3 Tryd.underlying133 hA rfl) rfl fun a hA => 
    stp hA (r_and hA rfl rfl) rfl fun a hA => 
    sta hA rfl rfl fun a hA => ?_
  refine o_nil <| hN2 _ _ <| w_seq fun _ hN3 => w_reg <| stm hA rfl rfl fun a hA => 
    stm hA rfl rfl fun a hA => ?_
  obtain ⟨hb1, H⟩ := bG H
  refine stp hA (r_shl hA rfl rfl hb1) rfl fun a hA => 
    stm hA rfl rfl fun a hA => 
    stm hA rfl rfl fun a hA => 
    stp hA (r_sub hA rfl rfl) rfl fun a hA => ?_
  obtain ⟨hb2, H⟩ := bG H
  refine stp hA (r_shr hA rfl rfl hb2) rfl fun a hA => 
    stp hA (r_or hA rfl rfl) rfl fun a hA => 
    sta hA rfl rfl fun a hA => ?_
  refine o_nil <| hN3 _ _ <| w_ret ?_
  obtain rfl := sJ H
  exact ret1 hA Tryd.results146 rfl ⟨_, rfl, rfl, (wrap_in _ _), hI.forget0⟩
set_option maxRecDepth 20000 in
theorem sargassoworld_Number.c (μ : Store) (w0 : World) (hμ : Agr μ w0) (x0 : Int) (hx0 : InR .i64 x0) (x1 : Int) (hx1 : InR .i64 x1) (r : Int) (H : sargassoworld_Number.f x0 x1 = some r) :
    Calls Tryd.prog 8 [.int .i64 x0, .int .i64 x1].toArray w0 (fun e w' => ∃ v, e = .returned v ∧ v = .int .i64 r ∧ InR .i64 r ∧ Iv w0 [] μ μ [] w') := by
  refine enter Tryd.func8 rfl Tryd.ntmps8 rfl fun a hA => ?_
  have hI := Iv.start hμ
  have H := bI H
  refine w_seq fun _ hN1 => w_reg <| sta hA rfl rfl fun a hA => ?_
  refine o_nil <| hN1 _ _ <| w_seq fun _ hN2 => w_reg <| stm hA rfl rfl fun a hA => 
    stm hA rfl rfl fun a hA => ?_
  obtain ⟨hb1, H⟩ := bG H
  refine stp hA (r_rem hA rfl rfl hb1) rfl fun a hA => 
    sta hA rfl rfl fun a hA => ?_
  refine o_nil <| hN2 _ _ ?_
  obtain ⟨c1, hz1, Hk1⟩ := bB H
  refine w_cut (fun a w => InR .i64 c1 ∧ Fr a 15 [(4, .int .i64 0), (5, .int .i64 c1)] ∧ Iv w0 [] μ μ [] w) ?_ ?_
  · have H := bI hz1
    refine w_seq fun _ hN3 => w_reg <| stm hA rfl rfl fun a hA => 
      stp hA (r_lss hA rfl rfl) rfl fun a hA => ?_
    refine o_nil <| hN3 _ _ <| w_cond hA rfl (fun hc1 => ?_) (fun hc1 => ?_)
    · obtain ⟨hc1, H⟩ := dT H hc1
      refine w_reg <| stm hA rfl rfl fun a hA => 
        stm hA rfl rfl fun a hA => 
        stp hA (r_add hA rfl rfl) rfl fun a hA => 
        sta hA rfl rfl fun a hA => ?_
      refine o_nil ?_
      cases sJ H
      exact ⟨(wrap_in _ _), hA.sub ⟨rfl, rfl, trivial⟩, hI⟩
    · obtain ⟨hc1, H⟩ := dF H hc1
      refine w_skip ?_
      cases sJ H
      exact ⟨(tmod_in hx0 _), hA.sub ⟨rfl, rfl, trivial⟩, hI⟩
  · rintro a w ⟨wc1, hA, hI⟩
    have H := Hk1
    refine w_seq fun _ hN4 => w_reg <| stm hA rfl rfl fun a hA => 
      sta hA rfl rfl fun a hA => ?_
    refine o_nil <| hN4 _ _ <| w_ret ?_
    obtain rfl := sJ H
    exact ret1 hA Tryd.results8 rfl ⟨_, rfl, rfl, wc1, hI.forget0⟩
set_option maxRecDepth 20000 in
theorem sargassoref_Bytes.c (μ : Store) (w0 : World) (hμ : Agr μ w0) (x0 : List Int) (u0 : Value) (hx0 : Slc (RI .u8) 1 μ u0 x0) (r : List Int) (H : sargassoref_Bytes.f x0 = some r) :
    Calls Tryd.prog 74 [u0].toArray w0 (fun e w' => ∃ v, e = .returned v ∧ ∃ (v0 : Value) (c0 : List Value), v = v0 ∧ Els (RI .u8) 1 r c0 ∧ Iv w0 [] μ μ [row 5 1 v0 r.length c0] w') := by
  refine enter Tryd.func74 rfl Tryd.ntmps74 rfl fun a hA => ?_
  have hI := Iv.start hμ
  have H := bI H
  refine w_seq fun _ hN1 => w_reg <| sta hA rfl rfl fun a hA => ?_
  refine o_nil <| hN1 _ _ <| w_seq fun _ hN2 => w_reg <| stm hA rfl rfl fun a hA => ?_
  obtain ⟨_, hsl1⟩ := Slc.sv hx0
  refine stp hA (r_slen Tryd.underlying40 hsl1 hA rfl) rfl fun a hA => ?_
  obtain ⟨hb1, H⟩ := bG H
  refine o_make (RE := (RI .u8)) (c0 := [[.int .u8 0]].flatten) (z0 := 0) ⟨rfl, (in_lit .u8 0 rfl)⟩ te5 rfl zr5 Tryd.underlying40 hI hA rfl rfl (by have hq := hb1; simp only [maxLen]; omega) rfl fun g1 cs1 a w hE1 hA hI => 
    sta hA rfl rfl fun a hA => ?_
  refine o_nil <| hN2 _ _ ?_
  obtain ⟨c1, hz1, Hk1⟩ := bB H
  refine w_cut (fun a w => ∃ (vvc1 : Value) (ccc1 : List Value), Els (RI .u8) 1 c1 ccc1 ∧ Fr a 22 [(2, (.slice none 0 0)), (3, vvc1)] ∧ Iv w0 [] μ μ [row 5 1 vvc1 c1.length ccc1] w) ?_ ?_
  · have H := bI hz1
    refine w_seq fun _ hN3 => w_reg <| sta hA rfl rfl fun a hA => ?_
    refine o_nil <| hN3 _ _ <| w_block ?_
    obtain ⟨z1, hz2, Hk2⟩ := bind_some H
    obtain ⟨n1, hn1⟩ := loopO_some hz2
    refine w_loop (fun n a w => ∃ (s1 : List Int) (s2 : Int) (vvs1 : Value) (ccs1 : List Value), loopN (sargassoref_Bytes.s0 x0) n (s1, s2) = some z1 ∧ Els (RI .u8) 1 s1 ccs1 ∧ InR .i64 s2 ∧ Fr a 22 [(0, u0), (2, (.slice none 0 0)), (3, vvs1), (4, .int .i64 s2)] ∧ Iv w0 [] μ μ [row 5 1 vvs1 s1.length ccs1] w) n1 ⟨(List.replicate ((0 : Int).toNat) 0 : List Int), 0, (.slice (some ⟨g1, 0, none⟩) ((0 : Int).toNat) (((x0.length : Int)).toNat)), cs1, hn1, hE1, (in_lit .i64 0 rfl), hA.sub ⟨rfl, rfl, rfl, rfl, trivial⟩, hI⟩ ?_
    clear hA hI
    rintro n a w ⟨s1, s2, vvs1, ccs1, hn1, ws1, ws2, hA, hI⟩
    obtain ⟨m1, rfl, H⟩ := loopN_bind hn1
    clear hn1
    refine w_seq fun _ hN4 => w_seq fun _ hN5 => w_reg <| stm hA rfl rfl fun a hA => 
      stm hA rfl rfl fun a hA => ?_
    obtain ⟨_, hsl2⟩ := Slc.sv hx0
    refine stp hA (r_slen Tryd.underlying40 hsl2 hA rfl) rfl fun a hA => 
      stp hA (r_lss hA rfl rfl) rfl fun a hA => ?_
    refine o_nil <| hN5 _ _ <| w_cond hA rfl (fun hc1 => ?_) (fun hc1 => ?_)
    · obtain ⟨hc1, H⟩ := dT H hc1
      refine w_skip <| hN4 _ _ <| w_seq fun _ hN6 => w_block <| w_reg <| stm hA rfl rfl fun a hA => 
        stm hA rfl rfl fun a hA => 
        stm hA rfl rfl fun a hA => ?_
      obtain ⟨hb2, H⟩ := bG H
      obtain ⟨_, he1, _, hat1⟩ := Slc.elem1 hx0 (getD_some 0 hb2.1 hb2.2)
      obtain ⟨rfl, hw1⟩ := he1
      obtain ⟨_, hsl3⟩ := Slc.sv hx0
      refine stp hA (r_six1 Tryd.underlying40 sz5 hsl3 hA rfl rfl hb2.1 hb2.2) rfl fun a hA => 
        stp hA (r_ldm1 [] [] Tryd.underlying5 rfl hI.agr hat1 hA rfl rfl) rfl fun a hA => ?_
      have hE2 : Els (RI .u8) 1 ([(x0.getD s2.toNat 0)] : List Int) _ := (Els.cons (c := [[.int .u8 (x0.getD s2.toNat 0)]].flatten) ⟨rfl, hw1⟩ rfl Els.nil)
      refine o_bsl ([[.int .u8 (x0.getD s2.toNat 0)]].flatten ++ ([])) te5 zr5 Tryd.underlying40 hI hA rfl rfl rfl rfl (by kernel_rfl) rfl fun g2 a w hA hI => ?_
      generalize hcs : ([[.int .u8 (x0.getD s2.toNat 0)]].flatten ++ ([]) : List Value) = cs2 at hE2 hI
      clear hcs
      obtain ⟨hb3, H⟩ := bG H
      have hE4 := ws1.app hE2
      refine o_appG (xs := (s1 : List Int)) (ys := (([(x0.getD s2.toNat 0)] : List Int) : List Int)) (M := 140737488355328) 1 te5 Tryd.underlying40 hI rfl hA rfl rfl (src_row hI (j := 0) rfl) hE2.len (hE2.ones (one_RI _)) hb3 rfl fun v1 a w hA hI => 
        sta hA rfl rfl fun a hA => ?_
      refine o_nil <| hN6 _ _ <| w_reg <| stm hA rfl rfl fun a hA => 
        stp hA (r_add hA rfl rfl) rfl fun a hA => 
        sta hA rfl rfl fun a hA => ?_
      refine o_nil <| ⟨m1, Nat.lt_succ_self _, s1 ++ ([(x0.getD s2.toNat 0)] : List Int), IntKind.i64.wrap (s2 + 1), v1, ccs1 ++ cs2, H, hE4, (wrap_in _ _), hA.sub ⟨rfl, rfl, rfl, rfl, trivial⟩, (hI.sl [1] rfl)⟩
    · obtain ⟨hc1, H⟩ := dF H hc1
      refine w_exit rfl ?_
      have H : some s1 = some z1 := H
      obtain rfl := sI H
      have H := Hk2
      cases sJ H
      exact ⟨vvs1, ccs1, ws1, hA.sub ⟨rfl, rfl, trivial⟩, hI⟩
  · rintro a w ⟨vvc1, ccc1, wc1, hA, hI⟩
    have H := Hk1
    refine w_seq fun _ hN7 => w_reg <| stm hA rfl rfl fun a hA => 
      sta hA rfl rfl fun a hA => ?_
    refine o_nil <| hN7 _ _ <| w_ret ?_
    obtain rfl := sJ H
    exact ret1 hA Tryd.results74 rfl ⟨_, rfl, vvc1, ccc1, rfl, wc1, (hI.less (Store.le.refl _) hI.le)⟩
set_option maxRecDepth 20000 in
theorem sargassoref_SameHash.c (μ : Store) (w0 : World) (hμ : Agr μ w0) (x0 : List Int) (hx0 : Arr .u8 32 x0) (x1 : List Int) (hx1 : Arr .u8 32 x1) (r : Bool) (H : sargassoref_SameHash.f x0 x1 = some r) :
    Calls Tryd.prog 23 [.agg [av .u8 32 x0].flatten.toArray, .agg [av .u8 32 x1].flatten.toArray].toArray w0 (fun e w' => ∃ v, e = .returned v ∧ v = .bool r ∧ True ∧ Iv w0 [] μ μ [] w') := by
  refine enter Tryd.func23 rfl Tryd.ntmps23 rfl fun a hA => ?_
  have hI := Iv.start hμ
  have H := bI H
  refine w_seq fun _ hN1 => w_reg <| o_box [av .u8 32 x0] hI hA rfl rfl rfl fun g1 a w hA hI hg1 => 
    o_box [av .u8 32 x1] hI hA rfl rfl rfl fun g2 a w hA hI hg2 => 
    sta hA rfl rfl fun a hA => ?_
  refine o_nil <| hN1 _ _ <| w_seq fun _ hN2 => w_seq fun _ hN3 => w_reg <| sta hA rfl rfl fun a hA => ?_
  refine o_nil <| hN3 _ _ <| w_block ?_
  obtain ⟨z1, hz1, Hk1⟩ := bind_some H
  obtain ⟨n1, hn1⟩ := loopO_some hz1
  refine w_loop (fun n a w => ∃ (s1 : Int), loopN (sargassoref_SameHash.s0 x0 x1) n s1 = some z1 ∧ InR .i64 s1 ∧ Fr a 17 [(2, .pointer (some ⟨g1, 0, none⟩)), (3, .pointer (some ⟨g2, 0, none⟩)), (4, .bool false), (5, .int .i64 s1)] ∧ Iv w0 [] μ μ [cel g2 [av .u8 32 x1] 26, cel g1 [av .u8 32 x0] 26] w) n1 ⟨0, hn1, (in_lit .i64 0 rfl), hA.sub ⟨rfl, rfl, rfl, rfl, trivial⟩, hI⟩ ?_
  clear hA hI
  rintro n a w ⟨s1, hn1, ws1, hA, hI⟩
  obtain ⟨m1, rfl, H⟩ := loopN_bind hn1
  clear hn1
  refine w_seq fun _ hN4 => w_seq fun _ hN5 => w_reg <| stm hA rfl rfl fun a hA => 
    stp hA (r_lss hA rfl rfl) rfl fun a hA => ?_
  refine o_nil <| hN5 _ _ <| w_cond hA rfl (fun hc1 => ?_) (fun hc1 => ?_)
  · obtain ⟨hc1, H⟩ := dT H hc1
    refine w_skip <| hN4 _ _ <| w_seq fun _ hN6 => w_block <| w_seq fun _ hN7 => ?_
    refine w_draw mo (by kernel_rfl) hI ?_
    refine qtp hA (fun _ hI => r_mv hA rfl) rfl fun a hA => ?_
    obtain ⟨hb1, H⟩ := bG H
    refine qtp hA (fun _ hI => r_ixar1 Tryd.underlying26 sz5 hA rfl rfl hb1.1 hb1.2) rfl fun a hA => 
      qtp hA (fun _ hI => r_ldE (j := 1) [] [] Tryd.underlying5 rfl hI rfl hA rfl rfl (by omega)) rfl fun a hA => 
      qtp hA (fun _ hI => r_mv hA rfl) rfl fun a hA => 
      qtp hA (fun _ hI => r_ixar1 Tryd.underlying26 sz5 hA rfl rfl hb1.1 hb1.2) rfl fun a hA => 
      qtp hA (fun _ hI => r_ldE (j := 0) [] [] Tryd.underlying5 rfl hI rfl hA rfl rfl (by omega)) rfl fun a hA => 
      qtp hA (fun _ hI => r_neq hA rfl rfl) rfl fun a hA => ?_
    refine q_nil fun w hI => ?_
    refine hN7 _ _ <| w_cond hA rfl (fun hc2 => ?_) (fun hc2 => ?_)
    · obtain ⟨hc2, H⟩ := dT H hc2
      refine w_seq fun _ hN8 => w_reg <| sta hA rfl rfl fun a hA => ?_
      refine o_nil <| hN8 _ _ <| w_ret ?_
      have H : some false = some z1 := H
      obtain rfl := sI H
      have H := Hk1
      obtain rfl := sJ H
      exact ret1 hA Tryd.results23 rfl ⟨_, rfl, rfl, trivial, hI.forget0⟩
    · obtain ⟨hc2, H⟩ := dF H hc2
      refine w_skip <| hN6 _ _ <| w_reg <| stm hA rfl rfl fun a hA => 
        stp hA (r_add hA rfl rfl) rfl fun a hA => 
        sta hA rfl rfl fun a hA => ?_
      refine o_nil <| ⟨m1, Nat.lt_succ_self _, IntKind.i64.wrap (s1 + 1), H, (wrap_in _ _), hA.sub ⟨rfl, rfl, rfl, rfl, trivial⟩, hI⟩
  · obtain ⟨hc1, H⟩ := dF H hc1
    refine w_exit rfl <| hN2 _ _ <| w_seq fun _ hN9 => w_reg <| sta hA rfl rfl fun a hA => ?_
    refine o_nil <| hN9 _ _ <| w_ret ?_
    have H : some true = some z1 := H
    obtain rfl := sI H
    have H := Hk1
    obtain rfl := sJ H
    exact ret1 hA Tryd.results23 rfl ⟨_, rfl, rfl, trivial, hI.forget0⟩
end Go.Proofs.YtdngkgkkblfcjaaDoor.T
namespace Go.Proofs.YtdngkgkkblfcjaaDoor.T
open Go Go.Proofs Go.Proofs.YtdngkgkkblfcjaaDoor.K
set_option linter.unusedVariables false
set_option linter.unusedSimpArgs false
def bytes_Clone.f (x0 : List Int) : Option (List Int) := if x0.length ≤ 140737488355328 then some x0 else none
noncomputable def compact_number.s0 (x2 : Int) : ((List Int) × Int × Int) → Option (((List Int) × Int × Int) ⊕ ((List Int) × Int)) := fun (s1, s2, s3) => (if s3 < x2 then (if s1.length + 1 ≤ 140737488355328 then some (.inl (s1 ++ ([IntKind.u8.wrap s2] : List Int), sR .u64 s2 8, IntKind.i64.wrap (s3 + 1))) else none) else some (.inr (s1, s2)))
noncomputable def compact_number.f (x0 : List Int) (x1 : Int) (x2 : Int) : Option (List Int) := ((loopO (compact_number.s0 x2) (x0, x1, 0)).bind fun (c1, c2) => some c1)
noncomputable def compact_Four.f (x0 : List Int) (x1 : Int) : Option (List Int) := ((bytes_Clone.f x0).bind fun r1 => ((compact_number.f r1 (IntKind.u64.wrap x1) 4).bind fun r2 => some r2))
noncomputable def compact_Len.f (x0 : Int) : Option Int := (if x0 < 253 then some 1 else (if x0 < 65536 then some 3 else (if x0 < 4294967296 then some 5 else some 9)))
noncomputable def sargassoref1_little.s0 (x1 : Int) (x2 : Int) : ((List Int) × Int) → Option (((List Int) × Int) ⊕ (List Int)) := fun (s1, s2) => (if s2 < x2 then (if 0 ≤ (IntKind.u64.wrap (IntKind.i64.wrap (8 * s2))) then (if s1.length + 1 ≤ 140737488355328 then some (.inl (s1 ++ ([IntKind.u8.wrap (sR .u64 x1 (IntKind.u64.wrap (IntKind.i64.wrap (8 * s2))))] : List Int), IntKind.i64.wrap (s2 + 1))) else none) else none) else some (.inr s1))
noncomputable def sargassoref1_little.f (x0 : List Int) (x1 : Int) (x2 : Int) : Option (List Int) := ((loopO (sargassoref1_little.s0 x1 x2) (x0, 0)).bind fun c1 => some c1)
noncomputable def sargassoref1_Four.f (x0 : List Int) (x1 : Int) : Option (List Int) := ((sargassoref1_little.f x0 (IntKind.u64.wrap x1) 4).bind fun r1 => some r1)
noncomputable def sargassoref1_Len.f (x0 : Int) : Option Int := (if x0 < 253 then some 1 else (if x0 < 65536 then some 3 else (if x0 < 4294967296 then some 5 else some 9)))
noncomputable def sargassoref1_Put.f (x0 : List Int) (x1 : Int) : Option (List Int) := ((sargassoref1_Len.f x1).bind fun r1 => (if r1 = 1 then (if x0.length + 1 ≤ 140737488355328 then some (x0 ++ ([IntKind.u8.wrap x1] : List Int)) else none) else (if r1 = 3 then (if x0.length + 1 ≤ 140737488355328 then ((sargassoref1_little.f (x0 ++ ([253] : List Int)) x1 2).bind fun r2 => some r2) else none) else (if r1 = 5 then (if x0.length + 1 ≤ 140737488355328 then ((sargassoref1_little.f (x0 ++ ([254] : List Int)) x1 4).bind fun r3 => some r3) else none) else (if x0.length + 1 ≤ 140737488355328 then ((sargassoref1_little.f (x0 ++ ([255] : List Int)) x1 8).bind fun r4 => some r4) else none)))))
noncomputable def sargassoref1_Eight.f (x0 : List Int) (x1 : Int) : Option (List Int) := ((sargassoref1_little.f x0 x1 8).bind fun r1 => some r1)
end Go.Proofs.YtdngkgkkblfcjaaDoor.T
namespace Go.Proofs.YtdngkgkkblfcjaaDoor.T
open Go Go.Proofs Go.Proofs.YtdngkgkkblfcjaaDoor.K
set_option linter.unusedVariables false
set_option linter.unusedSimpArgs false
set_option maxRecDepth 20000 in
theorem bytes_Clone.c (μ : Store) (w0 : World) (hμ : Agr μ w0) (x0 : List Int) (u0 : Value) (hx0 : Slc (RI .u8) 1 μ u0 x0) (r : List Int) (H : bytes_Clone.f x0 = some r) :
    Calls Tryd.prog 107 [u0].toArray w0 (fun e w' => ∃ v, e = .returned v ∧ ∃ (v0 : Value) (c0 : List Value), v = v0 ∧ Els (RI .u8) 1 r c0 ∧ Iv w0 [] μ μ [row 5 1 v0 r.length c0] w') := by
  obtain ⟨hb, H⟩ := guard_some H
  obtain rfl := sI H
  obtain ⟨cs, hE, A, cp, rfl, h2, h3, h4, h5⟩ := hx0
  refine enter Tryd.func107 rfl Tryd.ntmps107 rfl fun a hA => ?_
  have hI := Iv.start hμ
  refine w_seq fun _ hN1 => w_reg (stp hA (r_as hA rfl) rfl fun a hA => o_nil (hN1 _ _ ?_))
  refine w_seq fun _ hN2 => w_seq fun _ hN3 => w_reg (stp hA (r_mv hA rfl) rfl fun a hA => stp hA (r_eqnil Tryd.underlying40 hA rfl rfl) rfl fun a hA => o_nil (hN3 _ _ ?_))
  refine w_cond hA rfl (fun hc => ?_) (fun hc => ?_)
  · have hx : x0 = [] := List.eq_nil_of_length_eq_zero (by
      rcases Nat.eq_zero_or_pos x0.length with h | h
      · exact h
      · rw [h4 (by omega)] at hc; cases hc)
    subst hx
    cases hE
    refine w_seq fun _ hN4 => w_reg (stp hA (r_as hA rfl) rfl fun a hA => o_nil (hN4 _ _ ?_))
    refine w_ret ?_
    have hI := hI.nilRow 5 1
    exact ret1 hA Tryd.results107 rfl ⟨_, rfl, .slice none 0 0, [], rfl, .nil, hI⟩
  · refine w_skip (hN2 _ _ ?_)
    refine w_seq fun _ hN5 => w_reg ?_
    refine o_bsl [] te5 zr5 Tryd.underlying40 hI hA rfl rfl rfl rfl (by kernel_rfl) rfl fun g a w hA hI => ?_
    refine stp hA (r_mv hA rfl) rfl fun a hA => ?_
    refine o_appL (xs := ([] : List Int)) (ys := x0) (j := 0) te5 Tryd.underlying40 hI rfl hA rfl rfl (src_sl hI.agr ⟨A, cp, rfl, h2, h3, h4, h5⟩ hE.len) hE.len (hE.ones (one_RI _)) (by simp only [List.length_nil, maxLen]; omega) (by simp only [List.length_nil]; omega) rfl fun v a w hA hI => ?_
    refine stp hA (r_as hA rfl) rfl fun a hA => o_nil (hN5 _ _ (w_ret ?_))
    exact ret1 hA Tryd.results107 rfl ⟨_, rfl, v, cs, rfl, hE, hI⟩
set_option maxRecDepth 20000 in
theorem compact_number.c (μ : Store) (w0 : World) (hμ : Agr μ w0) (x0 : List Int) (u0 : Value) (k0 : List Value) (hx0 : Els (RI .u8) 1 x0 k0) (ho0 : RowOK μ w0 5 1 u0 x0.length k0) (x1 : Int) (hx1 : InR .u64 x1) (x2 : Int) (hx2 : InR .i64 x2) (r : List Int) (H : compact_number.f x0 x1 x2 = some r) :
    Calls Tryd.prog 106 [u0, .int .u64 x1, .int .i64 x2].toArray w0 (fun e w' => ∃ v, e = .returned v ∧ ∃ (v0 : Value) (c0 : List Value), v = v0 ∧ Els (RI .u8) 1 r c0 ∧ Iv w0 (row 5 1 u0 x0.length k0).foot μ μ [row 5 1 v0 r.length c0] w') := by
  refine enter Tryd.func106 rfl Tryd.ntmps106 rfl fun a hA => ?_
  have hI := ho0.start hμ
  have H := bI H
  refine w_seq fun _ hN1 => w_reg <| sta hA rfl rfl fun a hA => ?_
  refine o_nil <| hN1 _ _ ?_
  obtain ⟨⟨c1, c2⟩, hz1, Hk1⟩ := bB H
  refine w_cut (fun a w => ∃ (vvc1 : Value) (ccc1 : List Value), Els (RI .u8) 1 c1 ccc1 ∧ InR .u64 c2 ∧ Fr a 19 [(0, vvc1), (1, .int .u64 c2), (6, (.slice none 0 0))] ∧ Iv w0 (row 5 1 u0 x0.length k0).foot μ μ [row 5 1 vvc1 c1.length ccc1] w) ?_ ?_
  · have H := bI hz1
    refine w_seq fun _ hN2 => w_reg <| stm hA rfl rfl fun a hA => 
      stm hA rfl rfl fun a hA => ?_
    refine o_nil <| hN2 _ _ <| w_block ?_
    obtain ⟨z1, hz2, Hk2⟩ := bind_some H
    obtain ⟨n1, hn1⟩ := loopO_some hz2
    refine w_loop (fun n a w => ∃ (s1 : List Int) (s2 : Int) (s3 : Int) (vvs1 : Value) (ccs1 : List Value), loopN (compact_number.s0 x2) n (s1, s2, s3) = some z1 ∧ Els (RI .u8) 1 s1 ccs1 ∧ InR .u64 s2 ∧ InR .i64 s3 ∧ Fr a 19 [(0, vvs1), (1, .int .u64 s2), (6, (.slice none 0 0)), (7, .int .i64 x2), (8, .int .i64 s3)] ∧ Iv w0 (row 5 1 u0 x0.length k0).foot μ μ [row 5 1 vvs1 s1.length ccs1] w) n1 ⟨x0, x1, 0, u0, k0, hn1, hx0, hx1, (in_lit .i64 0 rfl), hA.sub ⟨rfl, rfl, rfl, rfl, rfl, trivial⟩, hI⟩ ?_
    clear hA hI
    rintro n a w ⟨s1, s2, s3, vvs1, ccs1, hn1, ws1, ws2, ws3, hA, hI⟩
    obtain ⟨m1, rfl, H⟩ := loopN_bind hn1
    clear hn1
    refine w_seq fun _ hN3 => w_reg <| stp hA (r_lss hA rfl rfl) rfl fun a hA => ?_
    refine o_nil <| hN3 _ _ <| w_seq fun _ hN4 => w_cond hA rfl (fun hc1 => ?_) (fun hc1 => ?_)
    · obtain ⟨hc1, H⟩ := dT H hc1
      refine w_skip <| hN4 _ _ <| w_seq fun _ hN5 => w_block <| w_seq fun _ hN6 => w_reg <| stm hA rfl rfl fun a hA => 
        stm hA rfl rfl fun a hA => 
        stp hA (r_conv Tryd.underlying34 Tryd.underlying5 hA rfl) rfl fun a hA => ?_
      have hE1 : Els (RI .u8) 1 ([IntKind.u8.wrap s2] : List Int) _ := (Els.cons (c := [[.int .u8 (IntKind.u8.wrap s2)]].flatten) ⟨rfl, (wrap_in _ _)⟩ rfl Els.nil)
      refine o_bsl ([[.int .u8 (IntKind.u8.wrap s2)]].flatten ++ ([])) te5 zr5 Tryd.underlying40 hI hA rfl rfl rfl rfl (by kernel_rfl) rfl fun g1 a w hA hI => ?_
      generalize hcs : ([[.int .u8 (IntKind.u8.wrap s2)]].flatten ++ ([]) : List Value) = cs1 at hE1 hI
      clear hcs
      obtain ⟨hb1, H⟩ := bG H
      have hE3 := ws1.app hE1
      refine o_appG (xs := (s1 : List Int)) (ys := (([IntKind.u8.wrap s2] : List Int) : List Int)) (M := 140737488355328) 1 te5 Tryd.underlying40 hI rfl hA rfl rfl (src_row hI (j := 0) rfl) hE1.len (hE1.ones (one_RI _)) hb1 rfl fun v1 a w hA hI => 
        sta hA rfl rfl fun a hA => ?_
      refine o_nil <| hN6 _ _ <| w_reg <| stm hA rfl rfl fun a hA => 
        stp hA (r_shr hA rfl rfl (by decide)) rfl fun a hA => 
        sta hA rfl rfl fun a hA => ?_
      refine o_nil <| hN5 _ _ <| w_reg <| stp hA (r_add hA rfl rfl) rfl fun a hA => 
        stm hA rfl rfl fun a hA => ?_
      refine o_nil <| ⟨m1, Nat.lt_succ_self _, s1 ++ ([IntKind.u8.wrap s2] : List Int), sR .u64 s2 8, IntKind.i64.wrap (s3 + 1), v1, ccs1 ++ cs1, H, hE3, (sR_in rfl ws2 _), (wrap_in _ _), hA.sub ⟨rfl, rfl, rfl, rfl, rfl, trivial⟩, (hI.sl [1] rfl)⟩
    · obtain ⟨hc1, H⟩ := dF H hc1
      refine w_exit rfl ?_
      have H : some (s1, s2) = some z1 := H
      obtain rfl := sI H
      have H := Hk2
      cases sJ H
      exact ⟨vvs1, ccs1, ws1, ws2, hA.sub ⟨rfl, rfl, rfl, trivial⟩, hI⟩
  · rintro a w ⟨vvc1, ccc1, wc1, wc2, hA, hI⟩
    have H := Hk1
    refine w_seq fun _ hN7 => w_reg <| stm hA rfl rfl fun a hA => 
      sta hA rfl rfl fun a hA => ?_
    refine o_nil <| hN7 _ _ <| w_ret ?_
    obtain rfl := sJ H
    exact ret1 hA Tryd.results106 rfl ⟨_, rfl, vvc1, ccc1, rfl, wc1, (hI.less (Store.le.refl _) hI.le)⟩
set_option maxRecDepth 20000 in
theorem compact_Four.c (μ : Store) (w0 : World) (hμ : Agr μ w0) (x0 : List Int) (u0 : Value) (hx0 : Slc (RI .u8) 1 μ u0 x0) (x1 : Int) (hx1 : InR .u32 x1) (r : List Int) (H : compact_Four.f x0 x1 = some r) :
    Calls Tryd.prog 83 [u0, .int .u32 x1].toArray w0 (fun e w' => ∃ v, e = .returned v ∧ ∃ (v0 : Value) (c0 : List Value), v = v0 ∧ Els (RI .u8) 1 r c0 ∧ Iv w0 [] μ μ [row 5 1 v0 r.length c0] w') := by
  refine enter Tryd.func83 rfl Tryd.ntmps83 rfl fun a hA => ?_
  have hI := Iv.start hμ
  have H := bI H
  refine w_seq fun _ hN1 => w_reg <| sta hA rfl rfl fun a hA => ?_
  refine o_nil <| hN1 _ _ <| w_seq fun _ hN2 => w_reg <| stm hA rfl rfl fun a hA => ?_
  obtain ⟨r1, hr1, H⟩ := bB H
  refine o_call _ cf107 hA rfl (bytes_Clone.c μ _ hI.agr x0 u0 hx0 r1 hr1) rfl fun v1 a w hz1 hA => ?_
  obtain ⟨_, cs1, rfl, hE1, hi1⟩ := hz1
  have hI := hI.call hi1
  refine stm hA rfl rfl fun a hA => 
    stp hA (r_conv Tryd.underlying24 Tryd.underlying34 hA rfl) rfl fun a hA => ?_
  obtain ⟨r2, hr2, H⟩ := bB H
  refine o_call _ cf106 hA rfl (compact_number.c μ _ hI.agr r1 v1 cs1 hE1 (hI.item (j := 0) rfl) (IntKind.u64.wrap x1) (wrap_in _ _) 4 (in_lit .i64 4 rfl) r2 hr2) rfl fun v2 a w hz2 hA => ?_
  obtain ⟨_, cs2, rfl, hE2, hi2⟩ := hz2
  have hI := hI.call1 0 rfl hi2
  refine sta hA rfl rfl fun a hA => ?_
  refine o_nil <| hN2 _ _ <| w_ret ?_
  obtain rfl := sJ H
  exact ret1 hA Tryd.results83 rfl ⟨_, rfl, v2, cs2, rfl, hE2, (hI.less (Store.le.refl _) hI.le)⟩
set_option maxRecDepth 20000 in
theorem sargassoref1_little.c (μ : Store) (w0 : World) (hμ : Agr μ w0) (x0 : List Int) (u0 : Value) (k0 : List Value) (hx0 : Els (RI .u8) 1 x0 k0) (ho0 : RowOK μ w0 5 1 u0 x0.length k0) (x1 : Int) (hx1 : InR .u64 x1) (x2 : Int) (hx2 : InR .i64 x2) (r : List Int) (H : sargassoref1_little.f x0 x1 x2 = some r) :
    Calls Tryd.prog 63 [u0, .int .u64 x1, .int .i64 x2].toArray w0 (fun e w' => ∃ v, e = .returned v ∧ ∃ (v0 : Value) (c0 : List Value), v = v0 ∧ Els (RI .u8) 1 r c0 ∧ Iv w0 (row 5 1 u0 x0.length k0).foot μ μ [row 5 1 v0 r.length c0] w') := by
  refine enter Tryd.func63 rfl Tryd.ntmps63 rfl fun a hA => ?_
  have hI := ho0.start hμ
  have H := bI H
  refine w_seq fun _ hN1 => w_reg <| sta hA rfl rfl fun a hA => ?_
  refine o_nil <| hN1 _ _ ?_
  obtain ⟨c1, hz1, Hk1⟩ := bB H
  refine w_cut (fun a w => ∃ (vvc1 : Value) (ccc1 : List Value), Els (RI .u8) 1 c1 ccc1 ∧ Fr a 23 [(0, vvc1), (6, (.slice none 0 0))] ∧ Iv w0 (row 5 1 u0 x0.length k0).foot μ μ [row 5 1 vvc1 c1.length ccc1] w) ?_ ?_
  · have H := bI hz1
    refine w_seq fun _ hN2 => w_reg <| sta hA rfl rfl fun a hA => ?_
    refine o_nil <| hN2 _ _ <| w_block ?_
    obtain ⟨z1, hz2, Hk2⟩ := bind_some H
    obtain ⟨n1, hn1⟩ := loopO_some hz2
    refine w_loop (fun n a w => ∃ (s1 : List Int) (s2 : Int) (vvs1 : Value) (ccs1 : List Value), loopN (sargassoref1_little.s0 x1 x2) n (s1, s2) = some z1 ∧ Els (RI .u8) 1 s1 ccs1 ∧ InR .i64 s2 ∧ Fr a 23 [(0, vvs1), (1, .int .u64 x1), (2, .int .i64 x2), (6, (.slice none 0 0)), (7, .int .i64 s2)] ∧ Iv w0 (row 5 1 u0 x0.length k0).foot μ μ [row 5 1 vvs1 s1.length ccs1] w) n1 ⟨x0, 0, u0, k0, hn1, hx0, (in_lit .i64 0 rfl), hA.sub ⟨rfl, rfl, rfl, rfl, rfl, trivial⟩, hI⟩ ?_
    clear hA hI
    rintro n a w ⟨s1, s2, vvs1, ccs1, hn1, ws1, ws2, hA, hI⟩
    obtain ⟨m1, rfl, H⟩ := loopN_bind hn1
    clear hn1
    refine w_seq fun _ hN3 => w_seq fun _ hN4 => w_reg <| stm hA rfl rfl fun a hA => 
      stm hA rfl rfl fun a hA => 
      stp hA (r_lss hA rfl rfl) rfl fun a hA => ?_
    refine o_nil <| hN4 _ _ <| w_cond hA rfl (fun hc1 => ?_) (fun hc1 => ?_)
    · obtain ⟨hc1, H⟩ := dT H hc1
      refine w_skip <| hN3 _ _ <| w_seq fun _ hN5 => w_block <| w_reg <| stm hA rfl rfl fun a hA => 
        stm hA rfl rfl fun a hA => 
        stm hA rfl rfl fun a hA => 
        stp hA (r_mul hA rfl rfl) rfl fun a hA => 
        stp hA (r_conv Tryd.underlying3 Tryd.underlying133 hA rfl) rfl fun a hA => ?_
      obtain ⟨hb1, H⟩ := bG H
      refine stp hA (r_shr hA rfl rfl hb1) rfl fun a hA => 
        stp hA (r_conv Tryd.underlying34 Tryd.underlying5 hA rfl) rfl fun a hA => ?_
      have hE1 : Els (RI .u8) 1 ([IntKind.u8.wrap (sR .u64 x1 (IntKind.u64.wrap (IntKind.i64.wrap (8 * s2))))] : List Int) _ := (Els.cons (c := [[.int .u8 (IntKind.u8.wrap (sR .u64 x1 (IntKind.u64.wrap (IntKind.i64.wrap (8 * s2)))))]].flatten) ⟨rfl, (wrap_in _ _)⟩ rfl Els.nil)
      refine o_bsl ([[.int .u8 (IntKind.u8.wrap (sR .u64 x1 (IntKind.u64.wrap (IntKind.i64.wrap (8 * s2)))))]].flatten ++ ([])) te5 zr5 Tryd.underlying40 hI hA rfl rfl rfl rfl (by kernel_rfl) rfl fun g1 a w hA hI => ?_
      generalize hcs : ([[.int .u8 (IntKind.u8.wrap (sR .u64 x1 (IntKind.u64.wrap (IntKind.i64.wrap (8 * s2)))))]].flatten ++ ([]) : List Value) = cs1 at hE1 hI
      clear hcs
      obtain ⟨hb2, H⟩ := bG H
      have hE3 := ws1.app hE1
      refine o_appG (xs := (s1 : List Int)) (ys := (([IntKind.u8.wrap (sR .u64 x1 (IntKind.u64.wrap (IntKind.i64.wrap (8 * s2))))] : List Int) : List Int)) (M := 140737488355328) 1 te5 Tryd.underlying40 hI rfl hA rfl rfl (src_row hI (j := 0) rfl) hE1.len (hE1.ones (one_RI _)) hb2 rfl fun v1 a w hA hI => 
        sta hA rfl rfl fun a hA => ?_
      refine o_nil <| hN5 _ _ <| w_reg <| stm hA rfl rfl fun a hA => 
        stp hA (r_add hA rfl rfl) rfl fun a hA => 
        sta hA rfl rfl fun a hA => ?_
      refine o_nil <| ⟨m1, Nat.lt_succ_self _, s1 ++ ([IntKind.u8.wrap (sR .u64 x1 (IntKind.u64.wrap (IntKind.i64.wrap (8 * s2))))] : List Int), IntKind.i64.wrap (s2 + 1), v1, ccs1 ++ cs1, H, hE3, (wrap_in _ _), hA.sub ⟨rfl, rfl, rfl, rfl, rfl, trivial⟩, (hI.sl [1] rfl)⟩
    · obtain ⟨hc1, H⟩ := dF H hc1
      refine w_exit rfl ?_
      have H : some s1 = some z1 := H
      obtain rfl := sI H
      have H := Hk2
      cases sJ H
      exact ⟨vvs1, ccs1, ws1, hA.sub ⟨rfl, rfl, trivial⟩, hI⟩
  · rintro a w ⟨vvc1, ccc1, wc1, hA, hI⟩
    have H := Hk1
    refine w_seq fun _ hN6 => w_reg <| stm hA rfl rfl fun a hA => 
      sta hA rfl rfl fun a hA => ?_
    refine o_nil <| hN6 _ _ <| w_ret ?_
    obtain rfl := sJ H
    exact ret1 hA Tryd.results63 rfl ⟨_, rfl, vvc1, ccc1, rfl, wc1, (hI.less (Store.le.refl _) hI.le)⟩
set_option maxRecDepth 20000 in
theorem sargassoref1_Four.c (μ : Store) (w0 : World) (hμ : Agr μ w0) (x0 : List Int) (u0 : Value) (k0 : List Value) (hx0 : Els (RI .u8) 1 x0 k0) (ho0 : RowOK μ w0 5 1 u0 x0.length k0) (x1 : Int) (hx1 : InR .u32 x1) (r : List Int) (H : sargassoref1_Four.f x0 x1 = some r) :
    Calls Tryd.prog 36 [u0, .int .u32 x1].toArray w0 (fun e w' => ∃ v, e = .returned v ∧ ∃ (v0 : Value) (c0 : List Value), v = v0 ∧ Els (RI .u8) 1 r c0 ∧ Iv w0 (row 5 1 u0 x0.length k0).foot μ μ [row 5 1 v0 r.length c0] w') := by
  refine enter Tryd.func36 rfl Tryd.ntmps36 rfl fun a hA => ?_
  have hI := ho0.start hμ
  have H := bI H
  refine w_seq fun _ hN1 => w_reg <| sta hA rfl rfl fun a hA => ?_
  refine o_nil <| hN1 _ _ <| w_seq fun _ hN2 => w_reg <| stm hA rfl rfl fun a hA => 
    stm hA rfl rfl fun a hA => 
    stp hA (r_conv Tryd.underlying24 Tryd.underlying34 hA rfl) rfl fun a hA => ?_
  obtain ⟨r1, hr1, H⟩ := bB H
  refine o_call _ cf63 hA rfl (sargassoref1_little.c μ _ hI.agr x0 u0 k0 hx0 (hI.item (j := 0) rfl) (IntKind.u64.wrap x1) (wrap_in _ _) 4 (in_lit .i64 4 rfl) r1 hr1) rfl fun v1 a w hz1 hA => ?_
  obtain ⟨_, cs1, rfl, hE1, hi1⟩ := hz1
  have hI := hI.call1 0 rfl hi1
  refine sta hA rfl rfl fun a hA => ?_
  refine o_nil <| hN2 _ _ <| w_ret ?_
  obtain rfl := sJ H
  exact ret1 hA Tryd.results36 rfl ⟨_, rfl, v1, cs1, rfl, hE1, (hI.less (Store.le.refl _) hI.le)⟩
set_option maxRecDepth 20000 in
theorem sargassoref1_Len.c (μ : Store) (w0 : World) (hμ : Agr μ w0) (x0 : Int) (hx0 : InR .u64 x0) (r : Int) (H : sargassoref1_Len.f x0 = some r) :
    Calls Tryd.prog 140 [.int .u64 x0].toArray w0 (fun e w' => ∃ v, e = .returned v ∧ v = .int .i64 r ∧ InR .i64 r ∧ Iv w0 [] μ μ [] w') := by
  refine enter Tryd.func140 rfl Tryd.ntmps140 rfl fun a hA => ?_
  have hI := Iv.start hμ
  have H := bI H
  refine w_seq fun _ hN1 => w_reg <| sta hA rfl rfl fun a hA => ?_
  refine o_nil <| hN1 _ _ <| w_seq fun _ hN2 => w_block <| w_seq fun _ hN3 => w_reg <| stm hA rfl rfl fun a hA => 
    stp hA (r_lss hA rfl rfl) rfl fun a hA => 
    sta hA rfl rfl fun a hA => ?_
  refine o_nil <| hN3 _ _ <| w_cond hA rfl (fun hc1 => ?_) (fun hc1 => ?_)
  · obtain ⟨hc1, H⟩ := dT H hc1
    refine w_seq fun _ hN4 => w_reg <| sta hA rfl rfl fun a hA => ?_
    refine o_nil <| hN4 _ _ <| w_ret ?_
    obtain rfl := sJ H
    exact ret1 hA Tryd.results140 rfl ⟨_, rfl, rfl, (in_lit .i64 1 rfl), hI.forget0⟩
  · obtain ⟨hc1, H⟩ := dF H hc1
    refine w_seq fun _ hN5 => w_reg <| stm hA rfl rfl fun a hA => 
      stp hA (r_lss hA rfl rfl) rfl fun a hA => 
      sta hA rfl rfl fun a hA => ?_
    refine o_nil <| hN5 _ _ <| w_cond hA rfl (fun hc2 => ?_) (fun hc2 => ?_)
    · obtain ⟨hc2, H⟩ := dT H hc2
      refine w_seq fun _ hN6 => w_reg <| sta hA rfl rfl fun a hA => ?_
      refine o_nil <| hN6 _ _ <| w_ret ?_
      obtain rfl := sJ H
      exact ret1 hA Tryd.results140 rfl ⟨_, rfl, rfl, (in_lit .i64 3 rfl), hI.forget0⟩
    · obtain ⟨hc2, H⟩ := dF H hc2
      refine w_seq fun _ hN7 => w_reg <| stm hA rfl rfl fun a hA => 
        stp hA (r_lss hA rfl rfl) rfl fun a hA => 
        sta hA rfl rfl fun a hA => ?_
      refine o_nil <| hN7 _ _ <| w_cond hA rfl (fun hc3 => ?_) (fun hc3 => ?_)
      · obtain ⟨hc3, H⟩ := dT H hc3
        refine w_seq fun _ hN8 => w_reg <| sta hA rfl rfl fun a hA => ?_
        refine o_nil <| hN8 _ _ <| w_ret ?_
        obtain rfl := sJ H
        exact ret1 hA Tryd.results140 rfl ⟨_, rfl, rfl, (in_lit .i64 5 rfl), hI.forget0⟩
      · obtain ⟨hc3, H⟩ := dF H hc3
        refine w_skip <| hN2 _ _ <| w_seq fun _ hN9 => w_reg <| sta hA rfl rfl fun a hA => ?_
        refine o_nil <| hN9 _ _ <| w_ret ?_
        obtain rfl := sJ H
        exact ret1 hA Tryd.results140 rfl ⟨_, rfl, rfl, (in_lit .i64 9 rfl), hI.forget0⟩
set_option maxRecDepth 20000 in
theorem sargassoref1_Put.c (μ : Store) (w0 : World) (hμ : Agr μ w0) (x0 : List Int) (u0 : Value) (k0 : List Value) (hx0 : Els (RI .u8) 1 x0 k0) (ho0 : RowOK μ w0 5 1 u0 x0.length k0) (x1 : Int) (hx1 : InR .u64 x1) (r : List Int) (H : sargassoref1_Put.f x0 x1 = some r) :
    Calls Tryd.prog 124 [u0, .int .u64 x1].toArray w0 (fun e w' => ∃ v, e = .returned v ∧ ∃ (v0 : Value) (c0 : List Value), v = v0 ∧ Els (RI .u8) 1 r c0 ∧ Iv w0 (row 5 1 u0 x0.length k0).foot μ μ [row 5 1 v0 r.length c0] w') := by
  refine enter Tryd.func124 rfl Tryd.ntmps124 rfl fun a hA => ?_
  have hI := ho0.start hμ
  have H := bI H
  refine w_seq fun _ hN1 => w_reg <| sta hA rfl rfl fun a hA => ?_
  refine o_nil <| hN1 _ _ <| w_seq fun _ hN2 => w_seq fun _ hN3 => w_reg <| stm hA rfl rfl fun a hA => ?_
  obtain ⟨r1, hr1, H⟩ := bB H
  refine o_callp (u := .int .i64 r1) cf140 hA rfl hI (sargassoref1_Len.c μ _ hI.agr x1 hx1 r1 hr1) rfl fun a w hz1 hI hA => ?_
  refine o_nil <| hN3 _ _ <| w_block <| w_seq fun _ hN4 => w_reg <| stp hA (r_eql hA rfl rfl) rfl fun a hA => 
    sta hA rfl rfl fun a hA => ?_
  refine o_nil <| hN4 _ _ <| w_cond hA rfl (fun hc1 => ?_) (fun hc1 => ?_)
  · obtain ⟨hc1, H⟩ := dT H hc1
    refine w_seq fun _ hN5 => w_reg <| stm hA rfl rfl fun a hA => 
      stm hA rfl rfl fun a hA => 
      stp hA (r_conv Tryd.underlying34 Tryd.underlying5 hA rfl) rfl fun a hA => ?_
    have hE1 : Els (RI .u8) 1 ([IntKind.u8.wrap x1] : List Int) _ := (Els.cons (c := [[.int .u8 (IntKind.u8.wrap x1)]].flatten) ⟨rfl, (wrap_in _ _)⟩ rfl Els.nil)
    refine o_bsl ([[.int .u8 (IntKind.u8.wrap x1)]].flatten ++ ([])) te5 zr5 Tryd.underlying40 hI hA rfl rfl rfl rfl (by kernel_rfl) rfl fun g1 a w hA hI => ?_
    generalize hcs : ([[.int .u8 (IntKind.u8.wrap x1)]].flatten ++ ([]) : List Value) = cs1 at hE1 hI
    clear hcs
    obtain ⟨hb1, H⟩ := bG H
    have hE3 := hx0.app hE1
    refine o_appG (xs := (x0 : List Int)) (ys := (([IntKind.u8.wrap x1] : List Int) : List Int)) (M := 140737488355328) 1 te5 Tryd.underlying40 hI rfl hA rfl rfl (src_row hI (j := 0) rfl) hE1.len (hE1.ones (one_RI _)) hb1 rfl fun v1 a w hA hI => 
      sta hA rfl rfl fun a hA => ?_
    refine o_nil <| hN5 _ _ <| w_ret ?_
    obtain rfl := sJ H
    exact ret1 hA Tryd.results124 rfl ⟨_, rfl, v1, k0 ++ cs1, rfl, hE3, ((hI.sl [1] rfl).less (Store.le.refl _) hI.le)⟩
  · obtain ⟨hc1, H⟩ := dF H hc1
    refine w_seq fun _ hN6 => w_reg <| stp hA (r_eql hA rfl rfl) rfl fun a hA => 
      sta hA rfl rfl fun a hA => ?_
    refine o_nil <| hN6 _ _ <| w_cond hA rfl (fun hc2 => ?_) (fun hc2 => ?_)
    · obtain ⟨hc2, H⟩ := dT H hc2
      refine w_seq fun _ hN7 => w_reg <| stm hA rfl rfl fun a hA => ?_
      have hE4 : Els (RI .u8) 1 ([253] : List Int) _ := (Els.cons (c := [[.int .u8 253]].flatten) ⟨rfl, (in_lit .u8 253 rfl)⟩ rfl Els.nil)
      refine o_bsl ([[.int .u8 253]].flatten ++ ([])) te5 zr5 Tryd.underlying40 hI hA rfl rfl rfl rfl (by kernel_rfl) rfl fun g2 a w hA hI => ?_
      generalize hcs : ([[.int .u8 253]].flatten ++ ([]) : List Value) = cs4 at hE4 hI
      clear hcs
      obtain ⟨hb2, H⟩ := bG H
      have hE6 := hx0.app hE4
      refine o_appG (xs := (x0 : List Int)) (ys := (([253] : List Int) : List Int)) (M := 140737488355328) 1 te5 Tryd.underlying40 hI rfl hA rfl rfl (src_row hI (j := 0) rfl) hE4.len (hE4.ones (one_RI _)) hb2 rfl fun v2 a w hA hI => 
        stm hA rfl rfl fun a hA => ?_
      obtain ⟨r2, hr2, H⟩ := bB H
      refine o_call _ cf63 hA rfl (sargassoref1_little.c μ _ hI.agr (x0 ++ ([253] : List Int)) v2 (k0 ++ cs4) hE6 (hI.item (j := 1) rfl) x1 hx1 2 (in_lit .i64 2 rfl) r2 hr2) rfl fun v3 a w hz2 hA => ?_
      obtain ⟨_, cs7, rfl, hE7, hi1⟩ := hz2
      have hI := hI.call1 1 rfl hi1
      refine sta hA rfl rfl fun a hA => ?_
      refine o_nil <| hN7 _ _ <| w_ret ?_
      obtain rfl := sJ H
      exact ret1 hA Tryd.results124 rfl ⟨_, rfl, v3, cs7, rfl, hE7, ((hI.sl [0] rfl).less (Store.le.refl _) hI.le)⟩
    · obtain ⟨hc2, H⟩ := dF H hc2
      refine w_seq fun _ hN8 => w_reg <| stp hA (r_eql hA rfl rfl) rfl fun a hA => 
        sta hA rfl rfl fun a hA => ?_
      refine o_nil <| hN8 _ _ <| w_cond hA rfl (fun hc3 => ?_) (fun hc3 => ?_)
      · obtain ⟨hc3, H⟩ := dT H hc3
        refine w_seq fun _ hN9 => w_reg <| stm hA rfl rfl fun a hA => ?_
        have hE8 : Els (RI .u8) 1 ([254] : List Int) _ := (Els.cons (c := [[.int .u8 254]].flatten) ⟨rfl, (in_lit .u8 254 rfl)⟩ rfl Els.nil)
        refine o_bsl ([[.int .u8 254]].flatten ++ ([])) te5 zr5 Tryd.underlying40 hI hA rfl rfl rfl rfl (by kernel_rfl) rfl fun g3 a w hA hI => ?_
        generalize hcs : ([[.int .u8 254]].flatten ++ ([]) : List Value) = cs8 at hE8 hI
        clear hcs
        obtain ⟨hb3, H⟩ := bG H
        have hE10 := hx0.app hE8
        refine o_appG (xs := (x0 : List Int)) (ys := (([254] : List Int) : List Int)) (M := 140737488355328) 1 te5 Tryd.underlying40 hI rfl hA rfl rfl (src_row hI (j := 0) rfl) hE8.len (hE8.ones (one_RI _)) hb3 rfl fun v4 a w hA hI => 
          stm hA rfl rfl fun a hA => ?_
        obtain ⟨r3, hr3, H⟩ := bB H
        refine o_call _ cf63 hA rfl (sargassoref1_little.c μ _ hI.agr (x0 ++ ([254] : List Int)) v4 (k0 ++ cs8) hE10 (hI.item (j := 1) rfl) x1 hx1 4 (in_lit .i64 4 rfl) r3 hr3) rfl fun v5 a w hz3 hA => ?_
        obtain ⟨_, cs11, rfl, hE11, hi2⟩ := hz3
        have hI := hI.call1 1 rfl hi2
        refine sta hA rfl rfl fun a hA => ?_
        refine o_nil <| hN9 _ _ <| w_ret ?_
        obtain rfl := sJ H
        exact ret1 hA Tryd.results124 rfl ⟨_, rfl, v5, cs11, rfl, hE11, ((hI.sl [0] rfl).less (Store.le.refl _) hI.le)⟩
      · obtain ⟨hc3, H⟩ := dF H hc3
        refine w_skip <| hN2 _ _ <| w_seq fun _ hN10 => w_reg <| stm hA rfl rfl fun a hA => ?_
        have hE12 : Els (RI .u8) 1 ([255] : List Int) _ := (Els.cons (c := [[.int .u8 255]].flatten) ⟨rfl, (in_lit .u8 255 rfl)⟩ rfl Els.nil)
        refine o_bsl ([[.int .u8 255]].flatten ++ ([])) te5 zr5 Tryd.underlying40 hI hA rfl rfl rfl rfl (by kernel_rfl) rfl fun g4 a w hA hI => ?_
        generalize hcs : ([[.int .u8 255]].flatten ++ ([]) : List Value) = cs12 at hE12 hI
        clear hcs
        obtain ⟨hb4, H⟩ := bG H
        have hE14 := hx0.app hE12
        refine o_appG (xs := (x0 : List Int)) (ys := (([255] : List Int) : List Int)) (M := 140737488355328) 1 te5 Tryd.underlying40 hI rfl hA rfl rfl (src_row hI (j := 0) rfl) hE12.len (hE12.ones (one_RI _)) hb4 rfl fun v6 a w hA hI => 
          stm hA rfl rfl fun a hA => ?_
        obtain ⟨r4, hr4, H⟩ := bB H
        refine o_call _ cf63 hA rfl (sargassoref1_little.c μ _ hI.agr (x0 ++ ([255] : List Int)) v6 (k0 ++ cs12) hE14 (hI.item (j := 1) rfl) x1 hx1 8 (in_lit .i64 8 rfl) r4 hr4) rfl fun v7 a w hz4 hA => ?_
        obtain ⟨_, cs15, rfl, hE15, hi3⟩ := hz4
        have hI := hI.call1 1 rfl hi3
        refine sta hA rfl rfl fun a hA => ?_
        refine o_nil <| hN10 _ _ <| w_ret ?_
        obtain rfl := sJ H
        exact ret1 hA Tryd.results124 rfl ⟨_, rfl, v7, cs15, rfl, hE15, ((hI.sl [0] rfl).less (Store.le.refl _) hI.le)⟩
set_option maxRecDepth 20000 in
theorem sargassoref1_Eight.c (μ : Store) (w0 : World) (hμ : Agr μ w0) (x0 : List Int) (u0 : Value) (k0 : List Value) (hx0 : Els (RI .u8) 1 x0 k0) (ho0 : RowOK μ w0 5 1 u0 x0.length k0) (x1 : Int) (hx1 : InR .u64 x1) (r : List Int) (H : sargassoref1_Eight.f x0 x1 = some r) :
    Calls Tryd.prog 125 [u0, .int .u64 x1].toArray w0 (fun e w' => ∃ v, e = .returned v ∧ ∃ (v0 : Value) (c0 : List Value), v = v0 ∧ Els (RI .u8) 1 r c0 ∧ Iv w0 (row 5 1 u0 x0.length k0).foot μ μ [row 5 1 v0 r.length c0] w') := by
  refine enter Tryd.func125 rfl Tryd.ntmps125 rfl fun a hA => ?_
  have hI := ho0.start hμ
  have H := bI H
  refine w_seq fun _ hN1 => w_reg <| sta hA rfl rfl fun a hA => ?_
  refine o_nil <| hN1 _ _ <| w_seq fun _ hN2 => w_reg <| stm hA rfl rfl fun a hA => 
    stm hA rfl rfl fun a hA => ?_
  obtain ⟨r1, hr1, H⟩ := bB H
  refine o_call _ cf63 hA rfl (sargassoref1_little.c μ _ hI.agr x0 u0 k0 hx0 (hI.item (j := 0) rfl) x1 hx1 8 (in_lit .i64 8 rfl) r1 hr1) rfl fun v1 a w hz1 hA => ?_
  obtain ⟨_, cs1, rfl, hE1, hi1⟩ := hz1
  have hI := hI.call1 0 rfl hi1
  refine sta hA rfl rfl fun a hA => ?_
  refine o_nil <| hN2 _ _ <| w_ret ?_
  obtain rfl := sJ H
  exact ret1 hA Tryd.results125 rfl ⟨_, rfl, v1, cs1, rfl, hE1, (hI.less (Store.le.refl _) hI.le)⟩
end Go.Proofs.YtdngkgkkblfcjaaDoor.T
namespace Go.Proofs.YtdngkgkkblfcjaaDoor.T
open Go Go.Proofs Go.Proofs.YtdngkgkkblfcjaaDoor.K
set_option linter.unusedVariables false
set_option linter.unusedSimpArgs false
noncomputable def digest_begin.f : Option (List Int) := some ([1779033703, 3144134277, 1013904242, 2773480762, 1359893119, 2600822924, 528734635, 1541459225])
noncomputable def digest_Writer_state.f (x0 : digestWriter) : Option (List Int) := (if x0.n < 64 then ((digest_begin.f).bind fun r1 => some r1) else some x0.s)
noncomputable def digest_turn.f (x0 : Int) (x1 : Int) : Option Int := ((math_bits_RotateLeft32.f x0 (IntKind.i64.wrap (0 - x1))).bind fun r1 => some r1)
noncomputable def digest_spread.s0 (x0 : List Int) : (Int × (List Int)) → Option ((Int × (List Int)) ⊕ (List Int)) := fun (s1, s2) => (if s1 < 64 then (((if s1 < 16 then (if 0 ≤ (IntKind.i64.wrap (4 * s1)) ∧ (IntKind.i64.wrap (4 * s1)) ≤ (x0.length : Int) then (if 0 < (((x0.take ((x0.length : Int)).toNat).drop (IntKind.i64.wrap (4 * s1)).toNat).length : Int) then (if 1 < (((x0.take ((x0.length : Int)).toNat).drop (IntKind.i64.wrap (4 * s1)).toNat).length : Int) then (if 2 < (((x0.take ((x0.length : Int)).toNat).drop (IntKind.i64.wrap (4 * s1)).toNat).length : Int) then (if 3 < (((x0.take ((x0.length : Int)).toNat).drop (IntKind.i64.wrap (4 * s1)).toNat).length : Int) then (if 0 ≤ s1 ∧ s1 < 64 then some (s2.set s1.toNat (bOr .u32 (bOr .u32 (bOr .u32 (sL .u32 (IntKind.u32.wrap (((x0.take ((x0.length : Int)).toNat).drop (IntKind.i64.wrap (4 * s1)).toNat).getD (0 : Int).toNat 0)) 24) (sL .u32 (IntKind.u32.wrap (((x0.take ((x0.length : Int)).toNat).drop (IntKind.i64.wrap (4 * s1)).toNat).getD (1 : Int).toNat 0)) 16)) (sL .u32 (IntKind.u32.wrap (((x0.take ((x0.length : Int)).toNat).drop (IntKind.i64.wrap (4 * s1)).toNat).getD (2 : Int).toNat 0)) 8)) (IntKind.u32.wrap (((x0.take ((x0.length : Int)).toNat).drop (IntKind.i64.wrap (4 * s1)).toNat).getD (3 : Int).toNat 0)))) else none) else none) else none) else none) else none) else none) else (if 0 ≤ IntKind.i64.wrap (s1 - 2) ∧ IntKind.i64.wrap (s1 - 2) < 64 then (if 0 ≤ IntKind.i64.wrap (s1 - 15) ∧ IntKind.i64.wrap (s1 - 15) < 64 then (if 0 ≤ IntKind.i64.wrap (s1 - 7) ∧ IntKind.i64.wrap (s1 - 7) < 64 then (if 0 ≤ IntKind.i64.wrap (s1 - 16) ∧ IntKind.i64.wrap (s1 - 16) < 64 then ((digest_turn.f (s2.getD (IntKind.i64.wrap (s1 - 2)).toNat 0) 17).bind fun r1 => ((digest_turn.f (s2.getD (IntKind.i64.wrap (s1 - 2)).toNat 0) 19).bind fun r2 => ((digest_turn.f (s2.getD (IntKind.i64.wrap (s1 - 15)).toNat 0) 7).bind fun r3 => ((digest_turn.f (s2.getD (IntKind.i64.wrap (s1 - 15)).toNat 0) 18).bind fun r4 => (if 0 ≤ s1 ∧ s1 < 64 then some (s2.set s1.toNat (IntKind.u32.wrap ((IntKind.u32.wrap ((IntKind.u32.wrap ((bXor .u32 (bXor .u32 r1 r2) (sR .u32 (s2.getD (IntKind.i64.wrap (s1 - 2)).toNat 0) 10)) + (s2.getD (IntKind.i64.wrap (s1 - 7)).toNat 0))) + (bXor .u32 (bXor .u32 r3 r4) (sR .u32 (s2.getD (IntKind.i64.wrap (s1 - 15)).toNat 0) 3)))) + (s2.getD (IntKind.i64.wrap (s1 - 16)).toNat 0)))) else none))))) else none) else none) else none) else none))).bind fun c2 => some (.inl (IntKind.i64.wrap (s1 + 1), c2))) else some (.inr s2))
noncomputable def digest_spread.f (x0 : List Int) : Option (List Int) := ((loopO (digest_spread.s0 x0) (0, (List.replicate 64 0))).bind fun c1 => some c1)
def digest_keys.lit0 : List Int := [1116352408, 1899447441, 3049323471, 3921009573, 961987163, 1508970993, 2453635748, 2870763221, 3624381080, 310598401, 607225278, 1426881987, 1925078388, 2162078206, 2614888103, 3248222580, 3835390401, 4022224774, 264347078, 604807628, 770255983, 1249150122, 1555081692, 1996064986, 2554220882, 2821834349, 2952996808, 3210313671, 3336571891, 3584528711, 113926993, 338241895, 666307205, 773529912, 1294757372, 1396182291, 1695183700, 1986661051, 2177026350, 2456956037, 2730485921, 2820302411, 3259730800, 3345764771, 3516065817, 3600352804, 4094571909, 275423344, 430227734, 506948616, 659060556, 883997877, 958139571, 1322822218, 1537002063, 1747873779, 1955562222, 2024104815, 2227730452, 2361852424, 2428436474, 2756734187, 3204031479, 3329325298]
theorem digest_keys.lit0_in : ∀ x ∈ digest_keys.lit0, InR .u32 x := all_in (by kernel_rfl)
noncomputable def digest_keys.f : Option (List Int) := some digest_keys.lit0
noncomputable def digest_mix.s1 (c1 : List Int) : (Int × (List Int)) → Option ((Int × (List Int)) ⊕ (List Int)) := fun (s3, s4) => (if s3 < 8 then (if 0 ≤ s3 ∧ s3 < 8 then some (.inl (IntKind.i64.wrap (s3 + 1), s4.set s3.toNat (IntKind.u32.wrap ((s4.getD s3.toNat 0) + (c1.getD s3.toNat 0))))) else none) else some (.inr s4))
noncomputable def digest_mix.s0 (r1 : List Int) (r2 : List Int) : (Int × (List Int)) → Option ((Int × (List Int)) ⊕ (List Int)) := fun (s1, s2) => (if s1 < 64 then ((digest_turn.f (s2.getD (4 : Int).toNat 0) 6).bind fun r3 => ((digest_turn.f (s2.getD (4 : Int).toNat 0) 11).bind fun r4 => ((digest_turn.f (s2.getD (4 : Int).toNat 0) 25).bind fun r5 => (if 0 ≤ s1 ∧ s1 < 64 then ((digest_turn.f (s2.getD (0 : Int).toNat 0) 2).bind fun r6 => ((digest_turn.f (s2.getD (0 : Int).toNat 0) 13).bind fun r7 => ((digest_turn.f (s2.getD (0 : Int).toNat 0) 22).bind fun r8 => some (.inl (IntKind.i64.wrap (s1 + 1), ([IntKind.u32.wrap ((IntKind.u32.wrap ((IntKind.u32.wrap ((IntKind.u32.wrap ((IntKind.u32.wrap ((s2.getD (7 : Int).toNat 0) + (bXor .u32 (bXor .u32 r3 r4) r5))) + (bXor .u32 (bAnd .u32 (s2.getD (4 : Int).toNat 0) (s2.getD (5 : Int).toNat 0)) (bAnd .u32 (bNot .u32 (s2.getD (4 : Int).toNat 0)) (s2.getD (6 : Int).toNat 0))))) + (r2.getD s1.toNat 0))) + (r1.getD s1.toNat 0))) + (IntKind.u32.wrap ((bXor .u32 (bXor .u32 r6 r7) r8) + (bXor .u32 (bXor .u32 (bAnd .u32 (s2.getD (0 : Int).toNat 0) (s2.getD (1 : Int).toNat 0)) (bAnd .u32 (s2.getD (0 : Int).toNat 0) (s2.getD (2 : Int).toNat 0))) (bAnd .u32 (s2.getD (1 : Int).toNat 0) (s2.getD (2 : Int).toNat 0)))))), s2.getD (0 : Int).toNat 0, s2.getD (1 : Int).toNat 0, s2.getD (2 : Int).toNat 0, IntKind.u32.wrap ((s2.getD (3 : Int).toNat 0) + (IntKind.u32.wrap ((IntKind.u32.wrap ((IntKind.u32.wrap ((IntKind.u32.wrap ((s2.getD (7 : Int).toNat 0) + (bXor .u32 (bXor .u32 r3 r4) r5))) + (bXor .u32 (bAnd .u32 (s2.getD (4 : Int).toNat 0) (s2.getD (5 : Int).toNat 0)) (bAnd .u32 (bNot .u32 (s2.getD (4 : Int).toNat 0)) (s2.getD (6 : Int).toNat 0))))) + (r2.getD s1.toNat 0))) + (r1.getD s1.toNat 0)))), s2.getD (4 : Int).toNat 0, s2.getD (5 : Int).toNat 0, s2.getD (6 : Int).toNat 0] : List Int)))))) else none)))) else some (.inr s2))
noncomputable def digest_mix.f (x0 : List Int) (x1 : List Int) : Option (List Int) := ((digest_spread.f x1).bind fun r1 => ((digest_keys.f).bind fun r2 => ((loopO (digest_mix.s0 r1 r2) (0, x0)).bind fun c1 => ((loopO (digest_mix.s1 c1) (0, x0)).bind fun c2 => some c2))))
noncomputable def digest_Writer_Write.s0 : (Int × (List Int) × (List Int)) → Option ((Int × (List Int) × (List Int)) ⊕ (Int × (List Int) × (List Int))) := fun (s1, s2, s3) => (if (IntKind.i64.wrap (s1 + 64)) ≤ (s3.length : Int) then (if 0 ≤ s1 ∧ s1 ≤ (IntKind.i64.wrap (s1 + 64)) ∧ (IntKind.i64.wrap (s1 + 64)) ≤ (s3.length : Int) then ((digest_mix.f s2 ((s3.take (IntKind.i64.wrap (s1 + 64)).toNat).drop (s1).toNat)).bind fun r2 => some (.inl (IntKind.i64.wrap (s1 + 64), r2, s3))) else none) else some (.inr (s1, s2, s3)))
noncomputable def digest_Writer_Write.f (x0 : digestWriter) (x1 : List Int) : Option digestWriter := ((digest_Writer_state.f (⟨x0.s, x0.rest, x0.n⟩ : digestWriter)).bind fun r1 => (if x0.rest.length + x1.length ≤ 140737488355328 then ((loopO (digest_Writer_Write.s0) (0, r1, x0.rest ++ x1)).bind fun (c1, c2, c3) => (if 0 ≤ c1 ∧ c1 ≤ (c3.length : Int) then ((bytes_Clone.f ((c3.take ((c3.length : Int)).toNat).drop (c1).toNat)).bind fun r3 => some (⟨c2, r3, IntKind.i64.wrap (x0.n + (x1.length : Int))⟩ : digestWriter)) else none)) else none))
noncomputable def digest_Writer_Sum.s4 (c4 : List Int) (s7 : Int) : (Int × (List Int)) → Option ((Int × (List Int)) ⊕ (List Int)) := fun (s9, s10) => (if s9 < 4 then (if 0 ≤ (IntKind.i64.wrap (24 - (IntKind.i64.wrap (8 * s9)))) then (if 0 ≤ IntKind.i64.wrap ((IntKind.i64.wrap (4 * s7)) + s9) ∧ IntKind.i64.wrap ((IntKind.i64.wrap (4 * s7)) + s9) < 32 then some (.inl (IntKind.i64.wrap (s9 + 1), s10.set (IntKind.i64.wrap ((IntKind.i64.wrap (4 * s7)) + s9)).toNat (IntKind.u8.wrap (sR .u32 (c4.getD s7.toNat 0) (IntKind.i64.wrap (24 - (IntKind.i64.wrap (8 * s9)))))))) else none) else none) else some (.inr s10))
noncomputable def digest_Writer_Sum.s3 (c4 : List Int) : (Int × (List Int)) → Option ((Int × (List Int)) ⊕ (List Int)) := fun (s7, s8) => (if s7 < 8 then (((if 0 ≤ s7 ∧ s7 < 8 then loopO (digest_Writer_Sum.s4 c4 s7) (0, s8) else none)).bind fun c6 => some (.inl (IntKind.i64.wrap (s7 + 1), c6))) else some (.inr s8))
noncomputable def digest_Writer_Sum.s2 : ((List Int) × Int × (List Int)) → Option (((List Int) × Int × (List Int)) ⊕ ((List Int) × (List Int))) := fun (s4, s5, s6) => (if s5 < (s4.length : Int) then (if 0 ≤ s5 ∧ s5 ≤ (IntKind.i64.wrap (s5 + 64)) ∧ (IntKind.i64.wrap (s5 + 64)) ≤ (s4.length : Int) then ((digest_mix.f s6 ((s4.take (IntKind.i64.wrap (s5 + 64)).toNat).drop (s5).toNat)).bind fun r3 => some (.inl (s4, IntKind.i64.wrap (s5 + 64), r3))) else none) else some (.inr (s4, s6)))
noncomputable def digest_Writer_Sum.s1 (x0 : digestWriter) : ((List Int) × Int) → Option (((List Int) × Int) ⊕ (List Int)) := fun (s2, s3) => (if 0 ≤ s3 then (if 0 ≤ (IntKind.i64.wrap (8 * s3)) then (if s2.length + 1 ≤ 140737488355328 then some (.inl (s2 ++ ([IntKind.u8.wrap (sR .u64 (sL .u64 (IntKind.u64.wrap x0.n) 3) (IntKind.i64.wrap (8 * s3)))] : List Int), IntKind.i64.wrap (s3 - 1))) else none) else none) else some (.inr s2))
noncomputable def digest_Writer_Sum.s0 : (List Int) → Option ((List Int) ⊕ (List Int)) := fun s1 => (if (Int.tmod (s1.length : Int) 64) ≠ 56 then (if s1.length + 1 ≤ 140737488355328 then some (.inl (s1 ++ ([0] : List Int))) else none) else some (.inr s1))
noncomputable def digest_Writer_Sum.f (x0 : digestWriter) : Option (List Int) := ((bytes_Clone.f x0.rest).bind fun r1 => (if r1.length + 1 ≤ 140737488355328 then ((loopO (digest_Writer_Sum.s0) (r1 ++ ([128] : List Int))).bind fun c1 => ((loopO (digest_Writer_Sum.s1 x0) (c1, 7)).bind fun c2 => ((digest_Writer_state.f (⟨x0.s, x0.rest, x0.n⟩ : digestWriter)).bind fun r2 => ((loopO (digest_Writer_Sum.s2) (c2, 0, r2)).bind fun (c3, c4) => ((loopO (digest_Writer_Sum.s3 c4) (0, (List.replicate 32 0))).bind fun c5 => some c5))))) else none))
noncomputable def digest_Sha.f (x0 : List Int) : Option (List Int) := ((digest_Writer_Write.f (⟨(List.replicate 8 0), [], 0⟩ : digestWriter) x0).bind fun r1 => ((digest_Writer_Sum.f (⟨r1.s, r1.rest, r1.n⟩ : digestWriter)).bind fun r2 => some r2))
noncomputable def digest_Twice.f (x0 : List Int) : Option (List Int) := ((digest_Sha.f x0).bind fun r1 => ((digest_Sha.f r1).bind fun r2 => some r2))
def sargassoref1_k.lit0 : List Int := [1116352408, 1899447441, 3049323471, 3921009573, 961987163, 1508970993, 2453635748, 2870763221, 3624381080, 310598401, 607225278, 1426881987, 1925078388, 2162078206, 2614888103, 3248222580, 3835390401, 4022224774, 264347078, 604807628, 770255983, 1249150122, 1555081692, 1996064986, 2554220882, 2821834349, 2952996808, 3210313671, 3336571891, 3584528711, 113926993, 338241895, 666307205, 773529912, 1294757372, 1396182291, 1695183700, 1986661051, 2177026350, 2456956037, 2730485921, 2820302411, 3259730800, 3345764771, 3516065817, 3600352804, 4094571909, 275423344, 430227734, 506948616, 659060556, 883997877, 958139571, 1322822218, 1537002063, 1747873779, 1955562222, 2024104815, 2227730452, 2361852424, 2428436474, 2756734187, 3204031479, 3329325298]
theorem sargassoref1_k.lit0_in : ∀ x ∈ sargassoref1_k.lit0, InR .u32 x := all_in (by kernel_rfl)
noncomputable def sargassoref1_k.f : Option (List Int) := some sargassoref1_k.lit0
noncomputable def sargassoref1_right.f (x0 : Int) (x1 : Int) : Option Int := (if 0 ≤ x1 then (if 0 ≤ (IntKind.u64.wrap (32 - x1)) then some (bOr .u32 (sR .u32 x0 x1) (sL .u32 x0 (IntKind.u64.wrap (32 - x1)))) else none) else none)
noncomputable def sargassoref1_Sha.s6 (c3 : List Int) : (Int × (List Int)) → Option ((Int × (List Int)) ⊕ (List Int)) := fun (s12, s13) => (if s12 < 32 then (if 0 ≤ IntKind.i64.wrap (Int.tdiv s12 4) ∧ IntKind.i64.wrap (Int.tdiv s12 4) < (c3.length : Int) then (if 0 ≤ (IntKind.u64.wrap (IntKind.i64.wrap (24 - (IntKind.i64.wrap (8 * (Int.tmod s12 4)))))) then (if 0 ≤ s12 ∧ s12 < 32 then some (.inl (IntKind.i64.wrap (s12 + 1), s13.set s12.toNat (IntKind.u8.wrap (sR .u32 (c3.getD (IntKind.i64.wrap (Int.tdiv s12 4)).toNat 0) (IntKind.u64.wrap (IntKind.i64.wrap (24 - (IntKind.i64.wrap (8 * (Int.tmod s12 4)))))))))) else none) else none) else none) else some (.inr s13))
noncomputable def sargassoref1_Sha.s5 (c7 : List Int) : (Int × (List Int)) → Option ((Int × (List Int)) ⊕ (List Int)) := fun (s10, s11) => (if s10 < 8 then (if 0 ≤ s10 ∧ s10 < (s11.length : Int) then (if 0 ≤ s10 ∧ s10 < (c7.length : Int) then some (.inl (IntKind.i64.wrap (s10 + 1), s11.set s10.toNat (IntKind.u32.wrap ((s11.getD s10.toNat 0) + (c7.getD s10.toNat 0))))) else none) else none) else some (.inr s11))
noncomputable def sargassoref1_Sha.s4 (r2 : List Int) (c5 : List Int) : ((List Int) × Int) → Option (((List Int) × Int) ⊕ (List Int)) := fun (s8, s9) => (if s9 < 64 then (if 4 < (s8.length : Int) then (if 0 < (s8.length : Int) then (if 7 < (s8.length : Int) then ((sargassoref1_right.f (s8.getD (4 : Int).toNat 0) 6).bind fun r7 => ((sargassoref1_right.f (s8.getD (4 : Int).toNat 0) 11).bind fun r8 => ((sargassoref1_right.f (s8.getD (4 : Int).toNat 0) 25).bind fun r9 => (if 5 < (s8.length : Int) then (if 6 < (s8.length : Int) then (if 0 ≤ s9 ∧ s9 < (r2.length : Int) then (if 0 ≤ s9 ∧ s9 < (c5.length : Int) then ((sargassoref1_right.f (s8.getD (0 : Int).toNat 0) 2).bind fun r10 => ((sargassoref1_right.f (s8.getD (0 : Int).toNat 0) 13).bind fun r11 => ((sargassoref1_right.f (s8.getD (0 : Int).toNat 0) 22).bind fun r12 => (if 1 < (s8.length : Int) then (if 2 < (s8.length : Int) then (if 3 < (s8.length : Int) then some (.inl (([IntKind.u32.wrap ((IntKind.u32.wrap ((IntKind.u32.wrap ((IntKind.u32.wrap ((IntKind.u32.wrap ((s8.getD (7 : Int).toNat 0) + (bXor .u32 (bXor .u32 r7 r8) r9))) + (bXor .u32 (bAnd .u32 (s8.getD (4 : Int).toNat 0) (s8.getD (5 : Int).toNat 0)) (bAnd .u32 (bNot .u32 (s8.getD (4 : Int).toNat 0)) (s8.getD (6 : Int).toNat 0))))) + (r2.getD s9.toNat 0))) + (c5.getD s9.toNat 0))) + (IntKind.u32.wrap ((bXor .u32 (bXor .u32 r10 r11) r12) + (bXor .u32 (bXor .u32 (bAnd .u32 (s8.getD (0 : Int).toNat 0) (s8.getD (1 : Int).toNat 0)) (bAnd .u32 (s8.getD (0 : Int).toNat 0) (s8.getD (2 : Int).toNat 0))) (bAnd .u32 (s8.getD (1 : Int).toNat 0) (s8.getD (2 : Int).toNat 0)))))), s8.getD (0 : Int).toNat 0, s8.getD (1 : Int).toNat 0, s8.getD (2 : Int).toNat 0, IntKind.u32.wrap ((s8.getD (3 : Int).toNat 0) + (IntKind.u32.wrap ((IntKind.u32.wrap ((IntKind.u32.wrap ((IntKind.u32.wrap ((s8.getD (7 : Int).toNat 0) + (bXor .u32 (bXor .u32 r7 r8) r9))) + (bXor .u32 (bAnd .u32 (s8.getD (4 : Int).toNat 0) (s8.getD (5 : Int).toNat 0)) (bAnd .u32 (bNot .u32 (s8.getD (4 : Int).toNat 0)) (s8.getD (6 : Int).toNat 0))))) + (r2.getD s9.toNat 0))) + (c5.getD s9.toNat 0)))), s8.getD (4 : Int).toNat 0, s8.getD (5 : Int).toNat 0, s8.getD (6 : Int).toNat 0] : List Int), IntKind.i64.wrap (s9 + 1))) else none) else none) else none)))) else none) else none) else none) else none)))) else none) else none) else none) else some (.inr s8))
noncomputable def sargassoref1_Sha.s3 (c2 : List Int) (s4 : Int) : (Int × (List Int)) → Option ((Int × (List Int)) ⊕ (List Int)) := fun (s6, s7) => (if s6 < 64 then (((if s6 < 16 then (if 0 ≤ IntKind.i64.wrap (s4 + (IntKind.i64.wrap (4 * s6))) ∧ IntKind.i64.wrap (s4 + (IntKind.i64.wrap (4 * s6))) < (c2.length : Int) then (if 0 ≤ IntKind.i64.wrap ((IntKind.i64.wrap (s4 + (IntKind.i64.wrap (4 * s6)))) + 1) ∧ IntKind.i64.wrap ((IntKind.i64.wrap (s4 + (IntKind.i64.wrap (4 * s6)))) + 1) < (c2.length : Int) then (if 0 ≤ IntKind.i64.wrap ((IntKind.i64.wrap (s4 + (IntKind.i64.wrap (4 * s6)))) + 2) ∧ IntKind.i64.wrap ((IntKind.i64.wrap (s4 + (IntKind.i64.wrap (4 * s6)))) + 2) < (c2.length : Int) then (if 0 ≤ IntKind.i64.wrap ((IntKind.i64.wrap (s4 + (IntKind.i64.wrap (4 * s6)))) + 3) ∧ IntKind.i64.wrap ((IntKind.i64.wrap (s4 + (IntKind.i64.wrap (4 * s6)))) + 3) < (c2.length : Int) then (if 0 ≤ s6 ∧ s6 < (s7.length : Int) then some (s7.set s6.toNat (bOr .u32 (bOr .u32 (bOr .u32 (sL .u32 (IntKind.u32.wrap (c2.getD (IntKind.i64.wrap (s4 + (IntKind.i64.wrap (4 * s6)))).toNat 0)) 24) (sL .u32 (IntKind.u32.wrap (c2.getD (IntKind.i64.wrap ((IntKind.i64.wrap (s4 + (IntKind.i64.wrap (4 * s6)))) + 1)).toNat 0)) 16)) (sL .u32 (IntKind.u32.wrap (c2.getD (IntKind.i64.wrap ((IntKind.i64.wrap (s4 + (IntKind.i64.wrap (4 * s6)))) + 2)).toNat 0)) 8)) (IntKind.u32.wrap (c2.getD (IntKind.i64.wrap ((IntKind.i64.wrap (s4 + (IntKind.i64.wrap (4 * s6)))) + 3)).toNat 0)))) else none) else none) else none) else none) else none) else (if 0 ≤ IntKind.i64.wrap (s6 - 15) ∧ IntKind.i64.wrap (s6 - 15) < (s7.length : Int) then (if 0 ≤ IntKind.i64.wrap (s6 - 2) ∧ IntKind.i64.wrap (s6 - 2) < (s7.length : Int) then (if 0 ≤ IntKind.i64.wrap (s6 - 16) ∧ IntKind.i64.wrap (s6 - 16) < (s7.length : Int) then (if 0 ≤ IntKind.i64.wrap (s6 - 7) ∧ IntKind.i64.wrap (s6 - 7) < (s7.length : Int) then ((sargassoref1_right.f (s7.getD (IntKind.i64.wrap (s6 - 15)).toNat 0) 7).bind fun r3 => ((sargassoref1_right.f (s7.getD (IntKind.i64.wrap (s6 - 15)).toNat 0) 18).bind fun r4 => ((sargassoref1_right.f (s7.getD (IntKind.i64.wrap (s6 - 2)).toNat 0) 17).bind fun r5 => ((sargassoref1_right.f (s7.getD (IntKind.i64.wrap (s6 - 2)).toNat 0) 19).bind fun r6 => (if 0 ≤ s6 ∧ s6 < (s7.length : Int) then some (s7.set s6.toNat (IntKind.u32.wrap ((IntKind.u32.wrap ((IntKind.u32.wrap ((s7.getD (IntKind.i64.wrap (s6 - 16)).toNat 0) + (bXor .u32 (bXor .u32 r3 r4) (sR .u32 (s7.getD (IntKind.i64.wrap (s6 - 15)).toNat 0) 3)))) + (s7.getD (IntKind.i64.wrap (s6 - 7)).toNat 0))) + (bXor .u32 (bXor .u32 r5 r6) (sR .u32 (s7.getD (IntKind.i64.wrap (s6 - 2)).toNat 0) 10))))) else none))))) else none) else none) else none) else none))).bind fun c6 => some (.inl (IntKind.i64.wrap (s6 + 1), c6))) else some (.inr s7))
noncomputable def sargassoref1_Sha.s2 (c2 : List Int) (r2 : List Int) : (Int × (List Int)) → Option ((Int × (List Int)) ⊕ (List Int)) := fun (s4, s5) => (if s4 < (c2.length : Int) then (((if 0 ≤ (64 : Int) ∧ (64 : Int) ≤ 64 ∧ 64 ≤ 35184372088832 then ((loopO (sargassoref1_Sha.s3 c2 s4) (0, (List.replicate ((64 : Int).toNat) 0 : List Int))).bind fun c5 => (if 0 + s5.length ≤ 35184372088832 then ((loopO (sargassoref1_Sha.s4 r2 c5) (([] : List Int) ++ s5, 0)).bind fun c7 => loopO (sargassoref1_Sha.s5 c7) (0, s5)) else none)) else none)).bind fun c4 => some (.inl (IntKind.i64.wrap (s4 + 64), c4))) else some (.inr s5))
noncomputable def sargassoref1_Sha.s1 (x0 : List Int) : ((List Int) × Int) → Option (((List Int) × Int) ⊕ (List Int)) := fun (s2, s3) => (if 0 ≤ s3 then (if 0 ≤ (IntKind.u64.wrap (IntKind.i64.wrap (8 * s3))) then (if s2.length + 1 ≤ 140737488355328 then some (.inl (s2 ++ ([IntKind.u8.wrap (sR .u64 (IntKind.u64.wrap (8 * (IntKind.u64.wrap (x0.length : Int)))) (IntKind.u64.wrap (IntKind.i64.wrap (8 * s3))))] : List Int), IntKind.i64.wrap (s3 - 1))) else none) else none) else some (.inr s2))
noncomputable def sargassoref1_Sha.s0 : (List Int) → Option ((List Int) ⊕ (List Int)) := fun s1 => (if (Int.tmod (s1.length : Int) 64) ≠ 56 then (if s1.length + 1 ≤ 140737488355328 then some (.inl (s1 ++ ([0] : List Int))) else none) else some (.inr s1))
noncomputable def sargassoref1_Sha.f (x0 : List Int) : Option (List Int) := ((sargassoref_Bytes.f x0).bind fun r1 => (if r1.length + 1 ≤ 140737488355328 then ((loopO (sargassoref1_Sha.s0) (r1 ++ ([128] : List Int))).bind fun c1 => ((loopO (sargassoref1_Sha.s1 x0) (c1, 7)).bind fun c2 => ((sargassoref1_k.f).bind fun r2 => ((loopO (sargassoref1_Sha.s2 c2 r2) (0, ([1779033703, 3144134277, 1013904242, 2773480762, 1359893119, 2600822924, 528734635, 1541459225] : List Int))).bind fun c3 => ((loopO (sargassoref1_Sha.s6 c3) (0, (List.replicate 32 0))).bind fun c8 => some c8))))) else none))
noncomputable def sargassoref1_Twice.f (x0 : List Int) : Option (List Int) := ((sargassoref1_Sha.f x0).bind fun r1 => ((sargassoref1_Sha.f r1).bind fun r2 => some r2))
end Go.Proofs.YtdngkgkkblfcjaaDoor.T
