/- A helper of this seat's claims: printed by gen.py. It proves no statement by itself. -/
import Derived.Test.YtnbnnphlffhgiaaK14
namespace Go.Proofs.Ytnbnnphlffhgiaa.T
open Go Go.Proofs Go.Proofs.Ytnbnnphlffhgiaa.K
set_option linter.unusedVariables false
set_option linter.unusedSimpArgs false
structure digestWriter where
  s : List Int
  rest : List Int
  n : Int
deriving Inhabited
def digestWriterC (x : digestWriter) (v0 : Value) : List (List Value) := [av .u32 8 x.s, [v0], [.int .i64 x.n]]
def digestWriterW (μ : Store) (x : digestWriter) (v0 : Value) : Prop := Arr .u32 8 x.s ∧ Slc (RI .u8) 1 μ v0 x.rest ∧ InR .i64 x.n
def RdigestWriter (μ : Store) (x : digestWriter) (c : List Value) : Prop := ∃ v0 : Value, c = (digestWriterC x v0).flatten ∧ digestWriterW μ x v0
theorem digestWriterW.le {μ ν : Store} (hl : μ.le ν) {x : digestWriter} {v0 : Value} (h : digestWriterW μ x v0) : digestWriterW ν x v0 := let ⟨h0, h1, h2⟩ := h; ⟨h0, h1.le (fun _ _ h => h) hl, h2⟩
theorem RdigestWriter.ones {μ : Store} : ∀ x c, RdigestWriter μ x c → ∀ u ∈ c, u.oneCell' = true := by
  rintro x c ⟨v0, rfl, hw⟩ u hu
  simp only [digestWriterC, List.flatten_cons, List.flatten_nil, List.append_nil, List.mem_append, List.mem_singleton, List.mem_cons, List.not_mem_nil, or_false] at hu
  obtain ⟨_, hs0⟩ := Slc.sv (hw.2.1)
  rcases hu with hu | hu | hu <;> first | exact one_av _ _ _ _ hu | (subst hu; rfl) | (subst hu; exact one_sl hs0)
theorem RdigestWriter.le {μ ν : Store} (hl : μ.le ν) {x : digestWriter} {c : List Value} (h : RdigestWriter μ x c) : RdigestWriter ν x c := let ⟨v0, h0, h1⟩ := h; ⟨v0, h0, h1.le hl⟩
structure Point where
  Tx : List Int
  N : Int
deriving Inhabited
def PointC (x : Point) : List (List Value) := [av .u8 32 x.Tx, [.int .u32 x.N]]
def PointW (μ : Store) (x : Point) : Prop := Arr .u8 32 x.Tx ∧ InR .u32 x.N
def RPoint (μ : Store) (x : Point) (c : List Value) : Prop := c = (PointC x).flatten ∧ PointW μ x
theorem PointW.le {μ ν : Store} (hl : μ.le ν) {x : Point} (h : PointW μ x) : PointW ν x := let ⟨h0, h1⟩ := h; ⟨h0, h1⟩
theorem RPoint.ones {μ : Store} : ∀ x c, RPoint μ x c → ∀ u ∈ c, u.oneCell' = true := by
  rintro x c ⟨rfl, hw⟩ u hu
  simp only [PointC, List.flatten_cons, List.flatten_nil, List.append_nil, List.mem_append, List.mem_singleton, List.mem_cons, List.not_mem_nil, or_false] at hu
  rcases hu with hu | hu <;> first | exact one_av _ _ _ _ hu | (subst hu; rfl)
theorem RPoint.le {μ ν : Store} (hl : μ.le ν) {x : Point} {c : List Value} (h : RPoint μ x c) : RPoint ν x c := let ⟨h0, h1⟩ := h; ⟨h0, h1.le hl⟩
structure In where
  From : Point
  Key : List Int
  Seq : Int
deriving Inhabited
def InC (x : In) (v0 : Value) : List (List Value) := [av .u8 32 x.From.Tx, [.int .u32 x.From.N], [v0], [.int .u32 x.Seq]]
def InW (μ : Store) (x : In) (v0 : Value) : Prop := Arr .u8 32 x.From.Tx ∧ InR .u32 x.From.N ∧ Slc (RI .u8) 1 μ v0 x.Key ∧ InR .u32 x.Seq
def RIn (μ : Store) (x : In) (c : List Value) : Prop := ∃ v0 : Value, c = (InC x v0).flatten ∧ InW μ x v0
theorem InW.le {μ ν : Store} (hl : μ.le ν) {x : In} {v0 : Value} (h : InW μ x v0) : InW ν x v0 := let ⟨h0, h1, h2, h3⟩ := h; ⟨h0, h1, h2.le (fun _ _ h => h) hl, h3⟩
theorem RIn.ones {μ : Store} : ∀ x c, RIn μ x c → ∀ u ∈ c, u.oneCell' = true := by
  rintro x c ⟨v0, rfl, hw⟩ u hu
  simp only [InC, List.flatten_cons, List.flatten_nil, List.append_nil, List.mem_append, List.mem_singleton, List.mem_cons, List.not_mem_nil, or_false] at hu
  obtain ⟨_, hs0⟩ := Slc.sv (hw.2.2.1)
  rcases hu with hu | hu | hu | hu <;> first | exact one_av _ _ _ _ hu | (subst hu; rfl) | (subst hu; exact one_sl hs0)
theorem RIn.le {μ ν : Store} (hl : μ.le ν) {x : In} {c : List Value} (h : RIn μ x c) : RIn ν x c := let ⟨v0, h0, h1⟩ := h; ⟨v0, h0, h1.le hl⟩
structure Out where
  Value : Int
  Lock : List Int
deriving Inhabited
def OutC (x : Out) : List (List Value) := [[.int .u64 x.Value], av .u8 32 x.Lock]
def OutW (μ : Store) (x : Out) : Prop := InR .u64 x.Value ∧ Arr .u8 32 x.Lock
def ROut (μ : Store) (x : Out) (c : List Value) : Prop := c = (OutC x).flatten ∧ OutW μ x
theorem OutW.le {μ ν : Store} (hl : μ.le ν) {x : Out} (h : OutW μ x) : OutW ν x := let ⟨h0, h1⟩ := h; ⟨h0, h1⟩
theorem ROut.ones {μ : Store} : ∀ x c, ROut μ x c → ∀ u ∈ c, u.oneCell' = true := by
  rintro x c ⟨rfl, hw⟩ u hu
  simp only [OutC, List.flatten_cons, List.flatten_nil, List.append_nil, List.mem_append, List.mem_singleton, List.mem_cons, List.not_mem_nil, or_false] at hu
  rcases hu with hu | hu <;> first | exact one_av _ _ _ _ hu | (subst hu; rfl)
theorem ROut.le {μ ν : Store} (hl : μ.le ν) {x : Out} {c : List Value} (h : ROut μ x c) : ROut ν x c := let ⟨h0, h1⟩ := h; ⟨h0, h1.le hl⟩
structure Tx where
  Version : Int
  Ins : List In
  Outs : List Out
  Time : Int
deriving Inhabited
def TxC (x : Tx) (v0 : Value) (v1 : Value) : List (List Value) := [[.int .u32 x.Version], [v0], [v1], [.int .u32 x.Time]]
def TxW (μ : Store) (x : Tx) (v0 : Value) (v1 : Value) : Prop := InR .u32 x.Version ∧ Slc (RIn μ) 35 μ v0 x.Ins ∧ Slc (ROut μ) 33 μ v1 x.Outs ∧ InR .u32 x.Time
def RTx (μ : Store) (x : Tx) (c : List Value) : Prop := ∃ v0 v1 : Value, c = (TxC x v0 v1).flatten ∧ TxW μ x v0 v1
theorem TxW.le {μ ν : Store} (hl : μ.le ν) {x : Tx} {v0 : Value} {v1 : Value} (h : TxW μ x v0 v1) : TxW ν x v0 v1 := let ⟨h0, h1, h2, h3⟩ := h; ⟨h0, h1.le (fun _ _ h => RIn.le hl h) hl, h2.le (fun _ _ h => ROut.le hl h) hl, h3⟩
theorem RTx.ones {μ : Store} : ∀ x c, RTx μ x c → ∀ u ∈ c, u.oneCell' = true := by
  rintro x c ⟨v0, v1, rfl, hw⟩ u hu
  simp only [TxC, List.flatten_cons, List.flatten_nil, List.append_nil, List.mem_append, List.mem_singleton, List.mem_cons, List.not_mem_nil, or_false] at hu
  obtain ⟨_, hs0⟩ := Slc.sv (hw.2.1)
  obtain ⟨_, hs1⟩ := Slc.sv (hw.2.2.1)
  rcases hu with hu | hu | hu | hu <;> first | exact one_av _ _ _ _ hu | (subst hu; rfl) | (subst hu; exact one_sl hs0) | (subst hu; exact one_sl hs1)
theorem RTx.le {μ ν : Store} (hl : μ.le ν) {x : Tx} {c : List Value} (h : RTx μ x c) : RTx ν x c := let ⟨v0, v1, h0, h1⟩ := h; ⟨v0, v1, h0, h1.le hl⟩
structure Head where
  Version : Int
  Prev : List Int
  Root : List Int
  Time : Int
  Work : Int
  Nonce : Int
deriving Inhabited
def HeadC (x : Head) : List (List Value) := [[.int .u32 x.Version], av .u8 32 x.Prev, av .u8 32 x.Root, [.int .u32 x.Time], [.int .u32 x.Work], [.int .u32 x.Nonce]]
def HeadW (μ : Store) (x : Head) : Prop := InR .u32 x.Version ∧ Arr .u8 32 x.Prev ∧ Arr .u8 32 x.Root ∧ InR .u32 x.Time ∧ InR .u32 x.Work ∧ InR .u32 x.Nonce
def RHead (μ : Store) (x : Head) (c : List Value) : Prop := c = (HeadC x).flatten ∧ HeadW μ x
theorem HeadW.le {μ ν : Store} (hl : μ.le ν) {x : Head} (h : HeadW μ x) : HeadW ν x := let ⟨h0, h1, h2, h3, h4, h5⟩ := h; ⟨h0, h1, h2, h3, h4, h5⟩
theorem RHead.ones {μ : Store} : ∀ x c, RHead μ x c → ∀ u ∈ c, u.oneCell' = true := by
  rintro x c ⟨rfl, hw⟩ u hu
  simp only [HeadC, List.flatten_cons, List.flatten_nil, List.append_nil, List.mem_append, List.mem_singleton, List.mem_cons, List.not_mem_nil, or_false] at hu
  rcases hu with hu | hu | hu | hu | hu | hu <;> first | exact one_av _ _ _ _ hu | (subst hu; rfl)
theorem RHead.le {μ ν : Store} (hl : μ.le ν) {x : Head} {c : List Value} (h : RHead μ x c) : RHead ν x c := let ⟨h0, h1⟩ := h; ⟨h0, h1.le hl⟩
structure Money where
  Value : Int
  Lock : List Int
  Height : Int
  Base : Bool
deriving Inhabited
def MoneyC (x : Money) : List (List Value) := [[.int .u64 x.Value], av .u8 32 x.Lock, [.int .i64 x.Height], [.bool x.Base]]
def MoneyW (μ : Store) (x : Money) : Prop := InR .u64 x.Value ∧ Arr .u8 32 x.Lock ∧ InR .i64 x.Height
def RMoney (μ : Store) (x : Money) (c : List Value) : Prop := c = (MoneyC x).flatten ∧ MoneyW μ x
theorem MoneyW.le {μ ν : Store} (hl : μ.le ν) {x : Money} (h : MoneyW μ x) : MoneyW ν x := let ⟨h0, h1, h2⟩ := h; ⟨h0, h1, h2⟩
theorem RMoney.ones {μ : Store} : ∀ x c, RMoney μ x c → ∀ u ∈ c, u.oneCell' = true := by
  rintro x c ⟨rfl, hw⟩ u hu
  simp only [MoneyC, List.flatten_cons, List.flatten_nil, List.append_nil, List.mem_append, List.mem_singleton, List.mem_cons, List.not_mem_nil, or_false] at hu
  rcases hu with hu | hu | hu | hu <;> first | exact one_av _ _ _ _ hu | (subst hu; rfl)
theorem RMoney.le {μ ν : Store} (hl : μ.le ν) {x : Money} {c : List Value} (h : RMoney μ x c) : RMoney ν x c := let ⟨h0, h1⟩ := h; ⟨h0, h1.le hl⟩
end Go.Proofs.Ytnbnnphlffhgiaa.T
