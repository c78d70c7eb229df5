/- A helper of this seat's claims. It proves no statement by itself. -/
import Derived.Test.YtnbnnphlffhgiaaM0
import Derived.Test.YtnbnnphlffhgiaaMSq
import Derived.Test.YtnbnnphlffhgiaaGSeqMost
namespace Go.Proofs.Ytnbnnphlffhgiaa.T
open Go Go.Proofs Go.Proofs.Ytnbnnphlffhgiaa.K
set_option linter.unusedVariables false
set_option linter.unusedSimpArgs false
/-- What the law has built of input 'i'. -/
def inOf (w : Int) : In := ⟨⟨List.replicate 32 0, 0⟩, [], w⟩
structure MostAt (n i : Nat) (s : List Int × List Int × Int × Int × Int × List In) : Prop where
  l1 : s.1.length = i
  l2 : s.2.1.length = i
  l3 : s.2.2.2.2.2.length = i
  ix : s.2.2.2.2.1 = i
  ok : asks s.2.2.2.2.2 s.1 s.2.1 i = (s.2.2.1, s.2.2.2.1)
theorem asks_app (l l' : List In) (hs hs' ps ps' : List Int) (i : Nat) (h1 : i ≤ l.length) (h2 : i ≤ hs.length) (h3 : i ≤ ps.length) : asks (l ++ l') (hs ++ hs') (ps ++ ps') i = asks l hs ps i := by
  induction i with
  | zero => rfl
  | succ i ih =>
    simp only [asks, ih (by omega) (by omega) (by omega)]
    congr 1
    · simp [List.getD, List.getElem?_append_left (show i < l.length by omega)]
    · simp [List.getD, List.getElem?_append_left (show i < hs.length by omega)]
    · simp [List.getD, List.getElem?_append_left (show i < ps.length by omega)]
theorem most_step (x0 x1 x2 : List Int) (h0 : ∀ x ∈ x0, InR .i64 x) (h1 : ∀ x ∈ x1, InR .i64 x) (h2 : ∀ x ∈ x2, InR .u32 x) (i : Nat) (i0 : i < x0.length) (i1 : i < x1.length) (i2 : i < x2.length) (hi : i < 10)
    (s : List Int × List Int × Int × Int × Int × List In) (hs : MostAt 10 i s) : ∃ s', sargassolaw14_SeqMost.s0 x0 x1 x2 s = some (.inl s') ∧ MostAt 10 (i + 1) s' := by
  obtain ⟨s1, s2, s3, s4, s5, s6⟩ := s
  obtain ⟨l1, l2, l3, rfl, ok⟩ := hs
  simp only at l1 l2 l3 ok
  obtain ⟨w, ew, w0, w1⟩ := number_eq (getD_in h0 i) (n := 65536) (by omega) (by omega)
  obtain ⟨t, et, t0, t1⟩ := number_eq (getD_in h1 i) (n := 100000) (by omega) (by omega)
  obtain ⟨k, ek, k0, k1⟩ := number_eq (getD_in h0 i) (n := 3) (by omega) (by omega)
  obtain ⟨w, rfl⟩ : ∃ q : Nat, w = q := ⟨w.toNat, by omega⟩
  obtain ⟨a, ea, ha⟩ := nat_of (k := .u32) rfl (getD_in h2 i)
  have hp : bAnd .u32 (x2.getD i 0) 16777215 = ((a % 16777216 : Nat) : Int) := by
    have := bAnd_nat .u32 rfl (a := a) (b := 16777215) ha (by simp [IntKind.bits])
    rw [show ((16777215 : Nat) : Int) = 16777215 from rfl, show a &&& 16777215 = _ from and_low a 24] at this
    rw [ea]; exact this
  have hpl : a % 16777216 < 16777216 := Nat.mod_lt _ (by decide)
  generalize a % 16777216 = p at hp hpl
  have hlen : (i : Int) < iMin (x0.length : Int) (iMin (x1.length : Int) (x2.length : Int)) := by unfold iMin; split <;> (try split) <;> omega
  have hww : IntKind.u32.wrap (w : Int) = w := wu32 (by omega) (by omega)
  have fin : ∀ (c : Int × Int) (sq : Int), ask (s3, s4) sq t (p : Int) = c →
      MostAt 10 (i + 1) (s1 ++ [t], s2 ++ [(p : Int)], c.1, c.2, ((i + 1 : Nat) : Int), s6 ++ [inOf sq]) := fun c sq hc =>
    ⟨by simp [l1], by simp [l2], by simp [l3], rfl, by
      simp only [asks]
      rw [asks_app _ _ _ _ _ _ _ (by omega) (by omega) (by omega), ok]
      have g1 : (s6 ++ [inOf sq]).getD i default = inOf sq := by rw [← l3]; simp [List.getD]
      have g2 : (s1 ++ [t]).getD i 0 = t := by rw [← l1]; simp [List.getD]
      have g3 : (s2 ++ [(p : Int)]).getD i 0 = p := by rw [← l2]; simp [List.getD]
      rw [g1, g2, g3]
      exact hc⟩
  simp only [sargassolaw14_SeqMost.s0, Int.toNat_natCast]
  rw [if_pos hlen, if_pos (by omega), ew, Option.bind_some, if_pos (by omega), et, Option.bind_some, if_pos (by omega), ek, Option.bind_some, hp, hww]
  by_cases c0 : k = 0
  · rw [if_pos c0, Option.bind_some, if_pos (by omega), if_pos (by omega), if_pos (by omega), Option.bind_some, winc i (by omega)]
    refine ⟨_, rfl, fin (_, _) (w : Int) ?_⟩
    have e31 := and31 w (by omega)
    have e22 := and22 w (by omega)
    have e16 := and16 w (by omega)
    rw [if_neg (by omega)] at e31 e22
    simp only [ask, e31, e22, e16, ne_eq, not_true_eq_false, if_false]
    rw [w64 (x := ((w % 65536 : Nat) : Int)) (by omega) (by omega), show w % 65536 = w by omega]
  · rw [if_neg c0]
    by_cases c1 : k = 1
    · rw [if_pos c1, Option.bind_some, if_pos (by omega), if_pos (by omega), if_pos (by omega), Option.bind_some, winc i (by omega), or22 w (by omega)]
      refine ⟨_, rfl, fin (_, _) ((4194304 + w : Nat) : Int) ?_⟩
      have e31 := and31 (4194304 + w) (by omega)
      have e22 := and22 (4194304 + w) (by omega)
      have e16 := and16 (4194304 + w) (by omega)
      rw [if_neg (by omega)] at e31
      rw [if_pos (by omega)] at e22
      simp only [ask, e31, e22, e16, ne_eq, not_true_eq_false, if_false]
      rw [if_pos (by decide), show (4194304 + w) % 65536 = w by omega, w64 (x := (w : Int)) (by omega) (by omega)]
    · rw [if_neg c1, Option.bind_some, if_pos (by omega), if_pos (by omega), if_pos (by omega), Option.bind_some, winc i (by omega), or31 w (by omega)]
      refine ⟨_, rfl, fin (_, _) ((2147483648 + w : Nat) : Int) ?_⟩
      have e31 := and31 (2147483648 + w) (by omega)
      rw [if_pos (by omega)] at e31
      simp only [ask, e31]
      rw [if_pos (by decide)]
theorem most_loop (x0 x1 x2 : List Int) (h0 : ∀ x ∈ x0, InR .i64 x) (h1 : ∀ x ∈ x1, InR .i64 x) (h2 : ∀ x ∈ x2, InR .u32 x) (n : Nat) (hn : iMin (x0.length : Int) (iMin (x1.length : Int) (x2.length : Int)) = n) (hn10 : n ≤ 10) :
    ∀ (k i : Nat) (s : List Int × List Int × Int × Int × Int × List In), k + i = n → MostAt 10 i s →
      ∃ a b c d l, loopO (sargassolaw14_SeqMost.s0 x0 x1 x2) s = some (a, b, c, d, l) ∧ a.length = n ∧ b.length = n ∧ l.length = n ∧ asks l a b n = (c, d)
  | 0, i, s, e, hs => by
    obtain ⟨s1, s2, s3, s4, s5, s6⟩ := s
    obtain ⟨l1, l2, l3, ix, ok⟩ := hs
    simp only at l1 l2 l3 ix ok
    subst ix
    obtain rfl : i = n := by omega
    exact ⟨_, _, _, _, _, loopO_inr (by simp only [sargassolaw14_SeqMost.s0]; rw [if_neg (by omega)]), l1, l2, l3, ok⟩
  | k + 1, i, s, e, hs => by
    have hm : (n : Int) ≤ x0.length ∧ (n : Int) ≤ x1.length ∧ (n : Int) ≤ x2.length := by
      rw [← hn]; unfold iMin; split <;> (try split) <;> omega
    obtain ⟨s', e1, hs'⟩ := most_step x0 x1 x2 h0 h1 h2 i (by omega) (by omega) (by omega) (by omega) s hs
    rw [loopO_inl e1]
    exact most_loop x0 x1 x2 h0 h1 h2 n hn hn10 k (i + 1) s' (by omega) hs'
theorem sargassolaw14_SeqMost.m (μ : Store) (x0 : List Int) (u0 : Value) (hx0 : Slc (RI .i64) 1 μ u0 x0) (x1 : List Int) (u1 : Value) (hx1 : Slc (RI .i64) 1 μ u1 x1) (x2 : List Int) (u2 : Value) (hx2 : Slc (RI .u32) 1 μ u2 x2) : sargassolaw14_SeqMost.f x0 x1 x2 = some true := by
  simp only [sargassolaw14_SeqMost.f, first14, Option.bind_some, if_true]
  by_cases h : 10 < iMin (x0.length : Int) (iMin (x1.length : Int) (x2.length : Int))
  · rw [if_pos h]
  · rw [if_neg h]
    have hnn : 0 ≤ iMin (x0.length : Int) (iMin (x1.length : Int) (x2.length : Int)) := by unfold iMin; split <;> (try split) <;> omega
    obtain ⟨a, b, c, d, l, e, la, lb, ll, ok⟩ := most_loop x0 x1 x2 (slc_ints hx0) (slc_ints hx1) (slc_ints hx2) (iMin (x0.length : Int) (iMin (x1.length : Int) (x2.length : Int))).toNat (by omega) (by omega) (iMin (x0.length : Int) (iMin (x1.length : Int) (x2.length : Int))).toNat 0 ([], [], -1, -1, 0, []) (by omega) ⟨rfl, rfl, rfl, rfl, rfl⟩
    rw [e, Option.bind_some]
    simp only
    rw [need_eq 2 l [] 0 a b (by decide) (by omega) (by omega) (by omega), Option.bind_some, need_old 1 l [] 0 a b (by decide) (by omega) (by omega), Option.bind_some, if_pos (by omega), need_bad 1 l [] 0 (a ++ [1]) b (by simp; omega), Option.bind_some, ll, ok]
    simp
end Go.Proofs.Ytnbnnphlffhgiaa.T
