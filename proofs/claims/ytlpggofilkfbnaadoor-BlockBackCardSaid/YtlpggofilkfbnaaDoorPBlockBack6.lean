/- Proved: the statement BlockBack, as given (its conditions are those of the given row, and card where there is one; no others): the call ends, with true, and the input reads as it did. This file is one of its parts. -/
import Derived.Test.YtlpggofilkfbnaaDoorPBlockBack5
import Derived.OpenShut
import Derived.ChangeArms
import Derived.DataReads
import Derived.WideShapes
import Derived.Below
import Derived.Carry
import Derived.ChangeOld
import Derived.LaidLaws
import Derived.Stop.ErrReads
import Derived.ChangeVars
import Derived.Test.YtlpggofilkfbnaaDoorRows
import Derived.Test.YtlpggofilkfbnaaDoorProg
import Derived.JoinedOf
import Derived.ProofKit
import Derived.WalkKit
import Derived.ShutString
import Derived.SizedLaws
import Derived.LaidHandle
import Derived.Handed
import Derived.SevenTiedAt
import Derived.Test.YtlpggofilkfbnaaDoorCards
import Derived.Test.YtlpggofilkfbnaaDoorTie
namespace Go.Proofs.YtlpggofilkfbnaaDoor.T
open Go Go.Proofs Go.Proofs.YtlpggofilkfbnaaDoor.K
set_option linter.unusedVariables false
set_option linter.unusedSimpArgs false
def WIn (w : digestWriter) (m : List Int) : Prop := w.n = m.length ∧ w.rest = m.drop (64 * (m.length / 64)) ∧ (64 ≤ m.length → w.s = blocksR m iv0 (m.length / 64))
theorem clone_eq (xs : List Int) (h : xs.length ≤ 140737488355328) : bytes_Clone.f xs = some xs := by
  unfold bytes_Clone.f
  rw [if_pos h]
theorem state_eq {w : digestWriter} {m : List Int} (h : WIn w m) : digest_Writer_state.f w = some (blocksR m iv0 (m.length / 64)) := by
  obtain ⟨h1, h2, h3⟩ := h
  simp only [digest_Writer_state.f, digest_begin.f, Option.bind_some, h1]
  by_cases hc : m.length < 64
  · rw [if_pos (by omega), Nat.div_eq_of_lt hc]
    rfl
  · rw [if_neg (by omega), h3 (by omega)]
theorem write_eq {w : digestWriter} {m b : List Int} (h : WIn w m) (hb : m.length + b.length ≤ 1000000) : ∃ w', digest_Writer_Write.f w b = some w' ∧ WIn w' (m ++ b) := by
  have hs := state_eq h
  obtain ⟨h1, h2, h3⟩ := h
  generalize hq : m.length / 64 = q at hs h2
  have hq1 : 64 * q ≤ m.length := by omega
  have hR : w.rest ++ b = (m ++ b).drop (64 * q) := by rw [h2, List.drop_append_of_le_length hq1]
  have hRl : (w.rest ++ b).length = m.length + b.length - 64 * q := by rw [hR]; simp
  generalize hRe : w.rest ++ b = R at hR hRl
  generalize hc : R.length / 64 = c
  have hloop : loopO digest_Writer_Write.s0 (0, blocksR m iv0 q, R) = some (((64 * c : Nat) : Int), blocksR (m ++ b) iv0 (q + c), R) := by
    refine loop_run (fun i => (((64 * i : Nat) : Int), blocksR (m ++ b) iv0 (q + i), R)) c ?_ (fun i hi => ?_) ?_
    · rw [Nat.add_zero, blocksR_app _ _ _ _ hq1]; rfl
    · simp only [digest_Writer_Write.s0]
      have e : IntKind.i64.wrap (((64 * i : Nat) : Int) + 64) = ((64 * i + 64 : Nat) : Int) := by rw [w64 (by omega) (by omega)]; omega
      rw [e, if_pos (by omega), if_pos (by omega), Int.toNat_natCast, Int.toNat_natCast, mix_eq _ _ (by simp; omega)]
      simp only [Option.bind_some]
      rw [mixV_in, hR, mixV_drop, ← Nat.mul_add]
      rfl
    · simp only [digest_Writer_Write.s0]
      rw [w64 (by omega) (by omega), if_neg (by omega)]
  refine ⟨⟨blocksR (m ++ b) iv0 (q + c), R.drop (64 * c), m.length + b.length⟩, ?_, by simp, ?_, fun _ => ?_⟩
  · simp only [digest_Writer_Write.f]
    have hs' : digest_Writer_state.f ⟨w.s, w.rest, w.n⟩ = some (blocksR m iv0 q) := hs
    have hw : w.rest.length + b.length = R.length := by rw [← hRe, List.length_append]
    rw [hs', hRe, hw]
    simp only [Option.bind_some]
    rw [if_pos (by omega), hloop]
    simp only [Option.bind_some]
    rw [if_pos (by omega), Int.toNat_natCast, Int.toNat_natCast, List.take_length, clone_eq _ (by simp; omega)]
    simp only [Option.bind_some]
    rw [h1, w64 (by omega) (by omega)]
  · have : 64 * ((m ++ b).length / 64) = 64 * q + 64 * c := by rw [List.length_append]; omega
    rw [this, hR, List.drop_drop]
  · have : (m ++ b).length / 64 = q + c := by rw [List.length_append]; omega
    rw [this]
theorem set_next {α : Type} (f : Nat → α) (n j : Nat) (z : α) (h : j < n) : ((List.range j).map f ++ List.replicate (n - j) z).set j (f j) = (List.range (j + 1)).map f ++ List.replicate (n - (j + 1)) z := by
  obtain ⟨k, hk⟩ : ∃ k, n - j = k + 1 := ⟨n - j - 1, by omega⟩
  have hk' : n - (j + 1) = k := by omega
  rw [hk, hk', List.set_append_right _ _ (by simp), List.range_succ, List.map_append, List.append_assoc]
  simp [List.replicate_succ]
theorem zeros_loop (step : List Int → Option (List Int ⊕ List Int)) (hs : ∀ l, step l = (if (Int.tmod (l.length : Int) 64) ≠ 56 then (if l.length + 1 ≤ 140737488355328 then some (.inl (l ++ ([0] : List Int))) else none) else some (.inr l)))
    (l : List Int) (h : l.length ≤ 2000000) : loopO step l = some (l ++ List.replicate (zs l.length) 0) := by
  refine loop_run (fun i => l ++ List.replicate i 0) (zs l.length) (by simp) (fun i hi => ?_) ?_
  · rw [hs, if_pos ?_, if_pos (by simp [zs] at hi ⊢; omega)]
    · simp [List.replicate_succ', List.append_assoc]
    · rw [List.length_append, List.length_replicate, Int.tmod_eq_emod_of_nonneg (by omega)]
      simp only [zs] at hi
      omega
  · rw [hs, if_neg ?_]
    rw [List.length_append, List.length_replicate, Int.tmod_eq_emod_of_nonneg (by omega)]
    simp only [zs]
    omega
theorem range_map_succ {α : Type} (f : Nat → α) (i : Nat) : (List.range (i + 1)).map f = (List.range i).map f ++ [f i] := by rw [List.range_succ, List.map_append]; rfl
theorem lenB_digest (n i : Nat) (hn : n ≤ 1000000) (hi : i < 8) : IntKind.u8.wrap (sR .u64 (sL .u64 (IntKind.u64.wrap (n : Int)) 3) (IntKind.i64.wrap (8 * (7 - (i : Int))))) = lenB n i := by
  have e1 : sL .u64 (IntKind.u64.wrap (n : Int)) 3 = IntKind.u64.wrap (8 * (n : Int)) := by
    rw [wu64 (by omega) (by omega)]
    simp only [sL, show (3 : Int).toNat = 3 from rfl]
    rw [show ((2 : Int) ^ (min 3 IntKind.u64.bits)) = 8 from rfl, Int.mul_comm]
  rw [e1, w64 (by omega) (by omega)]
  rfl
theorem padR_len (m : List Int) : (padR m).length = m.length + 1 + zs (m.length + 1) + 8 := by
  simp [padR]; omega
theorem padR_mod (m : List Int) : (padR m).length % 64 = 0 := by
  rw [padR_len]; simp only [zs]; omega
theorem out_eq4 (s : List Int) (i : Nat) (hi : i < 8) : loopO (digest_Writer_Sum.s4 s (i : Int)) (0, (List.range (4 * i)).map (outB s) ++ List.replicate (32 - 4 * i) 0) = some ((List.range (4 * (i + 1))).map (outB s) ++ List.replicate (32 - 4 * (i + 1)) 0) := by
  refine loop_run (fun k => ((k : Int), (List.range (4 * i + k)).map (outB s) ++ List.replicate (32 - (4 * i + k)) 0)) 4 (by simp) (fun k hk => ?_) ?_
  · simp only [digest_Writer_Sum.s4]
    have e1 : IntKind.i64.wrap (24 - IntKind.i64.wrap (8 * (k : Int))) = 24 - 8 * (k : Int) := by
      rw [w64 (x := 8 * (k : Int)) (by omega) (by omega), w64 (by omega) (by omega)]
    have e2 : IntKind.i64.wrap (IntKind.i64.wrap (4 * (i : Int)) + (k : Int)) = ((4 * i + k : Nat) : Int) := by
      rw [w64 (x := 4 * (i : Int)) (by omega) (by omega), w64 (by omega) (by omega)]; omega
    rw [if_pos (by omega), e1, e2, if_pos (by omega), if_pos (by omega), wadd1 k (by omega), Int.toNat_natCast, Int.toNat_natCast]
    have e3 : IntKind.u8.wrap (sR .u32 (s.getD i 0) (24 - 8 * (k : Int))) = outB s (4 * i + k) := by
      have a1 : (4 * i + k) / 4 = i := by omega
      have a2 : (4 * i + k) % 4 = k := by omega
      simp only [outB, a1, a2]
    rw [e3, set_next _ _ _ _ (by omega)]
    rfl
  · simp only [digest_Writer_Sum.s4]
    rw [if_neg (by decide)]
    rfl
theorem out_eq (s : List Int) : loopO (digest_Writer_Sum.s3 s) (0, List.replicate 32 0) = some (outL s) := by
  refine loop_run (fun i => ((i : Int), (List.range (4 * i)).map (outB s) ++ List.replicate (32 - 4 * i) 0)) 8 (by simp) (fun i hi => ?_) ?_
  · simp only [digest_Writer_Sum.s3]
    rw [if_pos (by omega), if_pos (by omega), out_eq4 s i hi]
    simp only [Option.bind_some]
    rw [wadd1 i (by omega)]
  · simp only [digest_Writer_Sum.s3]
    rw [if_neg (by decide)]
    rfl
theorem sum_eq' {w : digestWriter} {m : List Int} (h : WIn w m) (hb : m.length ≤ 1000000) : digest_Writer_Sum.f w = some (sha m) := by
  have hs := state_eq h
  obtain ⟨h1, h2, h3⟩ := h
  generalize hq : m.length / 64 = q at hs h2
  have hq1 : 64 * q ≤ m.length := by omega
  have hrl : w.rest.length = m.length - 64 * q := by rw [h2]; simp
  have hz : zs (w.rest ++ [128]).length = zs (m.length + 1) := by simp only [List.length_append, hrl, zs, List.length_cons, List.length_nil]; omega
  have hz64 : zs (m.length + 1) < 64 := by simp only [zs]; omega
  have hC : w.rest ++ [128] ++ List.replicate (zs (m.length + 1)) 0 ++ (List.range 8).map (lenB m.length) = (padR m).drop (64 * q) := by
    rw [h2, padR, List.drop_append_of_le_length hq1]
    simp only [List.append_assoc]
  have hl1 : loopO (digest_Writer_Sum.s1 w) (w.rest ++ [128] ++ List.replicate (zs (m.length + 1)) 0, 7) = some ((padR m).drop (64 * q)) := by
    refine loop_run (fun i => (w.rest ++ [128] ++ List.replicate (zs (m.length + 1)) 0 ++ (List.range i).map (lenB m.length), 7 - (i : Int))) 8 (by simp) (fun i hi => ?_) ?_
    · simp only [digest_Writer_Sum.s1]
      rw [if_pos (by omega), if_pos (by rw [w64 (by omega) (by omega)]; omega), if_pos (by simp; omega), h1, lenB_digest _ _ hb hi, w64 (by omega) (by omega)]
      congr 2
      rw [range_map_succ, ← List.append_assoc]
      congr 1
      omega
    · simp only [digest_Writer_Sum.s1]
      rw [if_neg (by decide), hC]
  have hpl := padR_len m
  have hpm := padR_mod m
  have hCl : ((padR m).drop (64 * q)).length = (padR m).length - 64 * q := by simp
  generalize hc : ((padR m).drop (64 * q)).length / 64 = c at *
  have hl2 : loopO digest_Writer_Sum.s2 ((padR m).drop (64 * q), 0, blocksR m iv0 q) = some ((padR m).drop (64 * q), blocksR (padR m) iv0 (q + c)) := by
    refine loop_run (fun i => ((padR m).drop (64 * q), ((64 * i : Nat) : Int), blocksR (padR m) iv0 (q + i))) c ?_ (fun i hi => ?_) ?_
    · rw [Nat.add_zero]
      have : blocksR (padR m) iv0 q = blocksR m iv0 q := blocksR_app _ _ _ _ hq1
      rw [this]; rfl
    · simp only [digest_Writer_Sum.s2]
      have e : IntKind.i64.wrap (((64 * i : Nat) : Int) + 64) = ((64 * i + 64 : Nat) : Int) := by rw [w64 (by omega) (by omega)]; omega
      rw [if_pos (by omega), e, if_pos (by omega), Int.toNat_natCast, Int.toNat_natCast, mix_eq _ _ (by simp; omega)]
      simp only [Option.bind_some]
      rw [mixV_in, mixV_drop, ← Nat.mul_add]
      rfl
    · simp only [digest_Writer_Sum.s2]
      rw [if_neg (by omega)]
  simp only [digest_Writer_Sum.f]
  have hs' : digest_Writer_state.f ⟨w.s, w.rest, w.n⟩ = some (blocksR m iv0 q) := hs
  rw [clone_eq _ (by omega)]
  simp only [Option.bind_some]
  rw [if_pos (by omega), zeros_loop digest_Writer_Sum.s0 (fun l => rfl) _ (by simp; omega), hz]
  simp only [Option.bind_some]
  rw [hl1]
  simp only [Option.bind_some]
  rw [hs']
  simp only [Option.bind_some]
  rw [hl2]
  simp only [Option.bind_some]
  rw [out_eq]
  simp only [Option.bind_some, sha]
  congr 3
  omega
theorem wIn0 (s : List Int) : WIn ⟨s, [], 0⟩ [] := ⟨rfl, rfl, fun h => by simp at h⟩
theorem sha_eq (m : List Int) (hb : m.length ≤ 1000000) : digest_Sha.f m = some (sha m) := by
  obtain ⟨w', e, hw⟩ := write_eq (wIn0 (List.replicate 8 0)) (b := m) (by simpa using hb)
  simp only [digest_Sha.f, e, Option.bind_some]
  have : digest_Writer_Sum.f ⟨w'.s, w'.rest, w'.n⟩ = some (sha m) := sum_eq' hw (by simpa using hb)
  rw [this]
  rfl
theorem outL_len (s : List Int) : (outL s).length = 32 := by simp [outL]
theorem sha_len (m : List Int) : (sha m).length = 32 := outL_len _
theorem twice_eq (m : List Int) (hb : m.length ≤ 1000000) : digest_Twice.f m = some (sha (sha m)) := by
  simp only [digest_Twice.f, sha_eq m hb, Option.bind_some, sha_eq (sha m) (by rw [sha_len]; omega)]
theorem sha_arr (m : List Int) : Arr .u8 32 (sha m) := ⟨sha_len m, fun x hx => by
  simp only [sha, outL, List.mem_map] at hx
  obtain ⟨i, _, rfl⟩ := hx
  exact wrap_in _ _⟩
end Go.Proofs.YtlpggofilkfbnaaDoor.T
namespace Go.Proofs.YtlpggofilkfbnaaDoor.T
open Go Go.Proofs Go.Proofs.YtlpggofilkfbnaaDoor.K
set_option linter.unusedVariables false
set_option linter.unusedSimpArgs false
theorem els_all {α : Type} {RE : α → List Value → Prop} {sz : Nat} {xs : List α} {cs : List Value} {Q : α → Prop} (h : Els RE sz xs cs) (f : ∀ x c, RE x c → Q x) : ∀ x ∈ xs, Q x := by
  induction h with
  | nil => simp
  | cons h _ _ ih =>
    intro y hy
    rcases List.mem_cons.1 hy with rfl | hy
    · exact f _ _ h
    · exact ih y hy
theorem slc_ints {k : IntKind} {μ : Store} {v : Value} {xs : List Int} (h : Slc (RI k) 1 μ v xs) : ∀ x ∈ xs, InR k x := by
  obtain ⟨cs, he, _⟩ := h
  exact els_all he fun x c hc => hc.2
theorem getD_mid {α : Type} (pre r : List α) (x d : α) : (pre ++ x :: r).getD ((pre.length : Int).toNat) d = x := by
  simp [List.getD]
theorem mid_lt {α : Type} (pre r : List α) (x : α) : 0 ≤ (pre.length : Int) ∧ (pre.length : Int) < ((pre ++ x :: r).length : Int) := by
  simp; omega
theorem mid_next {α : Type} (pre r : List α) (x : α) (h : (pre ++ x :: r).length ≤ 140737488355328) : IntKind.i64.wrap ((pre.length : Int) + 1) = ((pre ++ [x]).length : Int) := by
  simp at h
  rw [w64 (by omega) (by omega)]; simp
theorem winc (i : Nat) (hi : i < 9223372036854775807) : IntKind.i64.wrap ((i : Int) + 1) = ((i + 1 : Nat) : Int) := by
  rw [w64 (by omega) (by omega)]; omega
theorem take_next {α : Type} (xs : List α) (i : Nat) (d : α) (h : i < xs.length) : xs.take i ++ [xs.getD i d] = xs.take (i + 1) := by
  rw [List.take_add_one]
  simp [List.getD, h]
theorem copy_run {α : Type} {step : (List α × Int) → Option ((List α × Int) ⊕ List α)} (xs : List α) (d : α) (h : xs.length < 9223372036854775807)
    (hs : ∀ i, i < xs.length → step (xs.take i, (i : Int)) = some (.inl (xs.take i ++ [xs.getD i d], IntKind.i64.wrap ((i : Int) + 1)))) (hn : step (xs, (xs.length : Int)) = some (.inr xs)) : loopO step ([], 0) = some xs :=
  loop_run (fun i => (xs.take i, (i : Int))) xs.length rfl (fun i hi => by
    rw [hs i hi, take_next _ _ _ hi, winc i (by omega)]) (by simpa using hn)
theorem bytes_eq (xs : List Int) (h : xs.length ≤ 140737488355328) : sargassoref_Bytes.f xs = some xs := by
  unfold sargassoref_Bytes.f
  rw [if_pos ⟨by omega, by omega, by omega⟩]
  simp only [Int.toNat_zero, List.replicate_zero]
  rw [copy_run xs 0 (by omega) (fun i hi => by
    simp only [sargassoref_Bytes.s0]
    rw [if_pos (by omega), if_pos (by omega), if_pos (by simp; omega), Int.toNat_natCast]) (by simp [sargassoref_Bytes.s0])]
  rfl
theorem all_run {step : Int → Option (Int ⊕ Bool)} (n : Nat) (p : Nat → Prop) [DecidablePred p] (hn : n < 9223372036854775807)
    (hs : ∀ i, i < n → step (i : Int) = if p i then some (.inl (IntKind.i64.wrap ((i : Int) + 1))) else some (.inr false)) (he : step (n : Int) = some (.inr true)) : loopO step 0 = some (decide (∀ i, i < n → p i)) := by
  have key : ∀ m k, m + k = n → (∀ i, i < k → p i) → loopO step (k : Int) = some (decide (∀ i, i < n → p i)) := by
    intro m
    induction m with
    | zero =>
      intro k e h
      obtain rfl : k = n := by omega
      rw [loopO_inr he]
      congr 1
      exact (decide_eq_true h).symm
    | succ m ih =>
      intro k e h
      have h1 := hs k (by omega)
      by_cases hp : p k
      · rw [if_pos hp, winc k (by omega)] at h1
        rw [loopO_inl h1]
        refine ih (k + 1) (by omega) fun i hi => ?_
        rcases Nat.lt_or_ge i k with h2 | h2
        · exact h i h2
        · obtain rfl : i = k := by omega
          exact hp
      · rw [if_neg hp] at h1
        rw [loopO_inr h1]
        have : ¬ ∀ i, i < n → p i := fun h2 => hp (h2 k (by omega))
        simp [this]
  exact key n 0 (by omega) (by simp)
theorem ext_iff {α : Type} (xs ys : List α) (d : α) (h : xs.length = ys.length) : (∀ i, i < xs.length → xs.getD i d = ys.getD i d) ↔ xs = ys := by
  constructor
  · intro hh
    apply List.ext_getElem h
    intro i h1 h2
    have := hh i h1
    simpa [List.getD, h1, h2] using this
  · rintro rfl i _
    rfl
theorem samehash_eq (a b : List Int) (ha : a.length = 32) (hb : b.length = 32) : sargassoref_SameHash.f a b = some (decide (a = b)) := by
  unfold sargassoref_SameHash.f
  rw [all_run 32 (fun i => a.getD i 0 = b.getD i 0) (by omega) (fun i hi => by
    simp only [sargassoref_SameHash.s0, Int.toNat_natCast]
    rw [if_pos (by omega), if_pos (by omega)]
    by_cases h : a.getD i 0 = b.getD i 0
    · rw [if_neg (by simpa using h), if_pos h]
    · rw [if_pos h, if_neg h]) (by simp [sargassoref_SameHash.s0])]
  congr 2
  apply propext
  have := ext_iff a b 0 (by rw [ha, hb])
  rw [ha] at this
  exact this
theorem samebytes_eq' (xs ys : List Int) (h : xs.length ≤ 140737488355328) : sargassoref_SameBytes.f xs ys = some (decide (xs = ys)) := by
  unfold sargassoref_SameBytes.f
  by_cases hl : xs.length = ys.length
  · rw [if_neg (by omega), all_run xs.length (fun i => xs.getD i 0 = ys.getD i 0) (by omega) (fun i hi => by
      simp only [sargassoref_SameBytes.s0, Int.toNat_natCast]
      rw [if_pos (by omega), if_pos (by omega), if_pos (by omega)]) (by simp [sargassoref_SameBytes.s0])]
    congr 2
    exact propext (ext_iff xs ys 0 hl)
  · rw [if_pos (by omega)]
    have : xs ≠ ys := fun e => hl (by rw [e])
    simp [this]
theorem samebytes_eq (xs : List Int) (h : xs.length ≤ 140737488355328) : sargassoref_SameBytes.f xs xs = some true := by
  rw [samebytes_eq' xs xs h]
  simp
end Go.Proofs.YtlpggofilkfbnaaDoor.T
namespace Go.Proofs.YtlpggofilkfbnaaDoor.T
open Go Go.Proofs Go.Proofs.YtlpggofilkfbnaaDoor.K
set_option linter.unusedVariables false
set_option linter.unusedSimpArgs false
def Hs (l : List (List Int)) : Prop := ∀ x ∈ l, x.length = 32
theorem Hs.at {l : List (List Int)} (h : Hs l) {i : Nat} (hi : i < l.length) : (l.getD i []).length = 32 := by
  have e : l.getD i [] = l[i] := by simp [List.getD, hi]
  rw [e]; exact h _ (List.getElem_mem hi)
theorem concat_eq (l : List (List Int)) (hn : l.length ≤ 1000) (hl : ∀ x ∈ l, x.length ≤ 1000) : slices_Concat_byte_byte.f l = some l.flatten := by
  have hpre : ∀ i, i ≤ l.length → ((l.take i).flatten.length ≤ 1000 * i) := by
    intro i
    induction i with
    | zero => intro _; simp
    | succ i ih =>
      intro hi
      have h1 := ih (by omega)
      have h2 : (l.getD i []).length ≤ 1000 := by
        have e : l.getD i [] = l[i] := by simp [List.getD, show i < l.length by omega]
        rw [e]; exact hl _ (List.getElem_mem _)
      rw [← take_next l i [] (by omega), List.flatten_append, List.length_append]
      simp only [List.flatten_cons, List.flatten_nil, List.append_nil]
      omega
  have hel : ∀ i, i < l.length → (l.getD i []).length ≤ 1000 := fun i hi => by
    have e : l.getD i [] = l[i] := by simp [List.getD, hi]
    rw [e]; exact hl _ (List.getElem_mem _)
  have hnext : ∀ i, i < l.length → (l.take (i + 1)).flatten = (l.take i).flatten ++ l.getD i [] := fun i hi => by
    rw [← take_next l i [] hi, List.flatten_append]; simp
  have h0 : loopO (slices_Concat_byte_byte.s0 l) (0, 0) = some ((l.flatten.length : Int)) := by
    refine loop_run (fun i => (((l.take i).flatten.length : Int), (i : Int))) l.length (by simp) (fun i hi => ?_) ?_
    · have a := hpre i (by omega)
      have b := hel i hi
      simp only [slices_Concat_byte_byte.s0, Int.toNat_natCast]
      rw [if_pos (by omega), if_pos (by omega), w64 (x := ((l.take i).flatten.length : Int) + ((l.getD i []).length : Int)) (by omega) (by omega), if_neg (by omega), Option.bind_some, winc i (by omega), hnext i hi, List.length_append]
      push_cast
      rfl
    · simp only [slices_Concat_byte_byte.s0]
      rw [if_neg (by omega), List.take_length]
  have h1 : loopO (slices_Concat_byte_byte.s1 l) ([], 0) = some l.flatten := by
    refine loop_run (fun i => ((l.take i).flatten, (i : Int))) l.length (by simp) (fun i hi => ?_) ?_
    · have a := hpre i (by omega)
      have b := hel i hi
      simp only [slices_Concat_byte_byte.s1, Int.toNat_natCast]
      rw [if_pos (by omega), if_pos (by omega), if_pos (by omega), winc i (by omega), hnext i hi]
    · simp only [slices_Concat_byte_byte.s1]
      rw [if_neg (by omega), List.take_length]
  have a := hpre l.length (by omega)
  rw [List.take_length] at a
  simp only [slices_Concat_byte_byte.f, slices_Grow_byte_byte.f, h0, Option.bind_some]
  rw [if_pos (by omega), Option.bind_some, h1, Option.bind_some]
def pr (a b : List Int) : List Int := sha (sha (a ++ b))
theorem pr_len (a b : List Int) : (pr a b).length = 32 := sha_len _
theorem pair_eq (a b : List Int) (ha : a.length = 32) (hb : b.length = 32) : merkle_pair.f a b = some (pr a b) := by
  simp only [merkle_pair.f]
  rw [concat_eq [a, b] (by simp) (by simp [ha, hb]), Option.bind_some]
  simp only [List.flatten_cons, List.flatten_nil, List.append_nil]
  rw [twice_eq _ (by simp [ha, hb])]
  rfl
theorem xor1 (a : Nat) : a ^^^ 1 = if a % 2 = 0 then a + 1 else a - 1 := by
  have h1 : (a ^^^ 1) / 2 = a / 2 := by rw [Nat.xor_div_two]; simp
  have h2 : (a ^^^ 1) % 2 = (a + 1) % 2 := by
    have := Nat.xor_mod_two_pow (a := a) (b := 1) (n := 1)
    rw [show 2 ^ 1 = 2 from rfl] at this
    rw [this]
    have d0 : 0 ^^^ 1 % 2 = 1 := by decide
    have d1 : 1 ^^^ 1 % 2 = 0 := by decide
    rcases Nat.mod_two_eq_zero_or_one a with e | e <;> rw [e] <;> simp only [d0, d1] <;> omega
  split <;> omega
theorem xor64 (a : Nat) (h : a < 1000000) : bXor .i64 (a : Int) 1 = ((a ^^^ 1 : Nat) : Int) := by
  unfold bXor
  have e1 : (BitVec.ofInt IntKind.i64.bits (a : Int)).toNat = a := bv_nat _ _ (by simp [IntKind.bits]; omega)
  have e2 : (BitVec.ofInt IntKind.i64.bits (1 : Int)).toNat = 1 := bv_nat IntKind.i64.bits 1 (by simp [IntKind.bits])
  rw [BitVec.toNat_xor, e1, e2]
  have := xor1 a
  exact w64 (by omega) (by split at this <;> omega)
theorem iMin_nat (a b : Nat) : iMin (a : Int) (b : Int) = ((min a b : Nat) : Int) := by unfold iMin; split <;> omega
def oth (i : Nat) (l : List (List Int)) : List Int := l.getD (min (i ^^^ 1) (l.length - 1)) []
theorem oth_eq (i : Nat) (l : List (List Int)) (h0 : 0 < l.length) (hi : i < 1000000) (hl : l.length < 1000000) : merkle_other.f (i : Int) l = some (oth i l) := by
  simp only [merkle_other.f]
  have e : IntKind.i64.wrap ((l.length : Int) - 1) = ((l.length - 1 : Nat) : Int) := by rw [w64 (by omega) (by omega)]; omega
  rw [xor64 i hi, e, iMin_nat, if_pos (by omega), Int.toNat_natCast]
  rfl
theorem oth_len {i : Nat} {l : List (List Int)} (h : Hs l) (h0 : 0 < l.length) : (oth i l).length = 32 := h.at (by omega)
def upG (l : List (List Int)) (j : Nat) : List Int := pr (l.getD (2 * j) []) (oth (2 * j) l)
def upL (l : List (List Int)) : List (List Int) := (List.range ((l.length + 1) / 2)).map (upG l)
theorem upL_len (l : List (List Int)) : (upL l).length = (l.length + 1) / 2 := by simp [upL]
theorem upL_hs (l : List (List Int)) : Hs (upL l) := fun x hx => by
  simp only [upL, List.mem_map] at hx
  obtain ⟨j, _, rfl⟩ := hx
  exact pr_len _ _
theorem up_eq (l : List (List Int)) (h : Hs l) (hl : l.length < 100000) : merkle_up.f l = some (upL l) := by
  simp only [merkle_up.f]
  have e : loopO (merkle_up.s0 l) ([], 0) = some (upL l) := by
    refine loop_run (fun j => ((List.range j).map (upG l), ((2 * j : Nat) : Int))) ((l.length + 1) / 2) rfl (fun j hj => ?_) ?_
    · simp only [merkle_up.s0, Int.toNat_natCast]
      rw [if_pos (by omega), if_pos (by omega), oth_eq _ _ (by omega) (by omega) (by omega), Option.bind_some, pair_eq _ _ (h.at (by omega)) (oth_len h (by omega)), Option.bind_some, if_pos (by simp; omega), range_map_succ, w64 (by omega) (by omega)]
      congr 3
    · simp only [merkle_up.s0]
      rw [if_neg (by omega)]
      rfl
  rw [e, Option.bind_some]
def topR : Nat → List (List Int) → List (List Int)
  | 0, l => l
  | f + 1, l => if 1 < l.length then topR f (upL l) else l
theorem top_stop {f : Nat} {l : List (List Int)} (h : l.length ≤ 1) : topR f l = l := by
  cases f with
  | zero => rfl
  | succ f => rw [topR, if_neg (by omega)]
def rootL (l : List (List Int)) : List Int := if l.length = 0 then List.replicate 32 0 else (topR l.length l).getD 0 []
theorem top_pos : ∀ (f : Nat) (l : List (List Int)), 0 < l.length → l.length ≤ f → (topR f l).length = 1
  | 0, l, h, h' => by omega
  | f + 1, l, h, h' => by
    by_cases c : 1 < l.length
    · rw [topR, if_pos c]
      exact top_pos f _ (by rw [upL_len]; omega) (by rw [upL_len]; omega)
    · rw [top_stop (by omega)]; omega
theorem top_hs : ∀ (f : Nat) (l : List (List Int)), Hs l → Hs (topR f l)
  | 0, l, h => h
  | f + 1, l, h => by
    by_cases c : 1 < l.length
    · rw [topR, if_pos c]; exact top_hs f _ (upL_hs l)
    · rw [topR, if_neg c]; exact h
theorem root_loop : ∀ (f : Nat) (l : List (List Int)), Hs l → l.length ≤ f → l.length < 100000 → loopO merkle_Root.s0 l = some (topR f l)
  | 0, l, h, hf, hl => loopO_inr (by simp only [merkle_Root.s0]; rw [if_neg (by omega)]; rfl)
  | f + 1, l, h, hf, hl => by
    by_cases c : 1 < l.length
    · rw [loopO_inl (s' := upL l) (by simp only [merkle_Root.s0]; rw [if_pos (by omega), up_eq l h hl]; rfl), topR, if_pos c]
      exact root_loop f _ (upL_hs l) (by rw [upL_len]; omega) (by rw [upL_len]; omega)
    · rw [loopO_inr (r := l) (by simp only [merkle_Root.s0]; rw [if_neg (by omega)]), top_stop (by omega)]
theorem root_eq (l : List (List Int)) (h : Hs l) (hl : l.length < 100000) : merkle_Root.f l = some (rootL l) := by
  simp only [merkle_Root.f, rootL]
  by_cases c : l.length = 0
  · rw [if_pos (by omega), if_pos c]; rfl
  · rw [if_neg (by omega), if_neg c, root_loop _ l h (Nat.le_refl _) hl, Option.bind_some, if_pos (by rw [top_pos _ _ (by omega) (Nat.le_refl _)]; decide)]
    rfl
theorem rootL_len (l : List (List Int)) (h : Hs l) : (rootL l).length = 32 := by
  unfold rootL
  split
  · simp
  · exact (top_hs _ _ h).at (by rw [top_pos _ _ (by omega) (Nat.le_refl _)]; omega)
end Go.Proofs.YtlpggofilkfbnaaDoor.T
namespace Go.Proofs.YtlpggofilkfbnaaDoor.T
open Go Go.Proofs Go.Proofs.YtlpggofilkfbnaaDoor.K
set_option linter.unusedVariables false
set_option linter.unusedSimpArgs false
theorem u8e (x : Int) : IntKind.u8.wrap x = x % 256 := by simp [IntKind.wrap, IntKind.signed, IntKind.bits]
def lb (a m : Nat) : List Int := (List.range m).map fun j => ((a / 2 ^ (8 * j) % 256 : Nat) : Int)
theorem lb_len (a m : Nat) : (lb a m).length = m := by simp [lb]
theorem sR_div (k : IntKind) {a n : Nat} (hn : n ≤ k.bits) : sR k (a : Int) (n : Int) = ((a / 2 ^ n : Nat) : Int) := by
  rw [sR_nat k hn, Nat.shiftRight_eq_div_pow]
theorem number_eq' (r : List Int) (a k : Nat) (hk : k ≤ 100) (hl : r.length + k ≤ 140737488355328) : compact_number.f r (a : Int) (k : Int) = some (r ++ lb a k) := by
  simp only [compact_number.f]
  have h : loopO (compact_number.s0 (k : Int)) (r, (a : Int), 0) = some (r ++ lb a k, ((a / 2 ^ (8 * k) : Nat) : Int)) := by
    refine loop_run (fun j => (r ++ lb a j, ((a / 2 ^ (8 * j) : Nat) : Int), (j : Int))) k (by simp [lb]) (fun j hj => ?_) ?_
    · simp only [compact_number.s0]
      have e1 : IntKind.u8.wrap ((a / 2 ^ (8 * j) : Nat) : Int) = ((a / 2 ^ (8 * j) % 256 : Nat) : Int) := by rw [u8e]; generalize a / 2 ^ (8 * j) = q; omega
      have e2 : sR .u64 ((a / 2 ^ (8 * j) : Nat) : Int) 8 = ((a / 2 ^ (8 * (j + 1)) : Nat) : Int) := by
        have := sR_div .u64 (a := a / 2 ^ (8 * j)) (n := 8) (by decide)
        rw [Nat.div_div_eq_div_mul, ← Nat.pow_add] at this
        exact this
      rw [if_pos (by omega), if_pos (by simp [lb_len]; omega), e1, e2, winc j (by omega), List.append_assoc]
      have : lb a j ++ [((a / 2 ^ (8 * j) % 256 : Nat) : Int)] = lb a (j + 1) := by
        unfold lb; rw [range_map_succ]
      rw [this]
    · simp only [compact_number.s0]
      rw [if_neg (by omega)]
  rw [h, Option.bind_some]
theorem four_eq (b : List Int) (a : Nat) (ha : a < 4294967296) (hl : b.length + 4 ≤ 140737488355328) : compact_Four.f b (a : Int) = some (b ++ lb a 4) := by
  have := number_eq' b a 4 (by omega) hl
  simp only [compact_Four.f, bytes_Clone.f]
  rw [wu64 (by omega) (by omega), if_pos (by omega), Option.bind_some]
  rw [show ((4 : Nat) : Int) = 4 from rfl] at this
  rw [this, Option.bind_some]
theorem lb4_inj {a b : Nat} (ha : a < 4294967296) (hb : b < 4294967296) : lb a 4 = lb b 4 ↔ a = b := by
  constructor
  · intro h
    simp [lb, List.range_succ] at h
    omega
  · rintro rfl; rfl
structure HN where
  v : Nat
  p : List Int
  r : List Int
  t : Nat
  w : Nat
  n : Nat
deriving DecidableEq
structure HN.Ok (h : HN) : Prop where
  v : h.v < 4294967296
  p : h.p.length = 32
  r : h.r.length = 32
  t : h.t < 4294967296
  w : h.w < 4294967296
  n : h.n < 4294967296
def HN.h (h : HN) : Head := ⟨h.v, h.p, h.r, h.t, h.w, h.n⟩
theorem hn_of {μ : Store} {x : Head} (h : HeadW μ x) : ∃ y : HN, x = y.h ∧ y.Ok := by
  obtain ⟨a, b, c, d, e, f⟩ := h
  obtain ⟨v, ev, hv⟩ := nat_of (k := .u32) rfl a
  obtain ⟨t, et, ht⟩ := nat_of (k := .u32) rfl d
  obtain ⟨w, ew, hw⟩ := nat_of (k := .u32) rfl e
  obtain ⟨n, en, hn⟩ := nat_of (k := .u32) rfl f
  refine ⟨⟨v, x.Prev, x.Root, t, w, n⟩, ?_, ⟨hv, b.1, c.1, ht, hw, hn⟩⟩
  obtain ⟨x1, x2, x3, x4, x5, x6⟩ := x
  simp only at ev et ew en
  subst ev et ew en
  rfl
def hb (h : HN) : List Int := lb h.v 4 ++ (h.p ++ (h.r ++ (lb h.t 4 ++ (lb h.w 4 ++ lb h.n 4))))
theorem hb_len {h : HN} (o : h.Ok) : (hb h).length = 80 := by simp [hb, lb_len, o.p, o.r]
theorem hbytes_eq {h : HN} (o : h.Ok) : head_Bytes.f h.h = some (hb h) := by
  simp only [head_Bytes.f, HN.h]
  have hv := o.v
  have ht := o.t
  have hw := o.w
  have hn := o.n
  rw [four_eq [] h.v hv (by simp), Option.bind_some, concat_eq _ (by simp) (by simp [lb_len, o.p, o.r]), Option.bind_some, four_eq _ h.t ht (by simp [lb_len, o.p, o.r]), Option.bind_some, four_eq _ h.w hw (by simp [lb_len, o.p, o.r]), Option.bind_some, four_eq _ h.n hn (by simp [lb_len, o.p, o.r]), Option.bind_some]
  simp [hb]
theorem hb_inj {a b : HN} (oa : a.Ok) (ob : b.Ok) : hb a = hb b ↔ a = b := by
  constructor
  · intro h
    unfold hb at h
    obtain ⟨e1, h⟩ := List.append_inj h (by rw [lb_len, lb_len])
    obtain ⟨e2, h⟩ := List.append_inj h (by rw [oa.p, ob.p])
    obtain ⟨e3, h⟩ := List.append_inj h (by rw [oa.r, ob.r])
    obtain ⟨e4, h⟩ := List.append_inj h (by rw [lb_len, lb_len])
    obtain ⟨e5, h⟩ := List.append_inj h (by rw [lb_len, lb_len])
    have f1 := (lb4_inj oa.v ob.v).1 e1
    have f4 := (lb4_inj oa.t ob.t).1 e4
    have f5 := (lb4_inj oa.w ob.w).1 e5
    have f6 := (lb4_inj oa.n ob.n).1 h
    clear e1 e4 e5 h oa ob
    obtain ⟨a1, a2, a3, a4, a5, a6⟩ := a
    obtain ⟨b1, b2, b3, b4, b5, b6⟩ := b
    simp only at f1 e2 e3 f4 f5 f6
    rw [f1, e2, e3, f4, f5, f6]
  · rintro rfl; rfl
theorem same_eq {a b : HN} (oa : a.Ok) (ob : b.Ok) : sargassoref_SameHead.f a.h b.h = some (decide (hb a = hb b)) := by
  have e : decide (hb a = hb b) = decide (a = b) := decide_eq_decide.2 (hb_inj oa ob)
  rw [e]
  simp only [sargassoref_SameHead.f, HN.h]
  rw [samehash_eq _ _ oa.p ob.p, samehash_eq _ _ oa.r ob.r]
  obtain ⟨a1, a2, a3, a4, a5, a6⟩ := a
  obtain ⟨b1, b2, b3, b4, b5, b6⟩ := b
  simp only [Option.bind_some, HN.mk.injEq, decide_eq_true_eq, Int.natCast_inj]
  by_cases c1 : a1 = b1
  · by_cases c2 : a2 = b2
    · by_cases c3 : a3 = b3
      · by_cases c4 : a4 = b4
        · by_cases c5 : a5 = b5
          · simp [c1, c2, c3, c4, c5]
          · simp [c1, c2, c3, c4, c5]
        · simp [c1, c2, c3, c4]
      · simp [c1, c2, c3]
    · simp [c1, c2]
  · simp [c1]
end Go.Proofs.YtlpggofilkfbnaaDoor.T
namespace Go.Proofs.YtlpggofilkfbnaaDoor.T
open Go Go.Proofs Go.Proofs.YtlpggofilkfbnaaDoor.K
set_option linter.unusedVariables false
set_option linter.unusedSimpArgs false
def sl : List Er := [xErrEnd, xErrShape, xErrLong, xErrMany, xErrValue, xErrTwice, xErrBase, xErrRoot, xErrKnown, xErrParent, xErrInvalid, xErrTime, xErrMissing, xErrKey, xErrYoung, xErrEarly, xErrLess, xErrReward, xErrClash, xErrLimit, xErrFull, xErrRange, xErrNone, xErrWord, xErrNumber]
theorem sl_plain : ∀ e ∈ sl, e ≠ .b 0 ∧ e.isP = false := by decide
theorem alike_eq {e f : Er} (he : e ≠ .b 0) (hf : f ≠ .b 0) (hp : e.isP = false) : sargassosee_Alike.f e f = some (decide (e = f)) := by
  simp only [sargassosee_Alike.f]
  rw [if_neg he, Option.bind_some, if_neg (by simpa using hf), if_pos]
  cases e with
  | pl _ _ => cases hp
  | b n =>
    cases f with
    | pl _ _ => cases n <;> rfl
    | b m =>
      cases n with
      | zero => exact absurd rfl he
      | succ n => rfl
theorem gd {α : Type} (l : List α) (d : α) {i : Nat} (h : i < l.length) : l.getD i d = l[i] := by simp [List.getD, h]
theorem sl_ne : ∀ i, i < 25 → ∀ j, j < 25 → i ≠ j → sl.getD i (.b 0) ≠ sl.getD j (.b 0) := by decide +kernel
theorem sentinel_at (k : Nat) (hk : k < 25) : sargassosee_sentinel.f (sl.getD k (.b 0)) = some (101 + (k : Int)) := by
  have hl : sl.length = 25 := rfl
  have hmem : ∀ i, i < 25 → sl.getD i (.b 0) ∈ sl := fun i hi => by
    have e := gd sl (.b 0) (i := i) (by omega)
    rw [e]; exact List.getElem_mem _
  have h0 : sargassosee_sentinels.f = some sl := rfl
  unfold sargassosee_sentinel.f
  rw [h0, Option.bind_some]
  have hs : ∀ i : Nat, i < 25 → sargassosee_sentinel.s0 (sl.getD k (.b 0)) sl (i : Int) = if k = i then some (.inr (IntKind.i64.wrap (101 + (i : Int)))) else some (.inl (IntKind.i64.wrap ((i : Int) + 1))) := fun i hi => by
    simp only [sargassosee_sentinel.s0]
    rw [if_pos (by omega), if_pos (by omega), Int.toNat_natCast, alike_eq (sl_plain _ (hmem k hk)).1 (sl_plain _ (hmem i hi)).1 (sl_plain _ (hmem k hk)).2, Option.bind_some]
    by_cases h : k = i
    · subst h; rw [if_pos (by simp), if_pos rfl]
    · rw [if_neg (by simpa using sl_ne k hk i hi h), if_neg h]
  have key := loop_idx (step := sargassosee_sentinel.s0 (sl.getD k (.b 0)) sl) (fun i => (i : Int)) k (fun i hi => by rw [hs i (by omega), if_neg (by omega), winc i (by omega)])
  have e0 : ((0 : Nat) : Int) = 0 := rfl
  simp only [e0] at key
  have h1 := hs k hk
  rw [if_pos rfl] at h1
  rw [key, loopO_inr h1, w64 (by omega) (by omega)]
theorem samefault_bare (a b : Int) : sargassoref_SameFault.f ⟨a, false, 0, false, 0⟩ ⟨b, false, 0, false, 0⟩ = some (decide (a = b)) := by
  simp only [sargassoref_SameFault.f]
  by_cases h : a = b
  · simp [h]
  · simp [h]
theorem fault_at (k : Nat) (hk : k < 25) : sargassosee_Fault.f (sl.getD k (.b 0)) = some ⟨101 + (k : Int), false, 0, false, 0⟩ := by
  have hm : sl.getD k (.b 0) ∈ sl := by
    have hl : sl.length = 25 := rfl
    have e := gd sl (.b 0) (i := k) (by omega)
    rw [e]; exact List.getElem_mem _
  obtain ⟨h1, h2⟩ := sl_plain _ hm
  simp only [sargassosee_Fault.f]
  rw [if_neg h1, if_neg (by rw [h2]; decide), sentinel_at k hk]
  rfl
theorem is_at (k : Nat) (hk : k < 25) (c : Int) : sargassosee_Is.f (sl.getD k (.b 0)) c = some (decide (101 + (k : Int) = c)) := by
  simp only [sargassosee_Is.f, sargassosee_Same.f, sargassoref_Bare.f, Option.bind_some]
  rw [fault_at k hk, Option.bind_some, samefault_bare, Option.bind_some, Option.bind_some]
theorem is_end (c : Int) : sargassosee_Is.f xErrEnd c = some (decide (101 = c)) := is_at 0 (by decide) c
theorem is_shape (c : Int) : sargassosee_Is.f xErrShape c = some (decide (102 = c)) := is_at 1 (by decide) c
end Go.Proofs.YtlpggofilkfbnaaDoor.T
namespace Go.Proofs.YtlpggofilkfbnaaDoor.T
open Go Go.Proofs Go.Proofs.YtlpggofilkfbnaaDoor.K
set_option linter.unusedVariables false
set_option linter.unusedSimpArgs false
def Bs (l : List Int) : Prop := ∀ x ∈ l, InR .u8 x
theorem Bs.app {l m : List Int} (h : Bs l) (k : Bs m) : Bs (l ++ m) := fun x hx => (List.mem_append.1 hx).elim (h x) (k x)
theorem Bs.take {l : List Int} (h : Bs l) (n : Nat) : Bs (l.take n) := fun x hx => h x (List.mem_of_mem_take hx)
theorem Bs.drop {l : List Int} (h : Bs l) (n : Nat) : Bs (l.drop n) := fun x hx => h x (List.mem_of_mem_drop hx)
theorem bs_lb (a m : Nat) : Bs (lb a m) := fun x hx => by
  obtain ⟨j, _, rfl⟩ := List.mem_map.1 hx
  simp only [InR]
  omega
theorem bs_nil : Bs [] := fun x hx => by cases hx
def vl : List Int → Nat
  | [] => 0
  | b :: l => b.toNat + 256 * vl l
theorem vl_snoc (l : List Int) (b : Int) : vl (l ++ [b]) = vl l + 256 ^ l.length * b.toNat := by
  induction l with
  | nil => simp [vl]
  | cons x l ih => simp only [List.cons_append, vl, ih, List.length_cons, Nat.pow_succ]; rw [Nat.mul_add, Nat.mul_comm (256 ^ l.length) 256, Nat.mul_assoc]; omega
theorem vl_lt {l : List Int} (h : Bs l) : vl l < 256 ^ l.length := by
  induction l with
  | nil => simp [vl]
  | cons x l ih =>
    have h1 := ih fun y hy => h y (by simp [hy])
    obtain ⟨h2, h3⟩ := h x (by simp)
    simp only [vl, List.length_cons, Nat.pow_succ]
    omega
theorem vl_lb (a m : Nat) : vl (lb a m) = a % 256 ^ m := by
  induction m with
  | zero => simp [lb, vl, Nat.mod_one]
  | succ m ih =>
    have e : lb a (m + 1) = lb a m ++ [((a / 2 ^ (8 * m) % 256 : Nat) : Int)] := by unfold lb; rw [range_map_succ]
    rw [e, vl_snoc, ih, lb_len, Int.toNat_natCast, Nat.pow_mul]
    exact (Nat.mod_mul (x := a) (a := 256 ^ m) (b := 256)).symm
theorem lb_vl {l : List Int} (h : Bs l) : lb (vl l) l.length = l := by
  induction l with
  | nil => rfl
  | cons x l ih =>
    have ih := ih fun y hy => h y (by simp [hy])
    obtain ⟨h2, h3⟩ := h x (by simp)
    have e : ∀ a m, lb a (m + 1) = ((a % 256 : Nat) : Int) :: lb (a / 256) m := fun a m => by
      unfold lb
      rw [List.range_succ_eq_map, List.map_cons, List.map_map]
      refine List.cons_eq_cons.2 ⟨by simp, List.map_congr_left fun j _ => ?_⟩
      simp only [Function.comp]
      rw [Nat.succ_eq_add_one, Nat.mul_add, Nat.mul_one, Nat.pow_add, Nat.mul_comm (2 ^ (8 * j)), ← Nat.div_div_eq_div_mul]
    simp only [List.length_cons, vl]
    rw [e]
    have e1 : (x.toNat + 256 * vl l) % 256 = x.toNat := by omega
    have e2 : (x.toNat + 256 * vl l) / 256 = vl l := by omega
    rw [e1, e2, ih]
    congr 1
    omega
theorem or_shift (a b i : Nat) (ha : a < 256 ^ i) (hb : b < 256) (hi : i < 8) : bOr .u64 (a : Int) (sL .u64 (b : Int) ((8 * i : Nat) : Int)) = ((a + 256 ^ i * b : Nat) : Int) := by
  have e1 : (256 : Nat) ^ i = 2 ^ (8 * i) := by rw [Nat.pow_mul]
  have h64 : (256 : Nat) ^ i * 256 ≤ 2 ^ 64 := by
    rw [e1, show (256 : Nat) = 2 ^ 8 from rfl, ← Nat.pow_add]
    exact Nat.pow_le_pow_right (by decide) (by omega)
  have hlt : 256 ^ i * b < 2 ^ 64 := Nat.lt_of_lt_of_le (Nat.mul_lt_mul_of_pos_left hb (Nat.pow_pos (by decide))) h64
  have hs : sL .u64 (b : Int) ((8 * i : Nat) : Int) = ((256 ^ i * b : Nat) : Int) := by
    unfold sL
    have em : min ((8 * i : Nat) : Int).toNat IntKind.u64.bits = 8 * i := by simp [IntKind.bits]; omega
    rw [em]
    have e2 : (b : Int) * 2 ^ (8 * i) = ((256 ^ i * b : Nat) : Int) := by
      rw [e1]; push_cast; exact Int.mul_comm _ _
    rw [e2]
    exact wu64 (by omega) (by omega)
  rw [hs, bOr_nat .u64 rfl (by simp only [IntKind.bits]; exact Nat.lt_of_lt_of_le ha (by omega)) (by simpa [IntKind.bits] using hlt)]
  congr 1
  have := Nat.two_pow_add_eq_or_of_lt (i := 8 * i) (b := a) (by rw [← e1]; exact ha) b
  rw [← e1] at this
  rw [Nat.or_comm, ← this, Nat.add_comm]
def nx (n : Nat) (s : List Int × Er) : List Int × (List Int × Er) :=
  if s.2 ≠ .b 0 then ([], s) else if s.1.length < n then ([], (s.1, xErrEnd)) else (s.1.take n, (s.1.drop n, s.2))
def Rep (r : compactReader) (s : List Int × Er) : Prop := ∃ pre, r = ⟨pre ++ s.1, (pre.length : Int), s.2⟩ ∧ (pre ++ s.1).length ≤ 1000000 ∧ Bs s.1
theorem nx_bs {n : Nat} {s : List Int × Er} (h : Bs s.1) : Bs (nx n s).1 ∧ Bs (nx n s).2.1 := by
  unfold nx
  split
  · exact ⟨bs_nil, h⟩
  · split
    · exact ⟨bs_nil, h⟩
    · exact ⟨h.take _, h.drop _⟩
theorem nx_len (n : Nat) (s : List Int × Er) : (nx n s).1.length ≤ n := by
  unfold nx
  split
  · simp
  · split
    · simp
    · simp; omega
theorem next_eq {r : compactReader} {s : List Int × Er} (h : Rep r s) (n : Nat) : ∃ r', compact_Reader_next.f r (n : Int) = some ((nx n s).1, r') ∧ Rep r' (nx n s).2 := by
  obtain ⟨pre, rfl, hl, hbs⟩ := h
  obtain ⟨rest, e⟩ := s
  simp only at hl hbs ⊢
  rw [List.length_append] at hl
  simp only [compact_Reader_next.f, nx]
  by_cases he : e = .b 0
  · subst he
    rw [if_neg (show ¬ (Er.b 0 ≠ Er.b 0) from fun h => h rfl), if_neg (show ¬ (Er.b 0 ≠ Er.b 0) from fun h => h rfl)]
    have w1 : IntKind.i64.wrap (((pre ++ rest).length : Int) - (pre.length : Int)) = (rest.length : Int) := by
      rw [List.length_append, w64 (by omega) (by omega)]; omega
    rw [w1]
    by_cases hc : rest.length < n
    · rw [if_pos (by omega), if_pos hc]
      exact ⟨_, rfl, pre, rfl, by rw [List.length_append]; exact hl, hbs⟩
    · rw [if_neg (by omega), if_neg hc]
      have w2 : IntKind.i64.wrap ((pre.length : Int) + (n : Int)) = ((pre.length + n : Nat) : Int) := by rw [w64 (by omega) (by omega)]; omega
      have w3 : IntKind.i64.wrap (((pre.length + n : Nat) : Int) - (n : Int)) = (pre.length : Int) := by rw [w64 (by omega) (by omega)]; omega
      rw [w2, w3, if_pos (by rw [List.length_append]; omega), Int.toNat_natCast, Int.toNat_natCast]
      have e1 : ((pre ++ rest).take (pre.length + n)).drop pre.length = rest.take n := by
        rw [List.take_append, List.take_of_length_le (by omega), Nat.add_sub_cancel_left, List.drop_left' rfl]
      rw [e1]
      refine ⟨_, rfl, pre ++ rest.take n, ?_, ?_, hbs.drop n⟩
      · rw [List.append_assoc, List.take_append_drop, List.length_append, List.length_take, Nat.min_eq_left (by omega)]
      · rw [List.append_assoc, List.take_append_drop, List.length_append]; exact hl
  · rw [if_pos he, if_pos he]
    exact ⟨_, rfl, pre, rfl, by rw [List.length_append]; exact hl, hbs⟩
theorem left_eq {r : compactReader} {s : List Int × Er} (h : Rep r s) : compact_Reader_Left.f r = some (s.1.length : Int) := by
  obtain ⟨pre, rfl, hl, hbs⟩ := h
  rw [List.length_append] at hl
  simp only [compact_Reader_Left.f]
  rw [List.length_append, w64 (by omega) (by omega)]
  congr 1
  omega
theorem err_eq {r : compactReader} {s : List Int × Er} (h : Rep r s) : compact_Reader_Err.f r = some s.2 := by
  obtain ⟨pre, rfl, hl, hbs⟩ := h
  rfl
theorem rep_err {r : compactReader} {s : List Int × Er} (h : Rep r s) : r.err = s.2 := by
  obtain ⟨pre, rfl, hl, hbs⟩ := h
  rfl
theorem read_eq {b : List Int} (hb : Bs b) (hl : b.length ≤ 1000000) : ∃ r, compact_Read.f b = some r ∧ Rep r (b, .b 0) := by
  simp only [compact_Read.f, bytes_Clone.f]
  rw [if_pos (by omega), Option.bind_some]
  exact ⟨_, rfl, [], rfl, by simpa using hl, hb⟩
def wh (n : Nat) (s : List Int × Er) : Nat × (List Int × Er) := (vl (nx n s).1, (nx n s).2)
theorem vl_step (l : List Int) (hb : Bs l) (i : Nat) (hi : i < l.length) (h8 : l.length ≤ 8) : bOr .u64 ((vl (l.take i) : Nat) : Int) (sL .u64 (IntKind.u64.wrap (l.getD i 0)) ((8 * i : Nat) : Int)) = ((vl (l.take (i + 1)) : Nat) : Int) := by
  have hm : l.getD i 0 ∈ l := by
    have e : l.getD i 0 = l[i] := by simp [List.getD, hi]
    rw [e]; exact List.getElem_mem hi
  obtain ⟨h2, h3⟩ := hb _ hm
  have hlt := vl_lt (hb.take i)
  rw [List.length_take, Nat.min_eq_left (by omega)] at hlt
  rw [← take_next l i 0 hi, vl_snoc, List.length_take, Nat.min_eq_left (by omega), wu64 (by omega) (by omega)]
  have e : l.getD i 0 = (((l.getD i 0).toNat : Nat) : Int) := by omega
  have := or_shift (vl (l.take i)) (l.getD i 0).toNat i hlt (by omega) (by omega)
  rw [← e] at this
  exact this
theorem whole_eq {r : compactReader} {s : List Int × Er} (h : Rep r s) (n : Nat) (hn : n ≤ 8) : ∃ r', compact_Reader_whole.f r (n : Int) = some (((wh n s).1 : Int), r') ∧ Rep r' (wh n s).2 := by
  obtain ⟨r', h1, h2⟩ := next_eq h n
  have hb := (nx_bs (n := n) (show Bs s.1 from h.elim fun _ h => h.2.2)).1
  have hlen := nx_len n s
  refine ⟨r', ?_, h2⟩
  simp only [compact_Reader_whole.f, wh]
  rw [h1, Option.bind_some]
  generalize (nx n s).1 = l at *
  have hl : loopO (compact_Reader_whole.s0 (l, r')) (0, 0) = some ((vl l : Int), r'.b, r'.at_, r'.err) := by
    refine loop_run (fun i => (((vl (l.take i) : Nat) : Int), (i : Int))) l.length (by simp [vl]) (fun i hi => ?_) ?_
    · simp only [compact_Reader_whole.s0, Int.toNat_natCast]
      have w8 : IntKind.i64.wrap (8 * (i : Int)) = ((8 * i : Nat) : Int) := by rw [w64 (by omega) (by omega)]; omega
      rw [if_pos (by omega), if_pos (by omega), w8, if_pos (by omega), winc i (by omega), vl_step l hb i hi (by omega)]
    · simp only [compact_Reader_whole.s0]
      rw [if_neg (by omega), List.take_length]
  rw [hl, Option.bind_some]
def ln (n : Nat) : Nat := if n < 253 then 1 else if n < 65536 then 3 else if n < 4294967296 then 5 else 9
theorem len_eq (n : Nat) : compact_Len.f (n : Int) = some (ln n : Int) := by
  simp only [compact_Len.f, ln]
  by_cases h1 : n < 253
  · rw [if_pos (by omega), if_pos h1]; rfl
  · rw [if_neg (by omega), if_neg h1]
    by_cases h2 : n < 65536
    · rw [if_pos (by omega), if_pos h2]; rfl
    · rw [if_neg (by omega), if_neg h2]
      by_cases h3 : n < 4294967296
      · rw [if_pos (by omega), if_pos h3]; rfl
      · rw [if_neg (by omega), if_neg h3]; rfl
def my (n : Nat) : Nat := if n = 253 then 2 else if n = 254 then 4 else if n = 255 then 8 else 0
def nm (most : Int) (s : List Int × Er) : Nat × (List Int × Er) :=
  let a := wh 1 s
  let b := if 0 < my a.1 then wh (my a.1) a.2 else a
  if b.2.2 ≠ .b 0 then (0, b.2) else if ln b.1 ≠ 1 + my a.1 then (0, (b.2.1, xErrShape)) else if most < (b.1 : Int) then (0, (b.2.1, xErrMany)) else b
theorem my_le (n : Nat) : my n ≤ 8 := by unfold my; split <;> (try split) <;> (try split) <;> omega
theorem num_eq {r : compactReader} {s : List Int × Er} (h : Rep r s) (most : Int) : ∃ r', compact_Reader_Num.f r most = some (((nm most s).1 : Int), r') ∧ Rep r' (nm most s).2 := by
  obtain ⟨r1, h1, h2⟩ := whole_eq h 1 (by omega)
  simp only [compact_Reader_Num.f, nm]
  rw [show ((1 : Nat) : Int) = 1 from rfl] at h1
  rw [h1, Option.bind_some]
  generalize wh 1 s = a at *
  obtain ⟨a1, a2⟩ := a
  simp only at h1 h2 ⊢
  have hmy : (if (a1 : Int) = 253 then some (2 : Int) else if (a1 : Int) = 254 then some 4 else if (a1 : Int) = 255 then some 8 else some 0) = some ((my a1 : Nat) : Int) := by
    unfold my
    by_cases c1 : a1 = 253
    · rw [if_pos (by omega), if_pos c1]; rfl
    · rw [if_neg (by omega), if_neg c1]
      by_cases c2 : a1 = 254
      · rw [if_pos (by omega), if_pos c2]; rfl
      · rw [if_neg (by omega), if_neg c2]
        by_cases c3 : a1 = 255
        · rw [if_pos (by omega), if_pos c3]; rfl
        · rw [if_neg (by omega), if_neg c3]; rfl
  rw [hmy, Option.bind_some]
  have hmid : ∃ r2, (if 0 < ((my a1 : Nat) : Int) then (compact_Reader_whole.f r1 ((my a1 : Nat) : Int)).bind fun r2 => some (r2.1, r2.2.b, r2.2.at_, r2.2.err) else some ((a1 : Int), r1.b, r1.at_, r1.err)) = some ((((if 0 < my a1 then wh (my a1) a2 else (a1, a2)).1 : Nat) : Int), r2.b, r2.at_, r2.err) ∧ Rep r2 (if 0 < my a1 then wh (my a1) a2 else (a1, a2)).2 := by
    by_cases hp : 0 < my a1
    · obtain ⟨r2, h3, h4⟩ := whole_eq h2 (my a1) (my_le a1)
      rw [if_pos (by omega), if_pos hp, h3, Option.bind_some]
      exact ⟨r2, rfl, h4⟩
    · rw [if_neg (by omega), if_neg hp]
      exact ⟨r1, rfl, h2⟩
  obtain ⟨r2, h3, h4⟩ := hmid
  rw [h3, Option.bind_some]
  generalize (if 0 < my a1 then wh (my a1) a2 else (a1, a2)) = b at *
  obtain ⟨b1, b2⟩ := b
  simp only at h4 ⊢
  have he := rep_err h4
  have hw : IntKind.i64.wrap (1 + ((my a1 : Nat) : Int)) = ((1 + my a1 : Nat) : Int) := by have := my_le a1; rw [w64 (by omega) (by omega)]; omega
  rw [he, len_eq, Option.bind_some, hw]
  obtain ⟨pre, e1, hl, hbs⟩ := h4
  by_cases c1 : b2.2 = .b 0
  · rw [if_neg (show ¬ (b2.2 ≠ .b 0) from fun h => h c1), if_neg (show ¬ (b2.2 ≠ .b 0) from fun h => h c1)]
    by_cases c2 : ln b1 = 1 + my a1
    · rw [if_neg (show ¬ (((ln b1 : Nat) : Int) ≠ ((1 + my a1 : Nat) : Int)) from fun h => h (by rw [c2])), if_neg (show ¬ (ln b1 ≠ 1 + my a1) from fun h => h c2)]
      by_cases c3 : most < (b1 : Int)
      · rw [if_pos c3, if_pos c3]
        exact ⟨_, rfl, pre, by rw [e1], hl, hbs⟩
      · rw [if_neg c3, if_neg c3]
        exact ⟨_, rfl, pre, by rw [e1], hl, hbs⟩
    · rw [if_pos (by omega), if_pos c2]
      exact ⟨_, rfl, pre, by rw [e1], hl, hbs⟩
  · rw [if_pos c1, if_pos c1]
    exact ⟨_, rfl, pre, by rw [e1], hl, hbs⟩
theorem rfour_eq {r : compactReader} {s : List Int × Er} (h : Rep r s) : ∃ r', compact_Reader_Four.f r = some (((wh 4 s).1 : Int), r') ∧ Rep r' (wh 4 s).2 := by
  obtain ⟨r1, h1, h2⟩ := whole_eq h 4 (by omega)
  refine ⟨r1, ?_, h2⟩
  simp only [compact_Reader_Four.f]
  rw [show ((4 : Nat) : Int) = 4 from rfl] at h1
  have hlt : (wh 4 s).1 < 4294967296 := by
    have h3 := vl_lt (nx_bs (n := 4) (show Bs s.1 from h.elim fun _ h => h.2.2)).1
    have h4 := nx_len 4 s
    have : 256 ^ (nx 4 s).1.length ≤ 256 ^ 4 := Nat.pow_le_pow_right (by decide) h4
    simp only [wh]
    omega
  rw [h1, Option.bind_some, wu32 (by omega) (by omega)]
theorem reight_eq {r : compactReader} {s : List Int × Er} (h : Rep r s) : ∃ r', compact_Reader_Eight.f r = some (((wh 8 s).1 : Int), r') ∧ Rep r' (wh 8 s).2 := by
  obtain ⟨r1, h1, h2⟩ := whole_eq h 8 (by omega)
  refine ⟨r1, ?_, h2⟩
  simp only [compact_Reader_Eight.f]
  rw [show ((8 : Nat) : Int) = 8 from rfl] at h1
  rw [h1, Option.bind_some]
def h32 (s : List Int × Er) : List Int × (List Int × Er) := (if (nx 32 s).1 = [] then List.replicate 32 0 else (nx 32 s).1, (nx 32 s).2)
theorem nx_full (n : Nat) (s : List Int × Er) : (nx n s).1 = [] ∨ (nx n s).1.length = n := by
  unfold nx
  split
  · exact .inl rfl
  · split
    · exact .inl rfl
    · rename_i h; exact .inr (by simp; omega)
theorem rhash_eq {r : compactReader} {s : List Int × Er} (h : Rep r s) : ∃ r', compact_Reader_Hash.f r = some ((h32 s).1, r') ∧ Rep r' (h32 s).2 := by
  obtain ⟨r1, h1, h2⟩ := next_eq h 32
  refine ⟨r1, ?_, h2⟩
  simp only [compact_Reader_Hash.f, h32]
  rw [show ((32 : Nat) : Int) = 32 from rfl] at h1
  rw [h1, Option.bind_some]
  rcases nx_full 32 s with e | e
  · rw [e, if_pos rfl]; simp [cpy]
  · rw [if_neg (fun h => by rw [h] at e; cases e)]
    simp only [cpy, List.length_replicate]
    rw [List.take_of_length_le (by omega), List.drop_of_length_le (by simp; omega), List.append_nil]
def by_ (n : Int) (s : List Int × Er) : List Int × (List Int × Er) := if n ≤ 0 then ([], s) else nx n.toNat s
theorem rbytes_eq {r : compactReader} {s : List Int × Er} (h : Rep r s) (n : Int) : ∃ r', compact_Reader_Bytes.f r n = some ((by_ n s).1, r') ∧ Rep r' (by_ n s).2 := by
  simp only [compact_Reader_Bytes.f, by_]
  by_cases h0 : n ≤ 0
  · rw [if_pos h0, if_pos h0]
    exact ⟨r, rfl, h⟩
  · rw [if_neg h0, if_neg h0]
    obtain ⟨r1, h1, h2⟩ := next_eq h n.toNat
    rw [Int.toNat_of_nonneg (by omega)] at h1
    have h3 : (nx n.toNat s).1.length ≤ 1000000 := by
      obtain ⟨pre, _, h4, _⟩ := h
      rw [List.length_append] at h4
      unfold nx
      split
      · simp
      · split
        · simp
        · simp; omega
    refine ⟨r1, ?_, h2⟩
    rw [h1, Option.bind_some]
    simp only [bytes_Clone.f]
    rw [if_pos (by omega), Option.bind_some]
end Go.Proofs.YtlpggofilkfbnaaDoor.T
namespace Go.Proofs.YtlpggofilkfbnaaDoor.T
open Go Go.Proofs Go.Proofs.YtlpggofilkfbnaaDoor.K
set_option linter.unusedVariables false
set_option linter.unusedSimpArgs false
def pt (n : Nat) : List Int := if n < 253 then lb n 1 else if n < 65536 then 253 :: lb n 2 else if n < 4294967296 then 254 :: lb n 4 else 255 :: lb n 8
theorem pt_len (n : Nat) : (pt n).length = ln n := by
  unfold pt ln
  split
  · simp [lb_len]
  · split
    · simp [lb_len]
    · split <;> simp [lb_len]
theorem ln_le (n : Nat) : 1 ≤ ln n ∧ ln n ≤ 9 := by unfold ln; split <;> (try split) <;> (try split) <;> omega
theorem bs_pt (n : Nat) : Bs (pt n) := by
  have hc : ∀ (x : Int) (l : List Int), InR .u8 x → Bs l → Bs (x :: l) := fun x l hx hl y hy => by
    rcases List.mem_cons.1 hy with rfl | hy
    · exact hx
    · exact hl y hy
  unfold pt
  split
  · exact bs_lb _ _
  · split
    · exact hc _ _ (by simp [InR]) (bs_lb _ _)
    · split
      · exact hc _ _ (by simp [InR]) (bs_lb _ _)
      · exact hc _ _ (by simp [InR]) (bs_lb _ _)
theorem lb_one (n : Nat) : lb n 1 = [((n % 256 : Nat) : Int)] := by simp [lb, List.range_succ]
theorem put_eq (b : List Int) (n : Nat) (hn : n < 18446744073709551616) (hl : b.length ≤ 1000000) : compact_Put.f b (n : Int) = some (b ++ pt n) := by
  simp only [compact_Put.f, bytes_Clone.f]
  rw [if_pos (by omega), Option.bind_some, len_eq, Option.bind_some]
  unfold ln pt
  by_cases h1 : n < 253
  · rw [if_pos h1, if_pos h1, if_pos (by rfl), if_pos (by omega), u8e, lb_one]
    congr 3
  · rw [if_neg h1, if_neg h1]
    by_cases h2 : n < 65536
    · have := number_eq' (b ++ [253]) n 2 (by omega) (by simp; omega)
      rw [show ((2 : Nat) : Int) = 2 from rfl] at this
      rw [if_pos h2, if_pos h2, if_neg (by decide), if_pos (by rfl), if_pos (by omega), this, Option.bind_some, List.append_assoc]; rfl
    · rw [if_neg h2, if_neg h2]
      by_cases h3 : n < 4294967296
      · have := number_eq' (b ++ [254]) n 4 (by omega) (by simp; omega)
        rw [show ((4 : Nat) : Int) = 4 from rfl] at this
        rw [if_pos h3, if_pos h3, if_neg (by decide), if_neg (by decide), if_pos (by rfl), if_pos (by omega), this, Option.bind_some, List.append_assoc]; rfl
      · have := number_eq' (b ++ [255]) n 8 (by omega) (by simp; omega)
        rw [show ((8 : Nat) : Int) = 8 from rfl] at this
        rw [if_neg h3, if_neg h3, if_neg (by decide), if_neg (by decide), if_neg (by decide), if_pos (by omega), this, Option.bind_some, List.append_assoc]; rfl
theorem eight_eq (b : List Int) (a : Nat) (hl : b.length ≤ 1000000) : compact_Eight.f b (a : Int) = some (b ++ lb a 8) := by
  have := number_eq' b a 8 (by omega) (by omega)
  simp only [compact_Eight.f, bytes_Clone.f]
  rw [if_pos (by omega), Option.bind_some]
  rw [show ((8 : Nat) : Int) = 8 from rfl] at this
  rw [this, Option.bind_some]
theorem nx_app {n : Nat} {l t : List Int} (h : l.length = n) : nx n (l ++ t, .b 0) = (l, (t, .b 0)) := by
  unfold nx
  rw [if_neg (fun h => h rfl), if_neg (by simp; omega)]
  simp only
  rw [List.take_left' h, List.drop_left' h]
theorem nx_end {n : Nat} {l : List Int} (h : l.length < n) : nx n (l, .b 0) = ([], (l, xErrEnd)) := by
  unfold nx
  rw [if_neg (fun h => h rfl), if_pos h]
theorem nx_err {n : Nat} {l : List Int} {e : Er} (h : e ≠ .b 0) : nx n (l, e) = ([], (l, e)) := by
  unfold nx
  rw [if_pos h]
theorem wh_app {n : Nat} {l t : List Int} (h : l.length = n) : wh n (l ++ t, .b 0) = (vl l, (t, .b 0)) := by rw [wh, nx_app h]
theorem wh_end {n : Nat} {l : List Int} (h : l.length < n) : wh n (l, .b 0) = (0, (l, xErrEnd)) := by rw [wh, nx_end h]; rfl
theorem wh_lb {n a : Nat} {t : List Int} (h : a < 256 ^ n) : wh n (lb a n ++ t, .b 0) = (a, (t, .b 0)) := by rw [wh_app (lb_len a n), vl_lb, Nat.mod_eq_of_lt h]
theorem wh_cons {b : Int} {t : List Int} : wh 1 (b :: t, .b 0) = (b.toNat, (t, .b 0)) := by
  have := wh_app (n := 1) (l := [b]) (t := t) rfl
  simpa [vl] using this
theorem nm_big (most : Int) (f : Int) (k : Nat) (t : List Int) (hk : my f.toNat = k) (h0 : 0 < k) : nm most (f :: t, .b 0) = (let b := wh k (t, .b 0); if b.2.2 ≠ .b 0 then (0, b.2) else if ln b.1 ≠ 1 + k then (0, (b.2.1, xErrShape)) else if most < (b.1 : Int) then (0, (b.2.1, xErrMany)) else b) := by
  unfold nm
  rw [wh_cons]
  simp only
  rw [hk, if_pos h0]
theorem nm_pt (most : Int) (n : Nat) (hn : n < 18446744073709551616) (t : List Int) : nm most (pt n ++ t, .b 0) = if most < (n : Int) then (0, (t, xErrMany)) else (n, (t, .b 0)) := by
  have big : ∀ (f : Int) (k : Nat), my f.toNat = k → 0 < k → ln n = 1 + k → n < 256 ^ k → nm most ((f :: lb n k) ++ t, .b 0) = if most < (n : Int) then (0, (t, xErrMany)) else (n, (t, .b 0)) := fun f k h1 h2 h3 h4 => by
    rw [List.cons_append, nm_big most f k _ h1 h2]
    simp only
    rw [wh_lb h4]
    simp only
    rw [if_neg (fun h => h rfl), if_neg (fun h => h h3)]
  unfold pt
  by_cases h1 : n < 253
  · rw [if_pos h1, lb_one]
    unfold nm
    rw [List.singleton_append, wh_cons, Int.toNat_natCast, Nat.mod_eq_of_lt (by omega)]
    have e : my n = 0 := by unfold my; rw [if_neg (by omega), if_neg (by omega), if_neg (by omega)]
    simp only
    rw [e, if_neg (Nat.lt_irrefl 0)]
    simp only
    rw [if_neg (fun h => h rfl), if_neg (fun h => h (by unfold ln; rw [if_pos h1]))]
  · rw [if_neg h1]
    by_cases h2 : n < 65536
    · rw [if_pos h2]; exact big 253 2 rfl (by omega) (by unfold ln; rw [if_neg h1, if_pos h2]) (by omega)
    · rw [if_neg h2]
      by_cases h3 : n < 4294967296
      · rw [if_pos h3]; exact big 254 4 rfl (by omega) (by unfold ln; rw [if_neg h1, if_neg h2, if_pos h3]) (by omega)
      · rw [if_neg h3]; exact big 255 8 rfl (by omega) (by unfold ln; rw [if_neg h1, if_neg h2, if_neg h3]) (by omega)
end Go.Proofs.YtlpggofilkfbnaaDoor.T
namespace Go.Proofs.YtlpggofilkfbnaaDoor.T
open Go Go.Proofs Go.Proofs.YtlpggofilkfbnaaDoor.K
set_option linter.unusedVariables false
set_option linter.unusedSimpArgs false
abbrev Stp (α : Type) := List Int × Er → α × (List Int × Er)
section
variable {α β : Type}
def ret (x : α) : Stp α := fun s => (x, s)
def bnd (f : Stp α) (g : α → Stp β) : Stp β := fun s => g (f s).1 (f s).2
def rpt : Nat → Stp α → Stp (List α)
  | 0, _ => ret []
  | n + 1, f => bnd f fun x => bnd (rpt n f) fun xs => ret (x :: xs)
structure Ext (f : Stp α) : Prop where
  err : ∀ l e, e ≠ .b 0 → (f (l, e)).2 = (l, e)
  val : ∀ l l' e, e ≠ .b 0 → (f (l, e)).1 = (f (l', e)).1
  ext : ∀ l m, (f (l, .b 0)).2.2 = xErrEnd ∨ f (l ++ m, .b 0) = ((f (l, .b 0)).1, ((f (l, .b 0)).2.1 ++ m, (f (l, .b 0)).2.2))
theorem ext_ret (x : α) : Ext (ret x) := ⟨fun _ _ _ => rfl, fun _ _ _ _ => rfl, fun _ _ => .inr rfl⟩
theorem ext_bnd {f : Stp α} {g : α → Stp β} (hf : Ext f) (hg : ∀ x, Ext (g x)) : Ext (bnd f g) := by
  refine ⟨fun l e he => ?_, fun l l' e he => ?_, fun l m => ?_⟩
  · simp only [bnd]
    rw [hf.err l e he]
    exact (hg _).err l e he
  · simp only [bnd]
    rw [hf.err l e he, hf.err l' e he, hf.val l l' e he]
    exact (hg _).val l l' e he
  · simp only [bnd]
    rcases hf.ext l m with h | h
    · left
      have e2 : (f (l, .b 0)).2 = ((f (l, .b 0)).2.1, xErrEnd) := Prod.ext rfl h
      rw [e2, (hg _).err _ _ (by decide)]
    · rw [h]
      simp only
      by_cases he : (f (l, .b 0)).2.2 = .b 0
      · have e2 : (f (l, .b 0)).2 = ((f (l, .b 0)).2.1, .b 0) := Prod.ext rfl he
        rw [he, e2]
        exact (hg _).ext _ m
      · right
        have e2 : (f (l, .b 0)).2 = ((f (l, .b 0)).2.1, (f (l, .b 0)).2.2) := rfl
        have h1 := (hg (f (l, .b 0)).1).err ((f (l, .b 0)).2.1 ++ m) _ he
        have h2 := (hg (f (l, .b 0)).1).err ((f (l, .b 0)).2.1) _ he
        have h3 := (hg (f (l, .b 0)).1).val ((f (l, .b 0)).2.1 ++ m) (f (l, .b 0)).2.1 _ he
        rw [e2, h2]
        exact Prod.ext h3 h1
theorem ext_rpt {f : Stp α} (hf : Ext f) : ∀ n, Ext (rpt n f)
  | 0 => ext_ret []
  | n + 1 => ext_bnd hf fun x => ext_bnd (ext_rpt hf n) fun xs => ext_ret _
theorem ext_nx (n : Nat) : Ext (nx n) := by
  refine ⟨fun l e he => by rw [nx_err he], fun l l' e he => by rw [nx_err he, nx_err he], fun l m => ?_⟩
  by_cases h : l.length < n
  · left; rw [nx_end h]
  · right
    have h1 : nx n (l, .b 0) = (l.take n, (l.drop n, .b 0)) := by unfold nx; rw [if_neg (fun h => h rfl), if_neg h]
    have h2 : nx n (l ++ m, .b 0) = ((l ++ m).take n, ((l ++ m).drop n, .b 0)) := by unfold nx; rw [if_neg (fun h => h rfl), if_neg (by simp; omega)]
    rw [h1, h2, List.take_append_of_le_length (by omega), List.drop_append_of_le_length (by omega)]
theorem ext_wh (n : Nat) : Ext (wh n) := ext_bnd (g := fun l => ret (vl l)) (ext_nx n) fun _ => ext_ret _
theorem ext_h32 : Ext h32 := ext_bnd (g := fun l => ret (if l = [] then List.replicate 32 0 else l)) (ext_nx 32) fun _ => ext_ret _
theorem ext_by (n : Int) : Ext (by_ n) := by
  have : by_ n = if n ≤ 0 then ret [] else nx n.toNat := by
    funext s
    unfold by_
    split <;> rfl
  rw [this]
  split
  · exact ext_ret _
  · exact ext_nx _
def shp (most : Int) (a b : Nat) : Stp Nat := fun s => if s.2 ≠ .b 0 then (0, s) else if ln b ≠ 1 + my a then (0, (s.1, xErrShape)) else if most < (b : Int) then (0, (s.1, xErrMany)) else (b, s)
theorem ext_shp (most : Int) (a b : Nat) : Ext (shp most a b) := by
  refine ⟨fun l e he => by simp [shp, he], fun l l' e he => by simp [shp, he], fun l m => .inr ?_⟩
  simp only [shp, ne_eq, not_true_eq_false, if_false]
  split
  · rfl
  · split <;> rfl
theorem nm_bnd (most : Int) : nm most = bnd (wh 1) fun a => bnd (if 0 < my a then wh (my a) else ret a) fun b => shp most a b := by
  funext s
  unfold nm bnd shp
  by_cases h : 0 < my (wh 1 s).1
  · simp only [if_pos h]
  · simp only [if_neg h]; rfl
theorem ext_nm (most : Int) : Ext (nm most) := by
  rw [nm_bnd]
  refine ext_bnd (ext_wh 1) fun a => ext_bnd ?_ fun b => ext_shp most a b
  split
  · exact ext_wh _
  · exact ext_ret _
def Can (f : Stp α) (en : α → List Int) (p : α → Prop) : Prop := ∀ l, Bs l → (f (l, .b 0)).2.2 = .b 0 → l = en (f (l, .b 0)).1 ++ (f (l, .b 0)).2.1 ∧ p (f (l, .b 0)).1
theorem can_step {f : Stp α} {g : α → Stp β} {en : α → List Int} {p : α → Prop} (hf : Can f en p) (hg : ∀ x, Ext (g x)) {l : List Int} (hl : Bs l) (h : (bnd f g (l, .b 0)).2.2 = .b 0) :
    ∃ x l1, p x ∧ l = en x ++ l1 ∧ Bs l1 ∧ bnd f g (l, .b 0) = g x (l1, .b 0) := by
  simp only [bnd] at h ⊢
  have h0 : (f (l, .b 0)).2.2 = .b 0 := by
    rcases Classical.em ((f (l, .b 0)).2.2 = .b 0) with h1 | h1
    · exact h1
    · have := (hg (f (l, .b 0)).1).err (f (l, .b 0)).2.1 (f (l, .b 0)).2.2 h1
      rw [show (f (l, .b 0)).2 = ((f (l, .b 0)).2.1, (f (l, .b 0)).2.2) from rfl, this] at h
      exact absurd h h1
  obtain ⟨h1, h2⟩ := hf l hl h0
  have e2 : (f (l, .b 0)).2 = ((f (l, .b 0)).2.1, .b 0) := Prod.ext rfl h0
  exact ⟨(f (l, .b 0)).1, (f (l, .b 0)).2.1, h2, h1, fun x hx => hl x (by rw [h1]; exact List.mem_append_right _ hx), by rw [← e2]⟩
end
theorem can_nx (n : Nat) : Can (nx n) (fun x => x) (fun x => x.length = n ∧ Bs x) := by
  intro l hl h
  by_cases hn : l.length < n
  · rw [nx_end hn] at h; cases h
  · have h1 : nx n (l, .b 0) = (l.take n, (l.drop n, .b 0)) := by unfold nx; rw [if_neg (fun h => h rfl), if_neg hn]
    rw [h1]
    exact ⟨(List.take_append_drop n l).symm, by simp; omega, hl.take n⟩
theorem can_wh (n : Nat) : Can (wh n) (fun v => lb v n) (fun v => v < 256 ^ n) := by
  intro l hl h
  obtain ⟨h1, h2, h3⟩ := can_nx n l hl h
  refine ⟨?_, ?_⟩
  · simp only [wh]
    have := lb_vl h3
    rw [h2] at this
    rw [this]
    exact h1
  · have := vl_lt h3
    rw [h2] at this
    exact this
theorem can_h32 : Can h32 (fun x => x) (fun x => x.length = 32 ∧ Bs x) := by
  intro l hl h
  obtain ⟨h1, h2, h3⟩ := can_nx 32 l hl h
  have e : (h32 (l, .b 0)).1 = (nx 32 (l, .b 0)).1 := by
    unfold h32
    rw [if_neg (fun h => by rw [h] at h2; cases h2)]
  rw [e]
  exact ⟨h1, h2, h3⟩
theorem can_by (n : Nat) : Can (by_ (n : Int)) (fun x => x) (fun x => x.length = n ∧ Bs x) := by
  intro l hl h
  unfold by_ at h ⊢
  by_cases h0 : (n : Int) ≤ 0
  · rw [if_pos h0]
    exact ⟨rfl, by simp; omega, bs_nil⟩
  · rw [if_neg h0] at h ⊢
    rw [Int.toNat_natCast] at h ⊢
    exact can_nx n l hl h
theorem can_nm (most : Nat) : Can (nm (most : Int)) (fun v => pt v) (fun v => v ≤ most ∧ v < 18446744073709551616) := by
  intro l hl h
  cases l with
  | nil =>
    unfold nm at h
    rw [wh_end (by simp)] at h
    simp only at h
    rw [if_neg (show ¬ 0 < my 0 by decide)] at h
    simp only at h
    rw [if_pos (show xErrEnd ≠ .b 0 by decide)] at h
    cases h
  | cons f t =>
    obtain ⟨f0, f1⟩ := hl f (by simp)
    have ht : Bs t := fun x hx => hl x (by simp [hx])
    unfold nm at h ⊢
    rw [wh_cons] at h ⊢
    simp only at h ⊢
    by_cases hm : 0 < my f.toNat
    · simp only [if_pos hm] at h ⊢
      have hb : (wh (my f.toNat) (t, .b 0)).2.2 = .b 0 := by
        by_cases hb : (wh (my f.toNat) (t, .b 0)).2.2 = .b 0
        · exact hb
        · rw [if_pos hb] at h; exact absurd h hb
      rw [if_neg (fun h => h hb)] at h ⊢
      obtain ⟨h1, h2⟩ := can_wh (my f.toNat) t ht hb
      generalize wh (my f.toNat) (t, .b 0) = b at *
      by_cases hln : ln b.1 = 1 + my f.toNat
      · rw [if_neg (fun h => h hln)] at h ⊢
        by_cases hmo : (most : Int) < (b.1 : Int)
        · rw [if_pos hmo] at h; cases h
        · rw [if_neg hmo]
          have h64 : b.1 < 18446744073709551616 := by
            have : (256 : Nat) ^ my f.toNat ≤ 256 ^ 8 := Nat.pow_le_pow_right (by decide) (my_le _)
            omega
          refine ⟨?_, by omega, h64⟩
          have hf : (f.toNat = 253 ∧ my f.toNat = 2) ∨ (f.toNat = 254 ∧ my f.toNat = 4) ∨ (f.toNat = 255 ∧ my f.toNat = 8) := by
            unfold my at hm ⊢
            by_cases c1 : f.toNat = 253
            · left; exact ⟨c1, by rw [if_pos c1]⟩
            · by_cases c2 : f.toNat = 254
              · right; left; exact ⟨c2, by rw [if_neg c1, if_pos c2]⟩
              · by_cases c3 : f.toNat = 255
                · right; right; exact ⟨c3, by rw [if_neg c1, if_neg c2, if_pos c3]⟩
                · rw [if_neg c1, if_neg c2, if_neg c3] at hm; omega
          have lnv : ∀ v, (ln v = 3 → pt v = 253 :: lb v 2) ∧ (ln v = 5 → pt v = 254 :: lb v 4) ∧ (ln v = 9 → pt v = 255 :: lb v 8) := fun v => by
            unfold ln pt
            by_cases c1 : v < 253
            · simp [c1]
            · by_cases c2 : v < 65536
              · simp [c1, c2]
              · by_cases c3 : v < 4294967296
                · simp [c1, c2, c3]
                · simp [c1, c2, c3]
          rcases hf with ⟨e1, e2⟩ | ⟨e1, e2⟩ | ⟨e1, e2⟩
          · rw [e2] at hln h1
            rw [(lnv b.1).1 hln, List.cons_append, ← h1]
            congr 1; omega
          · rw [e2] at hln h1
            rw [(lnv b.1).2.1 hln, List.cons_append, ← h1]
            congr 1; omega
          · rw [e2] at hln h1
            rw [(lnv b.1).2.2 hln, List.cons_append, ← h1]
            congr 1; omega
      · rw [if_pos hln] at h; cases h
    · simp only [if_neg hm] at h ⊢
      rw [if_neg (fun h => h rfl)] at h ⊢
      have e0 : my f.toNat = 0 := by omega
      rw [e0] at h ⊢
      by_cases hln : ln f.toNat = 1 + 0
      · rw [if_neg (fun h => h hln)] at h ⊢
        by_cases hmo : (most : Int) < (f.toNat : Int)
        · rw [if_pos hmo] at h; cases h
        · rw [if_neg hmo]
          have hlt : f.toNat < 253 := by
            unfold ln at hln
            by_cases c : f.toNat < 253
            · exact c
            · rw [if_neg c] at hln
              split at hln <;> (try split at hln) <;> omega
          refine ⟨?_, by simp only; omega, by simp only; omega⟩
          simp only
          unfold pt
          rw [if_pos hlt, lb_one, List.singleton_append]
          congr 1; omega
      · rw [if_pos hln] at h; cases h
theorem nm_le (most : Nat) (s : List Int × Er) : (nm (most : Int) s).1 ≤ most := by
  unfold nm
  simp only
  generalize (if 0 < my (wh 1 s).1 then wh (my (wh 1 s).1) (wh 1 s).2 else wh 1 s) = b
  split
  · simp
  · split
    · simp
    · split
      · simp
      · omega
end Go.Proofs.YtlpggofilkfbnaaDoor.T
namespace Go.Proofs.YtlpggofilkfbnaaDoor.T
open Go Go.Proofs Go.Proofs.YtlpggofilkfbnaaDoor.K
set_option linter.unusedVariables false
set_option linter.unusedSimpArgs false
structure InOk (i : In) : Prop where
  tx : i.From.Tx.length = 32
  txb : Bs i.From.Tx
  n : InR .u32 i.From.N
  key : Bs i.Key
  seq : InR .u32 i.Seq
structure OutOk (o : Out) : Prop where
  val : InR .u64 o.Value
  lock : o.Lock.length = 32
  lockb : Bs o.Lock
structure TxOk (t : Tx) : Prop where
  v : InR .u32 t.Version
  ins : ∀ i ∈ t.Ins, InOk i
  outs : ∀ o ∈ t.Outs, OutOk o
  t : InR .u32 t.Time
structure Few (a b : Nat) (t : Tx) : Prop where
  ins : t.Ins.length ≤ a
  outs : t.Outs.length ≤ a
  key : ∀ i ∈ t.Ins, i.Key.length ≤ b
theorem Few.mono {a b c d : Nat} {t : Tx} (h : Few a b t) (h1 : a ≤ c) (h2 : b ≤ d) : Few c d t := ⟨Nat.le_trans h.ins h1, Nat.le_trans h.outs h1, fun i hi => Nat.le_trans (h.key i hi) h2⟩
def ib (i : In) : List Int := i.From.Tx ++ (lb i.From.N.toNat 4 ++ (pt i.Key.length ++ (i.Key ++ lb i.Seq.toNat 4)))
def ob (o : Out) : List Int := lb o.Value.toNat 8 ++ o.Lock
def tb (t : Tx) : List Int := lb t.Version.toNat 4 ++ (pt t.Ins.length ++ ((t.Ins.map ib).flatten ++ (pt t.Outs.length ++ ((t.Outs.map ob).flatten ++ lb t.Time.toNat 4))))
theorem bs_ib {i : In} (h : InOk i) : Bs (ib i) := h.txb.app ((bs_lb _ _).app ((bs_pt _).app (h.key.app (bs_lb _ _))))
theorem bs_ob {o : Out} (h : OutOk o) : Bs (ob o) := (bs_lb _ _).app h.lockb
theorem bs_flat {l : List (List Int)} (h : ∀ x ∈ l, Bs x) : Bs l.flatten := fun x hx => by
  obtain ⟨y, hy, hxy⟩ := List.mem_flatten.1 hx
  exact h y hy x hxy
theorem bs_tb {t : Tx} (h : TxOk t) : Bs (tb t) := by
  refine (bs_lb _ _).app ((bs_pt _).app ((bs_flat fun x hx => ?_).app ((bs_pt _).app ((bs_flat fun x hx => ?_).app (bs_lb _ _)))))
  · obtain ⟨i, hi, rfl⟩ := List.mem_map.1 hx
    exact bs_ib (h.ins i hi)
  · obtain ⟨o, ho, rfl⟩ := List.mem_map.1 hx
    exact bs_ob (h.outs o ho)
theorem ib_len {i : In} (h : InOk i) : (ib i).length = 40 + ln i.Key.length + i.Key.length := by
  simp only [ib, List.length_append, h.tx, lb_len, pt_len]; omega
theorem ob_len {o : Out} (h : OutOk o) : (ob o).length = 40 := by simp only [ob, List.length_append, h.lock, lb_len]
theorem flat_le {α : Type} (f : α → List Int) (b : Nat) : ∀ (l : List α), (∀ x ∈ l, (f x).length ≤ b) → (l.map f).flatten.length ≤ b * l.length
  | [], _ => by simp
  | x :: l, h => by
    have h1 := flat_le f b l fun y hy => h y (by simp [hy])
    have h2 := h x (by simp)
    simp only [List.map_cons, List.flatten_cons, List.length_append, List.length_cons]
    rw [Nat.mul_add, Nat.mul_one]; omega
theorem ins_le {t : Tx} (h : TxOk t) {a : Nat} (hf : Few a 1000 t) : (t.Ins.map ib).flatten.length ≤ 2000 * t.Ins.length := flat_le ib 2000 t.Ins fun i hi => by
  rw [ib_len (h.ins i hi)]
  have := (ln_le i.Key.length).2
  have := hf.key i hi
  omega
theorem outs_le {t : Tx} (h : TxOk t) : (t.Outs.map ob).flatten.length ≤ 40 * t.Outs.length := flat_le ob 40 t.Outs fun o ho => by rw [ob_len (h.outs o ho)]; omega
theorem tb_le {t : Tx} (h : TxOk t) (hf : Few 100 1000 t) : (tb t).length ≤ 210000 := by
  have h1 := ins_le h hf
  have h2 := outs_le h
  have h3 := (ln_le t.Ins.length).2
  have h4 := (ln_le t.Outs.length).2
  have h5 := hf.ins
  have h6 := hf.outs
  simp only [tb, List.length_append, lb_len, pt_len]
  omega
theorem nat4 {x : Int} (h : InR .u32 x) : x = ((x.toNat : Nat) : Int) ∧ x.toNat < 4294967296 := by obtain ⟨a, b⟩ := h; omega
theorem nat8 {x : Int} (h : InR .u64 x) : x = ((x.toNat : Nat) : Int) ∧ x.toNat < 18446744073709551616 := by obtain ⟨a, b⟩ := h; omega
theorem getD_mem {α : Type} {l : List α} {d : α} {i : Nat} (h : i < l.length) : l.getD i d ∈ l := by rw [gd l d h]; exact List.getElem_mem h
theorem flat_next {α : Type} (f : α → List Int) (l : List α) (d : α) (i : Nat) (h : i < l.length) : ((l.take (i + 1)).map f).flatten = ((l.take i).map f).flatten ++ f (l.getD i d) := by
  rw [← take_next l i d h]; simp
theorem take_few {α : Type} (f : α → List Int) (b : Nat) (l : List α) (h : ∀ x ∈ l, (f x).length ≤ b) (i : Nat) (hi : i ≤ l.length) : ((l.take i).map f).flatten.length ≤ b * l.length := by
  have := flat_le f b (l.take i) fun x hx => h x (List.mem_of_mem_take hx)
  rw [List.length_take, Nat.min_eq_left hi] at this
  exact Nat.le_trans this (Nat.mul_le_mul_left b hi)
theorem tbytes_eq {t : Tx} (h : TxOk t) (hf : Few 100 1000 t) : tx_Bytes.f t = some (tb t) := by
  obtain ⟨v1, v2⟩ := nat4 h.v
  obtain ⟨t1, t2⟩ := nat4 h.t
  have hi := hf.ins
  have ho := hf.outs
  have hil : ∀ i ∈ t.Ins, (ib i).length ≤ 2000 := fun i hi => by
    rw [ib_len (h.ins i hi)]
    have := (ln_le i.Key.length).2
    have := hf.key i hi
    omega
  have hol : ∀ o ∈ t.Outs, (ob o).length ≤ 40 := fun o ho => by rw [ob_len (h.outs o ho)]; omega
  have lp := (ln_le t.Ins.length).2
  have lq := (ln_le t.Outs.length).2
  have L1 : ∀ P : List Int, P.length ≤ 100 → loopO (tx_Bytes.s0 t) (P, 0) = some (P ++ (t.Ins.map ib).flatten) := fun P hP => by
    refine loop_run (fun i => (P ++ ((t.Ins.take i).map ib).flatten, (i : Int))) t.Ins.length (by simp) (fun i hi => ?_) ?_
    · have hm := getD_mem (l := t.Ins) (d := default) hi
      have ok := h.ins _ hm
      have hk := hf.key _ hm
      have hb := take_few ib 2000 t.Ins hil i (by omega)
      rw [flat_next ib t.Ins default i hi]
      simp only [tx_Bytes.s0, Int.toNat_natCast]
      generalize t.Ins.getD i default = x at *
      obtain ⟨n1, n2⟩ := nat4 ok.n
      obtain ⟨s1, s2⟩ := nat4 ok.seq
      have ltx := ok.tx
      have lk := (ln_le x.Key.length).2
      have hf4 := four_eq (P ++ ((t.Ins.take i).map ib).flatten ++ x.From.Tx) x.From.N.toNat n2 (by simp only [List.length_append]; omega)
      have hp := put_eq (P ++ ((t.Ins.take i).map ib).flatten ++ x.From.Tx ++ lb x.From.N.toNat 4) x.Key.length (by omega) (by simp only [List.length_append, lb_len]; omega)
      have hf5 := four_eq (P ++ ((t.Ins.take i).map ib).flatten ++ x.From.Tx ++ lb x.From.N.toNat 4 ++ pt x.Key.length ++ x.Key) x.Seq.toNat s2 (by simp only [List.length_append, lb_len, pt_len]; omega)
      rw [← n1] at hf4
      rw [← s1] at hf5
      rw [if_pos (by omega), if_pos (by omega), if_pos (by simp only [List.length_append]; omega), hf4, Option.bind_some, wu64 (by omega) (by omega), hp, Option.bind_some, if_pos (by simp only [List.length_append, lb_len, pt_len]; omega), hf5, Option.bind_some, winc i (by omega)]
      simp only [ib, List.append_assoc]
    · simp only [tx_Bytes.s0]
      rw [if_neg (by omega), List.take_length]
  have L2 : ∀ P : List Int, P.length ≤ 300000 → loopO (tx_Bytes.s1 t) (P, 0) = some (P ++ (t.Outs.map ob).flatten) := fun P hP => by
    refine loop_run (fun i => (P ++ ((t.Outs.take i).map ob).flatten, (i : Int))) t.Outs.length (by simp) (fun i hi => ?_) ?_
    · have hm := getD_mem (l := t.Outs) (d := default) hi
      have ok := h.outs _ hm
      have hb := take_few ob 40 t.Outs hol i (by omega)
      rw [flat_next ob t.Outs default i hi]
      simp only [tx_Bytes.s1, Int.toNat_natCast]
      generalize t.Outs.getD i default = x at *
      obtain ⟨n1, n2⟩ := nat8 ok.val
      have ltx := ok.lock
      have h8 := eight_eq (P ++ ((t.Outs.take i).map ob).flatten) x.Value.toNat (by simp only [List.length_append]; omega)
      rw [← n1] at h8
      rw [if_pos (by omega), if_pos (by omega), h8, Option.bind_some, if_pos (by simp only [List.length_append, lb_len]; omega), winc i (by omega)]
      simp only [ob, List.append_assoc]
    · simp only [tx_Bytes.s1]
      rw [if_neg (by omega), List.take_length]
  have hI := flat_le ib 2000 t.Ins hil
  have hO := flat_le ob 40 t.Outs hol
  have f1 := four_eq [] t.Version.toNat v2 (by simp)
  rw [← v1] at f1
  have p1 := put_eq (lb t.Version.toNat 4) t.Ins.length (by omega) (by rw [lb_len]; omega)
  have p2 := put_eq (lb t.Version.toNat 4 ++ pt t.Ins.length ++ (t.Ins.map ib).flatten) t.Outs.length (by omega) (by simp only [List.length_append, lb_len, pt_len]; omega)
  have f2 := four_eq (lb t.Version.toNat 4 ++ pt t.Ins.length ++ (t.Ins.map ib).flatten ++ pt t.Outs.length ++ (t.Outs.map ob).flatten) t.Time.toNat t2 (by simp only [List.length_append, lb_len, pt_len]; omega)
  rw [← t1] at f2
  simp only [tx_Bytes.f]
  rw [f1, Option.bind_some, List.nil_append, wu64 (x := (t.Ins.length : Int)) (by omega) (by omega), p1, Option.bind_some, L1 _ (by simp only [List.length_append, lb_len, pt_len]; omega), Option.bind_some, wu64 (x := (t.Outs.length : Int)) (by omega) (by omega), p2, Option.bind_some, L2 _ (by simp only [List.length_append, lb_len, pt_len]; omega), Option.bind_some, f2, Option.bind_some]
  simp only [tb, List.append_assoc]
def inM : Stp In := bnd h32 fun h => bnd (wh 4) fun n => bnd (nm 80) fun k => bnd (by_ (k : Int)) fun b => bnd (wh 4) fun q => ret ⟨⟨h, (n : Int)⟩, b, (q : Int)⟩
def outM : Stp Out := bnd (wh 8) fun v => bnd h32 fun h => ret ⟨(v : Int), h⟩
def txM : Stp Tx := bnd (wh 4) fun v => bnd (nm 50) fun n => bnd (rpt n inM) fun ins => bnd (nm 50) fun m => bnd (rpt m outM) fun outs => bnd (wh 4) fun t => ret ⟨(v : Int), ins, outs, (t : Int)⟩
theorem ext_in : Ext inM := ext_bnd ext_h32 fun _ => ext_bnd (ext_wh 4) fun _ => ext_bnd (ext_nm 80) fun _ => ext_bnd (ext_by _) fun _ => ext_bnd (ext_wh 4) fun _ => ext_ret _
theorem ext_out : Ext outM := ext_bnd (ext_wh 8) fun _ => ext_bnd ext_h32 fun _ => ext_ret _
theorem ext_tx : Ext txM := ext_bnd (ext_wh 4) fun _ => ext_bnd (ext_nm 50) fun _ => ext_bnd (ext_rpt ext_in _) fun _ => ext_bnd (ext_nm 50) fun _ => ext_bnd (ext_rpt ext_out _) fun _ => ext_bnd (ext_wh 4) fun _ => ext_ret _
theorem h32_app {l t : List Int} (h : l.length = 32) : h32 (l ++ t, .b 0) = (l, (t, .b 0)) := by
  unfold h32
  rw [nx_app h, if_neg (fun z => by rw [show l = [] from z] at h; cases h)]
theorem by_app {n : Nat} {l t : List Int} (h : l.length = n) : by_ (n : Int) (l ++ t, .b 0) = (l, (t, .b 0)) := by
  unfold by_
  by_cases h0 : (n : Int) ≤ 0
  · have : l = [] := List.eq_nil_of_length_eq_zero (by omega)
    subst this
    rw [if_pos h0]; rfl
  · rw [if_neg h0, Int.toNat_natCast, nx_app h]
theorem nm_app (most n : Nat) (h : n ≤ most) (hm : most < 18446744073709551616) (t : List Int) : nm (most : Int) (pt n ++ t, .b 0) = (n, (t, .b 0)) := by
  rw [nm_pt _ n (by omega), if_neg (by omega)]
theorem in_read {i : In} (h : InOk i) (hk : i.Key.length ≤ 80) (t : List Int) : inM (ib i ++ t, .b 0) = (i, (t, .b 0)) := by
  obtain ⟨n1, n2⟩ := nat4 h.n
  obtain ⟨s1, s2⟩ := nat4 h.seq
  have nmk := nm_app 80 i.Key.length hk (by omega)
  rw [show ((80 : Nat) : Int) = 80 from rfl] at nmk
  simp only [inM, bnd, ib, List.append_assoc, h32_app h.tx, wh_lb (n := 4) n2, nmk, by_app (rfl : i.Key.length = i.Key.length), wh_lb (n := 4) s2, ret]
  rw [← n1, ← s1]
theorem out_read {o : Out} (h : OutOk o) (t : List Int) : outM (ob o ++ t, .b 0) = (o, (t, .b 0)) := by
  obtain ⟨n1, n2⟩ := nat8 h.val
  simp only [outM, bnd, ob, List.append_assoc, wh_lb (n := 8) n2, h32_app h.lock, ret]
  rw [← n1]
theorem rpt_read {α : Type} {f : Stp α} {en : α → List Int} : ∀ (l : List α) (t : List Int), (∀ x ∈ l, ∀ t, f (en x ++ t, .b 0) = (x, (t, .b 0))) → rpt l.length f ((l.map en).flatten ++ t, .b 0) = (l, (t, .b 0))
  | [], t, _ => rfl
  | x :: l, t, h => by
    have h1 := h x (by simp)
    have h2 := rpt_read l t fun y hy => h y (by simp [hy])
    simp only [List.length_cons, rpt, bnd, List.map_cons, List.flatten_cons, List.append_assoc, h1, h2, ret]
theorem tx_read {t : Tx} (h : TxOk t) (hf : Few 50 80 t) (r : List Int) : txM (tb t ++ r, .b 0) = (t, (r, .b 0)) := by
  obtain ⟨v1, v2⟩ := nat4 h.v
  obtain ⟨t1, t2⟩ := nat4 h.t
  have n1 := nm_app 50 t.Ins.length hf.ins (by omega)
  have n2 := nm_app 50 t.Outs.length hf.outs (by omega)
  rw [show ((50 : Nat) : Int) = 50 from rfl] at n1 n2
  have r1 := fun q => rpt_read (f := inM) (en := ib) t.Ins q fun x hx => in_read (h.ins x hx) (hf.key x hx)
  have r2 := fun q => rpt_read (f := outM) (en := ob) t.Outs q fun x hx => out_read (h.outs x hx)
  simp only [txM, bnd, tb, List.append_assoc, wh_lb (n := 4) v2, n1, r1, n2, r2, wh_lb (n := 4) t2, ret]
  rw [← v1, ← t1]
end Go.Proofs.YtlpggofilkfbnaaDoor.T
namespace Go.Proofs.YtlpggofilkfbnaaDoor.T
open Go Go.Proofs Go.Proofs.YtlpggofilkfbnaaDoor.K
set_option linter.unusedVariables false
set_option linter.unusedSimpArgs false
theorem rpt_succ {α : Type} (f : Stp α) : ∀ (n : Nat) (s : List Int × Er), rpt (n + 1) f s = ((rpt n f s).1 ++ [(f (rpt n f s).2).1], (f (rpt n f s).2).2)
  | 0, s => rfl
  | n + 1, s => by
    have ih := rpt_succ f n (f s).2
    have e1 : rpt (n + 2) f s = ((f s).1 :: (rpt (n + 1) f (f s).2).1, (rpt (n + 1) f (f s).2).2) := rfl
    have e2 : rpt (n + 1) f s = ((f s).1 :: (rpt n f (f s).2).1, (rpt n f (f s).2).2) := rfl
    rw [e1, ih, e2]; rfl
theorem rpt_len {α : Type} (f : Stp α) : ∀ (n : Nat) (s : List Int × Er), (rpt n f s).1.length = n
  | 0, s => rfl
  | n + 1, s => by rw [rpt_succ, List.length_append, rpt_len f n s]; rfl
def ztx : Tx := ⟨0, [], [], 0⟩
theorem bnd_eq {α β : Type} (f : Stp α) (g : α → Stp β) (s : List Int × Er) : bnd f g s = g (f s).1 (f s).2 := rfl
theorem in_prog {r : compactReader} {q : List Int × Er} (h : Rep r q) : ∃ r3 r4 r5 r6 r7, compact_Reader_Hash.f r = some r3 ∧ compact_Reader_Four.f r3.2 = some r4 ∧ compact_Reader_Num.f r4.2 80 = some r5 ∧ compact_Reader_Bytes.f r5.2 (IntKind.i64.wrap r5.1) = some r6 ∧ compact_Reader_Four.f r6.2 = some r7 ∧ (inM q).1 = (⟨(⟨r3.1, r4.1⟩ : Point), r6.1, r7.1⟩ : In) ∧ Rep r7.2 (inM q).2 := by
  obtain ⟨r3, e3, p3⟩ := rhash_eq h
  unfold inM
  rw [bnd_eq]
  generalize h32 q = w1 at *
  obtain ⟨r4, e4, p4⟩ := rfour_eq p3
  rw [bnd_eq]
  generalize wh 4 w1.2 = w2 at *
  obtain ⟨r5, e5, p5⟩ := num_eq p4 80
  have hk := nm_le 80 w2.2
  rw [show ((80 : Nat) : Int) = 80 from rfl] at hk
  rw [bnd_eq]
  generalize nm 80 w2.2 = w3 at *
  obtain ⟨r6, e6, p6⟩ := rbytes_eq p5 ((w3.1 : Nat) : Int)
  rw [bnd_eq]
  generalize by_ ((w3.1 : Nat) : Int) w3.2 = w4 at *
  obtain ⟨r7, e7, p7⟩ := rfour_eq p6
  rw [bnd_eq]
  generalize wh 4 w4.2 = w5 at *
  have hw : IntKind.i64.wrap ((w3.1 : Nat) : Int) = ((w3.1 : Nat) : Int) := w64 (by omega) (by omega)
  rw [← hw] at e6
  exact ⟨_, _, _, _, _, e3, e4, e5, e6, e7, rfl, p7⟩
theorem out_prog {r : compactReader} {q : List Int × Er} (h : Rep r q) : ∃ r3 r4, compact_Reader_Eight.f r = some r3 ∧ compact_Reader_Hash.f r3.2 = some r4 ∧ (outM q).1 = (⟨r3.1, r4.1⟩ : Out) ∧ Rep r4.2 (outM q).2 := by
  obtain ⟨r3, e3, p3⟩ := reight_eq h
  unfold outM
  rw [bnd_eq]
  generalize wh 8 q = w1 at *
  obtain ⟨r4, e4, p4⟩ := rhash_eq p3
  rw [bnd_eq]
  generalize h32 w1.2 = w2 at *
  exact ⟨_, _, e3, e4, rfl, p4⟩
theorem ins_run {r : compactReader} {q : List Int × Er} (h : Rep r q) (n : Nat) (hn : n ≤ 50) (x : compactReader) :
    ∃ r', loopO (tx_Take.s0 ((n : Int), x)) (0, r.b, r.at_, r.err, []) = some r' ∧ r'.1 = (rpt n inM q).1 ∧ Rep ⟨r'.2.1, r'.2.2.1, r'.2.2.2⟩ (rpt n inM q).2 := by
  refine loop_exists2 (fun i s => s.1 = (i : Int) ∧ Rep ⟨s.2.1, s.2.2.1, s.2.2.2.1⟩ (rpt i inM q).2 ∧ s.2.2.2.2 = (rpt i inM q).1) _ n ⟨rfl, h, rfl⟩ ?_ ?_
  · rintro i hi ⟨s1, s2, s3, s4, s5⟩ ⟨h1, h2, h3⟩
    simp only at h1 h2 h3
    subst h1
    have hl := rpt_len inM i q
    have hsucc := rpt_succ inM i q
    rw [hsucc]
    rw [← h3] at hl ⊢
    generalize (rpt i inM q).2 = z at h2 ⊢
    obtain ⟨r3, r4, r5, r6, r7, e3, e4, e5, e6, e7, ex, p7⟩ := in_prog h2
    rw [ex]
    simp only [tx_Take.s0]
    rw [if_pos (by omega), e3, Option.bind_some, e4, Option.bind_some, e5, Option.bind_some, e6, Option.bind_some, e7, Option.bind_some, if_pos (by omega), wu64 (by omega) (by omega)]
    exact ⟨_, rfl, by simp only; omega, p7, rfl⟩
  · rintro ⟨s1, s2, s3, s4, s5⟩ ⟨h1, h2, h3⟩
    simp only at h1 h2 h3
    subst h1
    simp only [tx_Take.s0]
    rw [if_neg (by omega)]
    exact ⟨_, rfl, h3, h2⟩
theorem outs_run {r : compactReader} {q : List Int × Er} (h : Rep r q) (n : Nat) (hn : n ≤ 50) (x : compactReader) :
    ∃ r', loopO (tx_Take.s1 ((n : Int), x)) (0, r.b, r.at_, r.err, []) = some r' ∧ r'.1 = (rpt n outM q).1 ∧ Rep ⟨r'.2.1, r'.2.2.1, r'.2.2.2⟩ (rpt n outM q).2 := by
  refine loop_exists2 (fun i s => s.1 = (i : Int) ∧ Rep ⟨s.2.1, s.2.2.1, s.2.2.2.1⟩ (rpt i outM q).2 ∧ s.2.2.2.2 = (rpt i outM q).1) _ n ⟨rfl, h, rfl⟩ ?_ ?_
  · rintro i hi ⟨s1, s2, s3, s4, s5⟩ ⟨h1, h2, h3⟩
    simp only at h1 h2 h3
    subst h1
    have hl := rpt_len outM i q
    have hsucc := rpt_succ outM i q
    rw [hsucc]
    rw [← h3] at hl ⊢
    generalize (rpt i outM q).2 = z at h2 ⊢
    obtain ⟨r3, r4, e3, e4, ex, p4⟩ := out_prog h2
    rw [ex]
    simp only [tx_Take.s1]
    rw [if_pos (by omega), e3, Option.bind_some, e4, Option.bind_some, if_pos (by omega), wu64 (by omega) (by omega)]
    exact ⟨_, rfl, by simp only; omega, p4, rfl⟩
  · rintro ⟨s1, s2, s3, s4, s5⟩ ⟨h1, h2, h3⟩
    simp only at h1 h2 h3
    subst h1
    simp only [tx_Take.s1]
    rw [if_neg (by omega)]
    exact ⟨_, rfl, h3, h2⟩
theorem txtake_eq {r : compactReader} {s : List Int × Er} (h : Rep r s) : ∃ r', tx_Take.f r = some ((if (txM s).2.2 ≠ .b 0 then ztx else (txM s).1), r') ∧ Rep r' (txM s).2 := by
  obtain ⟨r1, e1, p1⟩ := rfour_eq h
  simp only [tx_Take.f]
  rw [e1, Option.bind_some]
  unfold txM
  rw [bnd_eq]
  generalize wh 4 s = w1 at *
  obtain ⟨r2, e2, p2⟩ := num_eq p1 50
  have k2 := nm_le 50 w1.2
  rw [show ((50 : Nat) : Int) = 50 from rfl] at k2
  rw [e2, Option.bind_some, bnd_eq]
  generalize nm 50 w1.2 = w2 at *
  obtain ⟨r3, e3, q3, p3⟩ := ins_run p2 _ k2 r2
  rw [e3, Option.bind_some, bnd_eq]
  generalize rpt w2.1 inM w2.2 = w3 at *
  obtain ⟨r4, e4, p4⟩ := num_eq p3 50
  have k4 := nm_le 50 w3.2
  rw [show ((50 : Nat) : Int) = 50 from rfl] at k4
  rw [e4, Option.bind_some, bnd_eq]
  generalize nm 50 w3.2 = w4 at *
  obtain ⟨r5, e5, q5, p5⟩ := outs_run p4 _ k4 r4
  rw [e5, Option.bind_some, bnd_eq]
  generalize rpt w4.1 outM w4.2 = w5 at *
  obtain ⟨r6, e6, p6⟩ := rfour_eq p5
  rw [e6, Option.bind_some, err_eq p6, Option.bind_some, bnd_eq]
  generalize wh 4 w5.2 = w6 at *
  refine ⟨r6, ?_, p6⟩
  show (if w6.2.2 ≠ Er.b 0 then some ((⟨0, [], [], 0⟩ : Tx), r6) else some ((⟨(w1.1 : Int), r3.1, r5.1, (w6.1 : Int)⟩ : Tx), r6)) = some ((if w6.2.2 ≠ Er.b 0 then ztx else (⟨(w1.1 : Int), w3.1, w5.1, (w6.1 : Int)⟩ : Tx)), r6)
  rw [q3, q5]
  by_cases hc : w6.2.2 = .b 0
  · rw [if_neg (fun h => h hc), if_neg (fun h => h hc)]
  · rw [if_pos hc, if_pos hc]; rfl
theorem can_in : Can inM ib (fun i => InOk i ∧ i.Key.length ≤ 80) := by
  intro l hl h
  unfold inM at h ⊢
  obtain ⟨x, l1, ⟨x1, x2⟩, rfl, b1, e1⟩ := can_step can_h32 (fun _ => ext_bnd (ext_wh 4) fun _ => ext_bnd (ext_nm 80) fun _ => ext_bnd (ext_by _) fun _ => ext_bnd (ext_wh 4) fun _ => ext_ret _) hl h
  rw [e1] at h ⊢
  obtain ⟨n, l2, hn, rfl, b2, e2⟩ := can_step (can_wh 4) (fun _ => ext_bnd (ext_nm 80) fun _ => ext_bnd (ext_by _) fun _ => ext_bnd (ext_wh 4) fun _ => ext_ret _) b1 h
  rw [e2] at h ⊢
  have cn := can_nm 80
  rw [show ((80 : Nat) : Int) = 80 from rfl] at cn
  obtain ⟨k, l3, hk, rfl, b3, e3⟩ := can_step cn (fun _ => ext_bnd (ext_by _) fun _ => ext_bnd (ext_wh 4) fun _ => ext_ret _) b2 h
  rw [e3] at h ⊢
  obtain ⟨b, l4, ⟨c1, c2⟩, rfl, b4, e4⟩ := can_step (can_by k) (fun _ => ext_bnd (ext_wh 4) fun _ => ext_ret _) b3 h
  rw [e4] at h ⊢
  obtain ⟨q, l5, hq, rfl, b5, e5⟩ := can_step (can_wh 4) (fun _ => ext_ret _) b4 h
  rw [e5]
  refine ⟨?_, ⟨x1, x2, ?_, c2, ?_⟩, ?_⟩
  · simp only [ret, ib, Int.toNat_natCast, c1, List.append_assoc]
  · simp only [ret, InR]; omega
  · simp only [ret, InR]; omega
  · simp only [ret]; omega
theorem can_out : Can outM ob OutOk := by
  intro l hl h
  unfold outM at h ⊢
  obtain ⟨v, l1, hv, rfl, b1, e1⟩ := can_step (can_wh 8) (fun _ => ext_bnd ext_h32 fun _ => ext_ret _) hl h
  rw [e1] at h ⊢
  obtain ⟨x, l2, ⟨x1, x2⟩, rfl, b2, e2⟩ := can_step can_h32 (fun _ => ext_ret _) b1 h
  rw [e2]
  refine ⟨?_, ?_, x1, x2⟩
  · simp only [ret, ob, Int.toNat_natCast, List.append_assoc]
  · simp only [ret, InR]; omega
theorem can_rpt {α : Type} {f : Stp α} {en : α → List Int} {p : α → Prop} (hf : Can f en p) (hx : Ext f) : ∀ n, Can (rpt n f) (fun xs => (xs.map en).flatten) (fun xs => xs.length = n ∧ ∀ x ∈ xs, p x)
  | 0 => fun l hl h => ⟨rfl, rfl, fun x hx => by cases hx⟩
  | n + 1 => fun l hl h => by
    unfold rpt at h ⊢
    obtain ⟨x, l1, px, rfl, b1, e1⟩ := can_step hf (fun _ => ext_bnd (ext_rpt hx n) fun _ => ext_ret _) hl h
    rw [e1] at h ⊢
    obtain ⟨xs, l2, ⟨q1, q2⟩, rfl, b2, e2⟩ := can_step (can_rpt hf hx n) (fun _ => ext_ret _) b1 h
    rw [e2]
    refine ⟨?_, ?_, ?_⟩
    · simp only [ret, List.map_cons, List.flatten_cons, List.append_assoc]
    · simp only [ret, List.length_cons, q1]
    · simp only [ret]
      intro y hy
      rcases List.mem_cons.1 hy with rfl | hy
      · exact px
      · exact q2 y hy
theorem can_tx : Can txM tb (fun t => TxOk t ∧ Few 50 80 t) := by
  intro l hl h
  unfold txM at h ⊢
  have cn := can_nm 50
  rw [show ((50 : Nat) : Int) = 50 from rfl] at cn
  obtain ⟨v, l1, hv, rfl, b1, e1⟩ := can_step (can_wh 4) (fun _ => ext_bnd (ext_nm 50) fun _ => ext_bnd (ext_rpt ext_in _) fun _ => ext_bnd (ext_nm 50) fun _ => ext_bnd (ext_rpt ext_out _) fun _ => ext_bnd (ext_wh 4) fun _ => ext_ret _) hl h
  rw [e1] at h ⊢
  obtain ⟨n, l2, hn, rfl, b2, e2⟩ := can_step cn (fun _ => ext_bnd (ext_rpt ext_in _) fun _ => ext_bnd (ext_nm 50) fun _ => ext_bnd (ext_rpt ext_out _) fun _ => ext_bnd (ext_wh 4) fun _ => ext_ret _) b1 h
  rw [e2] at h ⊢
  obtain ⟨ins, l3, ⟨i1, i2⟩, rfl, b3, e3⟩ := can_step (can_rpt can_in ext_in n) (fun _ => ext_bnd (ext_nm 50) fun _ => ext_bnd (ext_rpt ext_out _) fun _ => ext_bnd (ext_wh 4) fun _ => ext_ret _) b2 h
  rw [e3] at h ⊢
  obtain ⟨m, l4, hm, rfl, b4, e4⟩ := can_step cn (fun _ => ext_bnd (ext_rpt ext_out _) fun _ => ext_bnd (ext_wh 4) fun _ => ext_ret _) b3 h
  rw [e4] at h ⊢
  obtain ⟨outs, l5, ⟨o1, o2⟩, rfl, b5, e5⟩ := can_step (can_rpt can_out ext_out m) (fun _ => ext_bnd (ext_wh 4) fun _ => ext_ret _) b4 h
  rw [e5] at h ⊢
  obtain ⟨t, l6, ht, rfl, b6, e6⟩ := can_step (can_wh 4) (fun _ => ext_ret _) b5 h
  rw [e6]
  refine ⟨?_, ⟨?_, fun i hi => (i2 i hi).1, o2, ?_⟩, ⟨?_, ?_, fun i hi => (i2 i hi).2⟩⟩
  · simp only [ret, tb, Int.toNat_natCast, i1, o1, List.append_assoc]
  · simp only [ret, InR]; omega
  · simp only [ret, InR]; omega
  · simp only [ret]; omega
  · simp only [ret]; omega
end Go.Proofs.YtlpggofilkfbnaaDoor.T
namespace Go.Proofs.YtlpggofilkfbnaaDoor.T
open Go Go.Proofs Go.Proofs.YtlpggofilkfbnaaDoor.K
set_option linter.unusedVariables false
set_option linter.unusedSimpArgs false
theorem look_run {ρ : Type} {step : Int → Option (Int ⊕ ρ)} (n : Nat) (p : Nat → Prop) [DecidablePred p] (yes no : ρ) (hn : n < 9223372036854775807)
    (hs : ∀ i, i < n → step (i : Int) = if p i then some (.inl (IntKind.i64.wrap ((i : Int) + 1))) else some (.inr no)) (he : step (n : Int) = some (.inr yes)) : loopO step 0 = some (if ∀ i, i < n → p i then yes else no) := by
  have key : ∀ m k, m + k = n → (∀ i, i < k → p i) → loopO step (k : Int) = some (if ∀ i, i < n → p i then yes else no) := by
    intro m
    induction m with
    | zero =>
      intro k e h
      obtain rfl : k = n := by omega
      rw [loopO_inr he, if_pos h]
    | succ m ih =>
      intro k e h
      have h1 := hs k (by omega)
      by_cases hp : p k
      · rw [if_pos hp, winc k (by omega)] at h1
        rw [loopO_inl h1]
        refine ih (k + 1) (by omega) fun i hi => ?_
        rcases Nat.lt_or_ge i k with h2 | h2
        · exact h i h2
        · obtain rfl : i = k := by omega
          exact hp
      · rw [if_neg hp] at h1
        rw [loopO_inr h1, if_neg (fun h2 => hp (h2 k (by omega)))]
  exact key n 0 (by omega) (by simp)
theorem all_getD {α : Type} (l : List α) (d : α) (p : α → Prop) : (∀ i, i < l.length → p (l.getD i d)) ↔ ∀ x ∈ l, p x := by
  constructor
  · intro h x hx
    obtain ⟨i, hi, rfl⟩ := List.getElem_of_mem hx
    have := h i hi
    rwa [gd l d hi] at this
  · intro h i hi
    rw [gd l d hi]
    exact h _ (List.getElem_mem hi)
theorem samepoint_eq (a b : Point) (ha : a.Tx.length = 32) (hb : b.Tx.length = 32) : sargassoref_SamePoint.f a b = some (decide (a = b)) := by
  simp only [sargassoref_SamePoint.f]
  rw [samehash_eq _ _ ha hb]
  obtain ⟨a1, a2⟩ := a
  obtain ⟨b1, b2⟩ := b
  simp only [Option.bind_some, Point.mk.injEq, decide_eq_true_eq]
  by_cases h1 : a1 = b1 <;> by_cases h2 : a2 = b2 <;> simp [h1, h2]
noncomputable instance (a b : Nat) (t : Tx) : Decidable (Few a b t) := Classical.propDecidable _
def nullP : Point := ⟨List.replicate 32 0, 4294967295⟩
theorem point_iff (a b : Point) : a = b ↔ (a.Tx = b.Tx ∧ a.N = b.N) := by
  obtain ⟨a1, a2⟩ := a
  obtain ⟨b1, b2⟩ := b
  simp
theorem out_iff (x y : Out) : x = y ↔ (x.Value = y.Value ∧ x.Lock = y.Lock) := by
  obtain ⟨x1, x2⟩ := x
  obtain ⟨y1, y2⟩ := y
  simp
theorem in_iff (x y : In) : x = y ↔ ((x.From.Tx = y.From.Tx ∧ x.From.N = y.From.N) ∧ x.Seq = y.Seq ∧ x.Key = y.Key) := by
  obtain ⟨⟨x1, x2⟩, x3, x4⟩ := x
  obtain ⟨⟨y1, y2⟩, y3, y4⟩ := y
  simp only [In.mk.injEq, Point.mk.injEq]
  constructor
  · rintro ⟨a, b, c⟩; exact ⟨a, c, b⟩
  · rintro ⟨a, b, c⟩; exact ⟨a, c, b⟩
theorem tx_iff (t u : Tx) : t = u ↔ (t.Version = u.Version ∧ t.Time = u.Time ∧ t.Outs = u.Outs ∧ t.Ins = u.Ins) := by
  obtain ⟨a, b, c, d⟩ := t
  obtain ⟨e, f, g, h⟩ := u
  simp only [Tx.mk.injEq]
  constructor
  · rintro ⟨a, b, c, d⟩; exact ⟨a, d, c, b⟩
  · rintro ⟨a, b, c, d⟩; exact ⟨a, d, c, b⟩
theorem sameout_eq {x y : Out} (h : OutOk x) (k : OutOk y) : sargassoref_SameOut.f x y = some (decide (x = y)) := by
  simp only [sargassoref_SameOut.f]
  have hi := out_iff x y
  by_cases c1 : x.Value = y.Value
  · rw [if_pos c1, samehash_eq _ _ h.lock k.lock, Option.bind_some, Option.bind_some]
    exact congrArg some (decide_eq_decide.2 ⟨fun h => hi.2 ⟨c1, h⟩, fun h => (hi.1 h).2⟩)
  · rw [if_neg c1, Option.bind_some, decide_eq_false (fun h => c1 (hi.1 h).1)]
theorem samein_eq {x y : In} (h : InOk x) (k : InOk y) (hl : x.Key.length ≤ 1000000) : sargassoref_SameIn.f x y = some (decide (x = y)) := by
  simp only [sargassoref_SameIn.f]
  have hi := in_iff x y
  rw [samepoint_eq _ _ h.tx k.tx, Option.bind_some]
  have hp := point_iff x.From y.From
  by_cases c1 : x.From = y.From
  · rw [if_pos (decide_eq_true c1), samebytes_eq' _ _ (by omega), Option.bind_some]
    by_cases c2 : x.Key = y.Key
    · rw [if_pos (decide_eq_true c2), Option.bind_some]
      exact congrArg some (decide_eq_decide.2 ⟨fun h => hi.2 ⟨hp.1 c1, h, c2⟩, fun h => (hi.1 h).2.1⟩)
    · rw [if_neg (by simp only [decide_eq_true_eq]; exact c2), Option.bind_some, decide_eq_false (fun h => c2 (hi.1 h).2.2)]
  · rw [if_neg (by simp only [decide_eq_true_eq]; exact c1), Option.bind_some, decide_eq_false (fun h => c1 (hp.2 (hi.1 h).1))]
theorem sametx_eq {t u : Tx} (h : TxOk t) (k : TxOk u) (h1 : t.Ins.length ≤ 1000000) (h2 : t.Outs.length ≤ 1000000) (h3 : ∀ i ∈ t.Ins, i.Key.length ≤ 1000000) : sargassoref_SameTx.f t u = some (decide (t = u)) := by
  simp only [sargassoref_SameTx.f]
  have hi := tx_iff t u
  by_cases c1 : t.Version = u.Version
  · rw [if_neg (fun h => h c1)]
    by_cases c2 : t.Time = u.Time
    · rw [if_neg (fun h => h c2)]
      by_cases c3 : t.Ins.length = u.Ins.length
      · rw [if_neg (by omega), Option.bind_some]
        by_cases c4 : t.Outs.length = u.Outs.length
        · rw [if_neg (by simp only [decide_eq_true_eq]; omega)]
          have e1 : loopO (sargassoref_SameTx.s1 t u) 0 = some (if ∀ i, i < t.Outs.length → t.Outs.getD i default = u.Outs.getD i default then (Sum.inr true : Int ⊕ Bool) else Sum.inr false) := look_run t.Outs.length (fun i => t.Outs.getD i default = u.Outs.getD i default) (Sum.inr true) (Sum.inr false) (by omega) (fun i hi => by
            simp only [sargassoref_SameTx.s1, Int.toNat_natCast]
            rw [if_pos (by omega), if_pos (by omega), if_pos (by omega), sameout_eq (h.outs _ (getD_mem hi)) (k.outs _ (getD_mem (show i < u.Outs.length by omega))), Option.bind_some]
            by_cases c : t.Outs.getD i default = u.Outs.getD i default
            · rw [if_pos c, if_pos (decide_eq_true c)]
            · rw [if_neg c, if_neg (by simp only [decide_eq_true_eq]; exact c)]) (by simp [sargassoref_SameTx.s1])
          have e2 : loopO (sargassoref_SameTx.s1 t u) 0 = some (.inr (decide (t.Outs = u.Outs))) := by
            rw [e1]
            have e := ext_iff t.Outs u.Outs default c4
            by_cases c : t.Outs = u.Outs
            · rw [if_pos (e.2 c), decide_eq_true c]
            · rw [if_neg (fun h => c (e.1 h)), decide_eq_false c]
          rw [look_run t.Ins.length (fun i => t.Ins.getD i default = u.Ins.getD i default) (decide (t.Outs = u.Outs)) false (by omega) (fun i hi => by
            simp only [sargassoref_SameTx.s0, Int.toNat_natCast]
            rw [if_pos (by omega), if_pos (by omega), if_pos (by omega), samein_eq (h.ins _ (getD_mem hi)) (k.ins _ (getD_mem (show i < u.Ins.length by omega))) (h3 _ (getD_mem hi)), Option.bind_some]
            by_cases c : t.Ins.getD i default = u.Ins.getD i default
            · rw [if_pos c, if_pos (decide_eq_true c)]
            · rw [if_neg c, if_neg (by simp only [decide_eq_true_eq]; exact c)]) (by
            simp only [sargassoref_SameTx.s0]
            rw [if_neg (by omega), e2])]
          have e := ext_iff t.Ins u.Ins default c3
          by_cases c : t.Ins = u.Ins
          · rw [if_pos (e.2 c)]
            exact congrArg some (decide_eq_decide.2 ⟨fun h => hi.2 ⟨c1, c2, h, c⟩, fun h => (hi.1 h).2.2.1⟩)
          · rw [if_neg (fun h => c (e.1 h)), decide_eq_false (fun h => c (hi.1 h).2.2.2)]
        · rw [if_pos (by simp only [decide_eq_true_eq]; omega), decide_eq_false (fun h => c4 (by rw [h]))]
      · rw [if_pos (by omega), Option.bind_some, if_pos rfl, decide_eq_false (fun h => c3 (by rw [h]))]
    · rw [if_pos c2, Option.bind_some, if_pos rfl, decide_eq_false (fun h => c2 (hi.1 h).2.1)]
  · rw [if_pos c1, Option.bind_some, if_pos rfl, decide_eq_false (fun h => c1 (hi.1 h).1)]
end Go.Proofs.YtlpggofilkfbnaaDoor.T
namespace Go.Proofs.YtlpggofilkfbnaaDoor.T
open Go Go.Proofs Go.Proofs.YtlpggofilkfbnaaDoor.K
set_option linter.unusedVariables false
def goSum : Int → List Int → Int × Bool
  | s, [] => (s, true)
  | s, x :: r => if 2100000000000000 < s + x then (0, false) else goSum (s + x) r
theorem sum_loop (xs : List Int) (h : xs.length ≤ 140737488355328) (hx : ∀ x ∈ xs, InR .u64 x) : ∀ (r pre : List Int) (s : Int), xs = pre ++ r → 0 ≤ s → s ≤ 2100000000000000 →
    loopO (compact_Sum.s0 xs) (s, (pre.length : Int)) = some (goSum s r)
  | [], pre, s, e, _, _ => by
    obtain rfl : xs = pre := by simpa using e
    exact loopO_inr (by simp [compact_Sum.s0, goSum])
  | x :: r, pre, s, e, h0, h1 => by
    have hr : InR .u64 x := hx x (by simp [e])
    obtain ⟨a, b⟩ := hr
    have h3 := mid_lt pre r x
    have ih := sum_loop xs h hx r (pre ++ [x]) (s + x) (by simp [e]) (by omega)
    subst e
    unfold goSum
    by_cases hc : 2100000000000000 < s + x
    · rw [if_pos hc]
      refine loopO_inr ?_
      simp only [compact_Sum.s0, if_pos h3.2, if_pos h3, getD_mid]
      rw [if_pos (by rw [wu64 (by omega) (by omega)]; omega)]
    · rw [if_neg hc, loopO_inl (s' := (s + x, ((pre ++ [x]).length : Int)))]
      · exact ih (by omega)
      · simp only [compact_Sum.s0, if_pos h3.2, if_pos h3, getD_mid]
        rw [if_neg (by rw [wu64 (by omega) (by omega)]; omega), wu64 (by omega) (by omega), mid_next pre r x h]
theorem sum_eq (xs : List Int) (h : xs.length ≤ 140737488355328) (hx : ∀ x ∈ xs, InR .u64 x) : compact_Sum.f xs = some (goSum 0 xs) :=
  sum_loop xs h hx xs [] 0 rfl (by omega) (by omega)
end Go.Proofs.YtlpggofilkfbnaaDoor.T
namespace Go.Proofs.YtlpggofilkfbnaaDoor.T
open Go Go.Proofs Go.Proofs.YtlpggofilkfbnaaDoor.K
set_option linter.unusedVariables false
set_option linter.unusedSimpArgs false
theorem in_ok {μ : Store} {x : In} {c : List Value} (h : RIn μ x c) : InOk x := by
  obtain ⟨v0, _, h1, h2, h3, h4⟩ := h
  exact ⟨h1.1, h1.2, h2, fun y hy => slc_ints h3 y hy, h4⟩
theorem out_ok {μ : Store} {x : Out} {c : List Value} (h : ROut μ x c) : OutOk x := by
  obtain ⟨_, h1, h2⟩ := h
  exact ⟨h1, h2.1, h2.2⟩
theorem tx_ok {μ : Store} {x : Tx} {v0 v1 : Value} (h : TxW μ x v0 v1) : TxOk x := by
  obtain ⟨h1, ⟨c1, h2, _⟩, ⟨c2, h3, _⟩, h4⟩ := h
  exact ⟨h1, els_all h2 fun y c hc => in_ok hc, els_all h3 fun y c hc => out_ok hc, h4⟩
theorem find_run {step : Int → Option (Int ⊕ Int)} (n : Nat) (p : Nat → Prop) [DecidablePred p] (hn : n < 9223372036854775807)
    (hs : ∀ i, i < n → step (i : Int) = if p i then some (.inr (i : Int)) else some (.inl (IntKind.i64.wrap ((i : Int) + 1)))) (he : step (n : Int) = some (.inr (-1))) : ∃ r, loopO step 0 = some r ∧ (0 ≤ r ↔ ∃ i, i < n ∧ p i) := by
  have key : ∀ m k, m + k = n → (∀ i, i < k → ¬ p i) → ∃ r, loopO step (k : Int) = some r ∧ (0 ≤ r ↔ ∃ i, i < n ∧ p i) := by
    intro m
    induction m with
    | zero =>
      intro k e h
      obtain rfl : k = n := by omega
      exact ⟨-1, loopO_inr he, ⟨fun h => by omega, fun ⟨i, h1, h2⟩ => absurd h2 (h i h1)⟩⟩
    | succ m ih =>
      intro k e h
      have h1 := hs k (by omega)
      by_cases hp : p k
      · rw [if_pos hp] at h1
        exact ⟨k, loopO_inr h1, ⟨fun _ => ⟨k, by omega, hp⟩, fun _ => by omega⟩⟩
      · rw [if_neg hp, winc k (by omega)] at h1
        rw [loopO_inl h1]
        refine ih (k + 1) (by omega) fun i hi => ?_
        rcases Nat.lt_or_ge i k with h2 | h2
        · exact h i h2
        · obtain rfl : i = k := by omega
          exact hp
  exact key n 0 (by omega) (by simp)
theorem ex_getD {α : Type} (l : List α) (d : α) (p : α → Prop) : (∃ i, i < l.length ∧ p (l.getD i d)) ↔ ∃ x ∈ l, p x := by
  constructor
  · rintro ⟨i, hi, h⟩
    exact ⟨_, getD_mem hi, h⟩
  · rintro ⟨x, hx, h⟩
    obtain ⟨i, hi, rfl⟩ := List.getElem_of_mem hx
    exact ⟨i, hi, by rw [gd l d hi]; exact h⟩
theorem contains_key (l : List In) (hl : l.length ≤ 1000000) : slices_ContainsFunc_api_In_api_In_at_tx_Check_1.f l = some (decide (∃ i ∈ l, 80 < i.Key.length)) := by
  obtain ⟨r, h1, h2⟩ := find_run (step := slices_IndexFunc_api_In_api_In_at_tx_Check_1.s0 l) l.length (fun i => 80 < (l.getD i default).Key.length) (by omega) (fun i hi => by
    simp only [slices_IndexFunc_api_In_api_In_at_tx_Check_1.s0, tx_Check_1.f, Int.toNat_natCast]
    rw [if_pos (by omega), if_pos (by omega), Option.bind_some]
    by_cases c : 80 < (l.getD i default).Key.length
    · rw [if_pos c, if_pos (by simp only [decide_eq_true_eq]; omega)]
    · rw [if_neg c, if_neg (by simp only [decide_eq_true_eq]; omega)]) (by simp [slices_IndexFunc_api_In_api_In_at_tx_Check_1.s0])
  simp only [slices_ContainsFunc_api_In_api_In_at_tx_Check_1.f, slices_IndexFunc_api_In_api_In_at_tx_Check_1.f]
  rw [h1, Option.bind_some]
  exact congrArg some (decide_eq_decide.2 (h2.trans (ex_getD l default fun i => 80 < i.Key.length)))
theorem isnull_eq (p : Point) : spend_IsNull.f p = some (decide (p = nullP)) := by
  simp only [spend_IsNull.f, spend_Null.f, Option.bind_some]
  exact congrArg some (decide_eq_decide.2 (point_iff p nullP).symm)
theorem contains_null (l : List In) (hl : l.length ≤ 1000000) : slices_ContainsFunc_api_In_api_In_at_tx_base_1.f l = some (decide (∃ i ∈ l, i.From = nullP)) := by
  obtain ⟨r, h1, h2⟩ := find_run (step := slices_IndexFunc_api_In_api_In_at_tx_base_1.s0 l) l.length (fun i => (l.getD i default).From = nullP) (by omega) (fun i hi => by
    simp only [slices_IndexFunc_api_In_api_In_at_tx_base_1.s0, tx_base_1.f, Int.toNat_natCast]
    rw [if_pos (by omega), if_pos (by omega), isnull_eq, Option.bind_some, Option.bind_some]
    by_cases c : (l.getD i default).From = nullP
    · rw [if_pos c, if_pos (decide_eq_true c)]
    · rw [if_neg c, if_neg (by simp only [decide_eq_true_eq]; exact c)]) (by simp [slices_IndexFunc_api_In_api_In_at_tx_base_1.s0])
  simp only [slices_ContainsFunc_api_In_api_In_at_tx_base_1.f, slices_IndexFunc_api_In_api_In_at_tx_base_1.f]
  rw [h1, Option.bind_some]
  exact congrArg some (decide_eq_decide.2 (h2.trans (ex_getD l default fun i => i.From = nullP)))
theorem mget_put {K V : Type} [DecidableEq K] (l : List (K × V)) (k k' : K) (v : V) : mget (mput l k v) k' = if k = k' then some v else mget l k' := by
  induction l with
  | nil => simp [mput, mget]
  | cons p l ih =>
    unfold mput
    by_cases h : p.1 = k
    · rw [if_pos h]
      subst h
      by_cases c : p.1 = k'
      · simp [mget, c]
      · simp [mget, c]
    · rw [if_neg h]
      simp only [mget]
      by_cases c : p.1 = k'
      · rw [if_pos c, if_pos c, if_neg (fun e => h (c.trans e.symm))]
      · rw [if_neg c, if_neg c, ih]
def frs (t : Tx) : List Point := t.Ins.map (·.From)
theorem frs_next (t : Tx) (i : Nat) (h : i < t.Ins.length) : (t.Ins.take (i + 1)).map (·.From) = (t.Ins.take i).map (·.From) ++ [(t.Ins.getD i default).From] := by
  rw [← take_next t.Ins i default h]; simp
theorem twice_loop (t : Tx) (hl : t.Ins.length ≤ 1000000) : ∀ (m i : Nat) (s : List (Point × Bool)), m + i = t.Ins.length → (∀ k, ((mget s k).getD false = true ↔ k ∈ (t.Ins.take i).map (·.From))) → ((t.Ins.take i).map (·.From)).Nodup →
    loopO (tx_twice.s0 t) ((i : Int), s) = some (decide (¬ (frs t).Nodup)) := by
  intro m
  induction m with
  | zero =>
    intro i s e h hn
    obtain rfl : i = t.Ins.length := by omega
    rw [List.take_length] at hn
    rw [loopO_inr (by simp only [tx_twice.s0]; rw [if_neg (by omega)]), decide_eq_false (fun h => h hn)]
  | succ m ih =>
    intro i s e h hn
    by_cases c : (t.Ins.getD i default).From ∈ (t.Ins.take i).map (·.From)
    · rw [loopO_inr (by
        simp only [tx_twice.s0, Int.toNat_natCast]
        rw [if_pos (by omega), if_pos (by omega), if_pos ((h _).2 c)])]
      have h2 : ¬ (frs t).Nodup := fun hd => by
        have h3 : ((t.Ins.take (i + 1)).map (·.From)).Nodup := hd.sublist ((List.take_sublist _ _).map _)
        rw [frs_next t i (by omega)] at h3
        exact (List.nodup_append.1 h3).2.2 _ c _ (by simp) rfl
      rw [decide_eq_true h2]
    · rw [loopO_inl (by
        simp only [tx_twice.s0, Int.toNat_natCast]
        rw [if_pos (by omega), if_pos (by omega), if_neg (fun h2 => c ((h _).1 h2)), winc i (by omega)])]
      refine ih (i + 1) _ (by omega) (fun k => ?_) ?_
      · rw [mget_put, frs_next t i (by omega)]
        by_cases ck : (t.Ins.getD i default).From = k
        · rw [if_pos ck, ← ck]; simp
        · rw [if_neg ck, h k, List.mem_append]
          refine ⟨.inl, fun h => ?_⟩
          rcases h with h | h
          · exact h
          · exact absurd (by simpa using h) (fun e => ck (Eq.symm e))
      · rw [frs_next t i (by omega)]
        refine List.nodup_append.2 ⟨hn, by simp, fun a ha b hb => ?_⟩
        have hb' : b = (t.Ins.getD i default).From := by simpa using hb
        intro e
        exact c (by rw [← hb', ← e]; exact ha)
theorem twice_eq' (t : Tx) (hl : t.Ins.length ≤ 1000000) : tx_twice.f t = some (decide (¬ (frs t).Nodup)) := by
  have := twice_loop t hl t.Ins.length 0 [] (by omega) (fun k => by simp [mget]) (by simp)
  exact this
theorem values_eq (t : Tx) (hl : t.Outs.length ≤ 1000000) : tx_values.f t = some (t.Outs.map (·.Value)) := by
  simp only [tx_values.f]
  rw [show loopO (tx_values.s0 t) ([], 0) = _ from loop_run (step := tx_values.s0 t) (fun i => ((t.Outs.take i).map (·.Value), (i : Int))) t.Outs.length (r := t.Outs.map (·.Value)) rfl (fun i hi => by
    simp only [tx_values.s0, Int.toNat_natCast]
    rw [if_pos (by omega), if_pos (by omega), if_pos (by simp; omega), winc i (by omega), ← take_next t.Outs i default hi]
    simp) (by simp only [tx_values.s0]; rw [if_neg (by omega), List.take_length])]
  rfl
def vs (t : Tx) : List Int := t.Outs.map (·.Value)
theorem vs_in {t : Tx} (h : TxOk t) : ∀ x ∈ vs t, InR .u64 x := fun x hx => by
  obtain ⟨o, ho, rfl⟩ := List.mem_map.1 hx
  exact (h.outs o ho).val
theorem txsum_eq {t : Tx} (h : TxOk t) (hl : t.Outs.length ≤ 1000000) : tx_Sum.f t = some (goSum 0 (vs t)) := by
  simp only [tx_Sum.f]
  rw [values_eq t hl, Option.bind_some, show t.Outs.map (·.Value) = vs t from rfl, sum_eq _ (by simp [vs]; omega) (vs_in h)]
  rfl
def isBase (t : Tx) : Prop := t.Ins.length = 1 ∧ (t.Ins.getD 0 default).From = nullP
instance (t : Tx) : Decidable (isBase t) := inferInstanceAs (Decidable (_ ∧ _))
theorem base_eq (t : Tx) : tx_Base.f t = some (decide (isBase t)) := by
  simp only [tx_Base.f]
  by_cases c : t.Ins.length = 1
  · rw [if_pos (by omega), if_pos (by omega), isnull_eq]
    simp only [Option.bind_some]
    exact congrArg some (decide_eq_decide.2 ⟨fun h => ⟨c, h⟩, fun h => h.2⟩)
  · rw [if_neg (by omega), Option.bind_some, decide_eq_false (fun h => c h.1)]
noncomputable def bs (t : Tx) : Er := if isBase t then (if (t.Ins.getD 0 default).Key.length < 4 then xErrBase else .b 0) else if ∃ i ∈ t.Ins, i.From = nullP then xErrBase else .b 0
theorem base1_eq (t : Tx) (hl : t.Ins.length ≤ 1000000) : tx_base.f t = some (bs t) := by
  simp only [tx_base.f]
  rw [base_eq, Option.bind_some]
  unfold bs
  by_cases c : isBase t
  · rw [if_pos (decide_eq_true c), if_pos c, if_pos (by have := c.1; omega)]
    by_cases k : (t.Ins.getD 0 default).Key.length < 4
    · rw [if_pos k, if_pos (show (((t.Ins.getD (0 : Int).toNat default).Key).length : Int) < 4 by rw [show (0 : Int).toNat = 0 from rfl]; omega)]
    · rw [if_neg k, if_neg (show ¬ (((t.Ins.getD (0 : Int).toNat default).Key).length : Int) < 4 by rw [show (0 : Int).toNat = 0 from rfl]; omega)]
  · rw [if_neg (by simp only [decide_eq_true_eq]; exact c), if_neg c, contains_null _ hl, Option.bind_some]
    by_cases k : ∃ i ∈ t.Ins, i.From = nullP
    · rw [if_pos (decide_eq_true k), if_pos k]
    · rw [if_neg (by simp only [decide_eq_true_eq]; exact k), if_neg k]
def mn (t : Tx) : Prop := t.Ins.length = 0 ∨ 50 < t.Ins.length ∨ t.Outs.length = 0 ∨ 50 < t.Outs.length
instance (t : Tx) : Decidable (mn t) := inferInstanceAs (Decidable (_ ∨ _))
noncomputable def ck (t : Tx) : Er := if mn t then xErrMany else if 4000 < (tb t).length then xErrLong else if ∃ i ∈ t.Ins, 80 < i.Key.length then xErrKey else if (goSum 0 (vs t)).2 = false then xErrValue else if ¬ (frs t).Nodup then xErrTwice else bs t
theorem many_eq (t : Tx) : (if (t.Ins.length : Int) = 0 then some true else (if 50 < (t.Ins.length : Int) then some true else (if (t.Outs.length : Int) = 0 then some true else some (decide (50 < (t.Outs.length : Int)))))) = some (decide (mn t)) := by
  have hm : mn t ↔ (t.Ins.length = 0 ∨ 50 < t.Ins.length ∨ t.Outs.length = 0 ∨ 50 < t.Outs.length) := Iff.rfl
  by_cases c1 : t.Ins.length = 0
  · rw [if_pos (by omega), decide_eq_true (hm.2 (.inl c1))]
  · by_cases c2 : 50 < t.Ins.length
    · rw [if_neg (by omega), if_pos (by omega), decide_eq_true (hm.2 (.inr (.inl c2)))]
    · by_cases c3 : t.Outs.length = 0
      · rw [if_neg (by omega), if_neg (by omega), if_pos (by omega), decide_eq_true (hm.2 (.inr (.inr (.inl c3))))]
      · rw [if_neg (by omega), if_neg (by omega), if_neg (by omega)]
        exact congrArg some (decide_eq_decide.2 ⟨fun h => hm.2 (by omega), fun h => by have := hm.1 h; omega⟩)
theorem size_eq {t : Tx} (h : TxOk t) (hf : Few 60 100 t) : tx_Size.f t = some ((tb t).length : Int) := by
  simp only [tx_Size.f]
  rw [tbytes_eq h (hf.mono (by omega) (by omega)), Option.bind_some]
theorem check_eq {t : Tx} (h : TxOk t) (hf : Few 60 100 t) : tx_Check.f t = some (ck t) := by
  have h1 := hf.ins
  have h2 := hf.outs
  simp only [tx_Check.f]
  rw [many_eq, Option.bind_some]
  unfold ck
  by_cases c1 : mn t
  · rw [if_pos (decide_eq_true c1), if_pos c1]
  · rw [if_neg (by simp only [decide_eq_true_eq]; exact c1), if_neg c1, size_eq h hf, Option.bind_some]
    by_cases c2 : 4000 < (tb t).length
    · rw [if_pos (by omega), if_pos c2]
    · rw [if_neg (by omega), if_neg c2, contains_key _ (by omega), Option.bind_some]
      by_cases c3 : ∃ i ∈ t.Ins, 80 < i.Key.length
      · rw [if_pos (decide_eq_true c3), if_pos c3]
      · rw [if_neg (by simp only [decide_eq_true_eq]; exact c3), if_neg c3, txsum_eq h (by omega), Option.bind_some]
        by_cases c4 : (goSum 0 (vs t)).2 = false
        · rw [if_neg (by rw [c4]; decide), if_pos c4]
        · rw [if_pos (by simpa using c4), if_neg c4, twice_eq' t (by omega), Option.bind_some]
          by_cases c5 : ¬ (frs t).Nodup
          · rw [if_pos (decide_eq_true c5), if_pos c5]
          · rw [if_neg (by simp only [decide_eq_true_eq]; exact c5), if_neg c5, base1_eq t (by omega), Option.bind_some]
theorem ck_ok {t : Tx} (h : ck t = .b 0) : ¬ mn t ∧ (tb t).length ≤ 4000 ∧ (∀ i ∈ t.Ins, i.Key.length ≤ 80) ∧ (frs t).Nodup := by
  unfold ck at h
  by_cases c1 : mn t
  · rw [if_pos c1] at h; exact absurd h (by decide)
  rw [if_neg c1] at h
  by_cases c2 : 4000 < (tb t).length
  · rw [if_pos c2] at h; exact absurd h (by decide)
  rw [if_neg c2] at h
  by_cases c3 : ∃ i ∈ t.Ins, 80 < i.Key.length
  · rw [if_pos c3] at h; exact absurd h (by decide)
  rw [if_neg c3] at h
  by_cases c4 : (goSum 0 (vs t)).2 = false
  · rw [if_pos c4] at h; exact absurd h (by decide)
  rw [if_neg c4] at h
  by_cases c5 : ¬ (frs t).Nodup
  · rw [if_pos c5] at h; exact absurd h (by decide)
  exact ⟨c1, by omega, fun i hi => Nat.le_of_not_lt fun h => c3 ⟨i, hi, h⟩, Classical.not_not.1 c5⟩
theorem ck_few {t : Tx} (h : ck t = .b 0) : Few 50 80 t := by
  obtain ⟨h1, _, h2, _⟩ := ck_ok h
  have : ¬ (t.Ins.length = 0 ∨ 50 < t.Ins.length ∨ t.Outs.length = 0 ∨ 50 < t.Outs.length) := h1
  exact ⟨by omega, by omega, h2⟩
theorem ck_of {t : Tx} (h1 : ¬ mn t) (h2 : (tb t).length ≤ 4000) (h3 : ∀ i ∈ t.Ins, i.Key.length ≤ 80) (h4 : (goSum 0 (vs t)).2 = true) (h5 : (frs t).Nodup) : ck t = bs t := by
  unfold ck
  rw [if_neg h1, if_neg (by omega), if_neg (fun ⟨i, hi, h⟩ => by have := h3 i hi; omega), if_neg (by rw [h4]; decide), if_neg (fun h => h h5)]
theorem tb_small {t : Tx} (h : TxOk t) (h1 : t.Ins.length ≤ 10) (h2 : t.Outs.length ≤ 10) (h3 : ∀ i ∈ t.Ins, i.Key.length ≤ 80) : (tb t).length ≤ 4000 := by
  have k1 := flat_le ib 130 t.Ins fun i hi => by
    rw [ib_len (h.ins i hi)]
    have := (ln_le i.Key.length).2
    have := h3 i hi
    omega
  have k2 := outs_le h
  have k3 := (ln_le t.Ins.length).2
  have k4 := (ln_le t.Outs.length).2
  simp only [tb, List.length_append, lb_len, pt_len]
  omega
end Go.Proofs.YtlpggofilkfbnaaDoor.T
namespace Go.Proofs.YtlpggofilkfbnaaDoor.T
open Go Go.Proofs Go.Proofs.YtlpggofilkfbnaaDoor.K
set_option linter.unusedVariables false
set_option linter.unusedSimpArgs false
def idt (t : Tx) : List Int := sha (sha (tb t))
theorem idt_len (t : Tx) : (idt t).length = 32 := sha_len _
def T1 (h : Nat) (v : Int) (l e : List Int) : Tx := ⟨1, [⟨nullP, lb h 4 ++ e, 4294967295⟩], [⟨v, l⟩], 0⟩
theorem zB : Bs (List.replicate 32 0) := fun x hx => by
  obtain rfl : x = 0 := List.eq_of_mem_replicate hx
  simp [InR]
theorem T1_ok {h : Nat} {v : Int} {l e : List Int} (hv : InR .u64 v) (hl : l.length = 32) (lb_ : Bs l) (he : Bs e) : TxOk (T1 h v l e) := by
  refine ⟨by simp [T1, InR], fun i hi => ?_, fun o ho => ?_, by simp [T1, InR]⟩
  · obtain rfl := List.mem_singleton.1 hi
    exact ⟨by simp [nullP], zB, by simp [nullP, InR], (bs_lb _ _).app he, by simp [InR]⟩
  · obtain rfl := List.mem_singleton.1 ho
    exact ⟨hv, hl, lb_⟩
theorem T1_few {h : Nat} {v : Int} {l e : List Int} (he : e.length ≤ 90) : Few 60 100 (T1 h v l e) := by
  refine ⟨by simp [T1], by simp [T1], fun i hi => ?_⟩
  obtain rfl := List.mem_singleton.1 hi
  simp only [List.length_append, lb_len]; omega
theorem u32_nat (x : Int) : IntKind.u32.wrap x = (((IntKind.u32.wrap x).toNat : Nat) : Int) ∧ (IntKind.u32.wrap x).toNat < 4294967296 := nat4 (wrap_in _ _)
theorem first_eq (x0 x1 : Int) (x2 x3 : List Int) (h3 : x3.length ≤ 90) : block_First.f x0 x1 x2 x3 = some (T1 (IntKind.u32.wrap x0).toNat x1 x2 x3) := by
  obtain ⟨e, hl⟩ := u32_nat x0
  have h := four_eq [] _ hl (by simp)
  rw [← e] at h
  simp only [block_First.f]
  rw [h, Option.bind_some, concat_eq _ (by simp) (fun x hx => by
    have : x = [] ++ lb (IntKind.u32.wrap x0).toNat 4 ∨ x = x3 := by simpa using hx
    rcases this with rfl | rfl
    · simp [lb_len]
    · omega), Option.bind_some]
  simp [spend_Null.f, T1, nullP]
theorem id_eq {t : Tx} (h : TxOk t) (hf : Few 60 100 t) : tx_ID.f t = some (idt t) := by
  have n0 := tb_le h (hf.mono (by omega) (by omega))
  simp only [tx_ID.f]
  rw [tbytes_eq h (hf.mono (by omega) (by omega)), Option.bind_some, twice_eq _ (by omega), Option.bind_some]
  rfl
structure TsOk (l : List Tx) : Prop where
  n : l.length ≤ 1000
  ok : ∀ t ∈ l, TxOk t
  few : ∀ t ∈ l, Few 60 100 t
theorem ids_eq {b : Block} (h : TsOk b.Txs) : block_IDs.f b = some (b.Txs.map idt) := by
  have hn := h.n
  simp only [block_IDs.f]
  rw [show loopO (block_IDs.s0 b) ([], 0) = _ from loop_run (step := block_IDs.s0 b) (fun i => ((b.Txs.take i).map idt, (i : Int))) b.Txs.length (r := b.Txs.map idt) rfl (fun i hi => by
    have hm := getD_mem (l := b.Txs) (d := default) hi
    simp only [block_IDs.s0, Int.toNat_natCast]
    rw [if_pos (by omega), if_pos (by omega), id_eq (h.ok _ hm) (h.few _ hm), Option.bind_some, if_pos (by simp; omega), winc i (by omega), ← take_next b.Txs i default hi]
    simp) (by simp only [block_IDs.s0]; rw [if_neg (by omega), List.take_length])]
  rfl
theorem ids_hs (l : List Tx) : Hs (l.map idt) := fun x hx => by
  obtain ⟨t, _, rfl⟩ := List.mem_map.1 hx
  exact idt_len t
def rt (l : List Tx) : List Int := rootL (l.map idt)
theorem rt_len (l : List Tx) : (rt l).length = 32 := rootL_len _ (ids_hs l)
theorem broot_eq {b : Block} (h : TsOk b.Txs) : block_Root.f b = some (rt b.Txs) := by
  have hn := h.n
  simp only [block_Root.f]
  rw [ids_eq h, Option.bind_some, root_eq _ (ids_hs _) (by simp; omega), Option.bind_some]
  rfl
def tbs (l : List Tx) : List Int := (l.map tb).flatten
def bb (h : HN) (l : List Tx) : List Int := hb h ++ (pt l.length ++ tbs l)
theorem bbytes_eq {h : HN} (o : h.Ok) {l : List Tx} (k : TsOk l) : block_Bytes.f ⟨h.h, l⟩ = some (bb h l) := by
  have hn := k.n
  have hl := hb_len o
  have lp := (ln_le l.length).2
  have ht : ∀ t ∈ l, (tb t).length ≤ 210000 := fun t ht => tb_le (k.ok t ht) ((k.few t ht).mono (by omega) (by omega))
  simp only [block_Bytes.f]
  rw [hbytes_eq o, Option.bind_some, wu64 (by omega) (by omega), put_eq _ _ (by omega) (by omega), Option.bind_some, show loopO (block_Bytes.s0 ⟨h.h, l⟩) (hb h ++ pt l.length, 0) = _ from loop_run (step := block_Bytes.s0 ⟨h.h, l⟩) (fun i => (hb h ++ pt l.length ++ ((l.take i).map tb).flatten, (i : Int))) l.length (r := hb h ++ pt l.length ++ tbs l) (by simp) (fun i hi => by
    have hm := getD_mem (l := l) (d := default) hi
    have hb_ := take_few tb 210000 l ht i (by omega)
    have h2 := ht _ hm
    rw [flat_next tb l default i hi]
    simp only [block_Bytes.s0, Int.toNat_natCast]
    rw [if_pos (by omega), if_pos (by omega), tbytes_eq (k.ok _ hm) ((k.few _ hm).mono (by omega) (by omega)), Option.bind_some, if_pos (by simp only [List.length_append, pt_len]; omega), winc i (by omega)]
    simp only [List.append_assoc]) (by simp only [block_Bytes.s0]; rw [if_neg (by omega), List.take_length]; rfl), Option.bind_some]
  simp only [bb, List.append_assoc]
theorem bsize_eq {h : HN} (o : h.Ok) {l : List Tx} (k : TsOk l) : block_Size.f ⟨h.h, l⟩ = some ((bb h l).length : Int) := by
  simp only [block_Size.f]
  rw [bbytes_eq o k, Option.bind_some]
theorem hcheck_eq (h : HN) : head_Check.f h.h = some (if h.w = 0 ∨ 16777216 < h.w then xErrRange else .b 0) := by
  have hw : h.h.Work = (h.w : Int) := rfl
  simp only [head_Check.f]
  by_cases c1 : h.w = 0
  · rw [if_pos (show h.h.Work = 0 by omega), Option.bind_some, if_pos rfl, if_pos (.inl c1)]
  · rw [if_neg (show ¬ h.h.Work = 0 by omega), Option.bind_some]
    by_cases c2 : 16777216 < h.w
    · rw [if_pos (decide_eq_true (by omega)), if_pos (.inr c2)]
    · rw [if_neg (by simp only [decide_eq_true_eq]; omega), if_neg (by omega)]
theorem parts_ok {b : Block} (h : TsOk b.Txs) (h1 : ∀ i, i < b.Txs.length → ck (b.Txs.getD i default) = .b 0) (h2 : ∀ i, i < b.Txs.length → (isBase (b.Txs.getD i default) ↔ i = 0)) : block_parts.f b = some (.b 0) := by
  have hn := h.n
  simp only [block_parts.f]
  have e1 : loopO (block_parts.s1 b) 0 = some (.inr (.b 0)) := loop_run (step := block_parts.s1 b) (fun i => (i : Int)) b.Txs.length rfl (fun i hi => by
    simp only [block_parts.s1, Int.toNat_natCast]
    rw [if_pos (by omega), if_pos (by omega), base_eq, Option.bind_some, if_neg (fun h => h (decide_eq_decide.2 ((h2 i hi).trans (by omega)))), winc i (by omega)]) (by simp only [block_parts.s1]; rw [if_neg (by omega)])
  refine loop_run (step := block_parts.s0 b) (fun i => (i : Int)) b.Txs.length rfl (fun i hi => ?_) ?_
  · have hm := getD_mem (l := b.Txs) (d := default) hi
    simp only [block_parts.s0, Int.toNat_natCast]
    rw [if_pos (by omega), if_pos (by omega), check_eq (h.ok _ hm) (h.few _ hm), h1 i hi, Option.bind_some, if_neg (fun h => h rfl), winc i (by omega)]
  · simp only [block_parts.s0]
    rw [if_neg (by omega), e1]
theorem twice_one {b : Block} {t : Tx} (h : TsOk b.Txs) (e : b.Txs = [t]) (ht : t.Ins.length = 1) : block_twice.f b = some false := by
  simp only [block_twice.f]
  rw [ids_eq h, Option.bind_some, e]
  have hg : b.Txs.getD 0 default = t := by rw [e]; rfl
  have e1 : loopO (block_twice.s1 b [idt t] 0 []) (0, []) = some (.inl (1, mput [] (t.Ins.getD 0 default).From true, mput [] (idt t) true)) := by
    rw [loopO_inl (s' := (1, mput [] (t.Ins.getD 0 default).From true)) (by
      simp only [block_twice.s1]
      rw [show (0 : Int).toNat = 0 from rfl, hg, ht, if_pos (by omega), if_pos (by omega), if_neg (by simp [mget])]
      rfl), loopO_inr (by
      simp only [block_twice.s1]
      rw [show (0 : Int).toNat = 0 from rfl, hg, ht, if_neg (by omega)])]
    rfl
  show loopO (block_twice.s0 b [idt t]) (0, [], []) = some false
  rw [loopO_inl (s' := (1, mput [] (t.Ins.getD 0 default).From true, mput [] (idt t) true)) (by
    simp only [block_twice.s0]
    rw [if_pos (by simp), if_pos (by simp), if_neg (by simp [mget]), if_pos (by rw [e]; simp), e1]), loopO_inr (by
    simp only [block_twice.s0]
    rw [if_neg (by simp)])]
def T0 : Tx := T1 0 0 (sha []) []
def H0 : HN := ⟨1, List.replicate 32 0, rt [T0], 1000, 1, 0⟩
theorem sha_bs (m : List Int) : Bs (sha m) := (sha_arr m).2
theorem T0_ok : TxOk T0 := T1_ok (by simp [InR]) (sha_len _) (sha_bs _) bs_nil
theorem T0_few : Few 60 100 T0 := T1_few (by simp)
theorem Ts0 : TsOk [T0] := ⟨by simp, fun t ht => by obtain rfl := List.mem_singleton.1 ht; exact T0_ok, fun t ht => by obtain rfl := List.mem_singleton.1 ht; exact T0_few⟩
theorem H0_ok : H0.Ok := ⟨by decide, by simp [H0], show (rt [T0]).length = 32 from rt_len _, by decide, by decide, by decide⟩
theorem start_eq : block_Start.f = some ⟨H0.h, [T0]⟩ := by
  simp only [block_Start.f, spend_Lock.f]
  rw [sha_eq _ (by simp), Option.bind_some, Option.bind_some, first_eq _ _ _ _ (by simp), Option.bind_some, show T1 (IntKind.u32.wrap 0).toNat 0 (sha []) [] = T0 from rfl, broot_eq (b := ⟨⟨1, List.replicate 32 0, List.replicate 32 0, 1000, 1, 0⟩, [T0]⟩) Ts0, Option.bind_some]
  rfl
theorem T1_base (h : Nat) (v : Int) (l e : List Int) : isBase (T1 h v l e) := ⟨rfl, rfl⟩
theorem T1_tb {h : Nat} {v : Int} {l e : List Int} (ok : TxOk (T1 h v l e)) (he : e.length ≤ 76) : (tb (T1 h v l e)).length ≤ 4000 := tb_small ok (by simp [T1]) (by simp [T1]) fun i hi => by
  obtain rfl := List.mem_singleton.1 hi
  simp only [List.length_append, lb_len]; omega
theorem ck_T0 : ck T0 = .b 0 := by
  rw [ck_of (t := T0) (fun h => by
    have : T0.Ins.length = 0 ∨ 50 < T0.Ins.length ∨ T0.Outs.length = 0 ∨ 50 < T0.Outs.length := h
    simp [T0, T1] at this) (T1_tb T0_ok (by simp)) (fun i hi => by
    obtain rfl := List.mem_singleton.1 hi
    simp [lb_len]) (by simp [vs, T0, T1, goSum]) (by simp [frs, T0, T1])]
  unfold bs
  rw [if_pos (show isBase T0 from T1_base _ _ _ _), if_neg (by simp [T0, T1, lb_len])]
theorem bb0_len : (bb H0 [T0]).length ≤ 5000 := by
  have h1 := T1_tb T0_ok (by simp)
  have h2 : (tb T0).length ≤ 4000 := h1
  simp only [bb, tbs, List.length_append, hb_len H0_ok, pt_len, List.map_cons, List.map_nil, List.flatten_cons, List.flatten_nil, List.length_nil]
  have := (ln_le [T0].length).2
  omega
theorem check0 : block_Check.f ⟨H0.h, [T0]⟩ = some (.b 0) := by
  simp only [block_Check.f]
  rw [hcheck_eq, if_neg (by decide), Option.bind_some, if_neg (fun h => h rfl), if_neg (by simp), Option.bind_some, if_neg (by simp), bsize_eq H0_ok Ts0, Option.bind_some, if_neg (by have := bb0_len; omega), parts_ok (b := ⟨H0.h, [T0]⟩) Ts0 (fun i hi => by
    have hi : i < 1 := hi
    obtain rfl : i = 0 := by omega
    exact ck_T0) (fun i hi => by
    have hi : i < 1 := hi
    obtain rfl : i = 0 := by omega
    exact ⟨fun _ => rfl, fun _ => T1_base _ _ _ _⟩), Option.bind_some, if_neg (fun h => h rfl), twice_one (b := ⟨H0.h, [T0]⟩) Ts0 rfl rfl, Option.bind_some, if_neg (by decide), broot_eq (b := ⟨H0.h, [T0]⟩) Ts0, Option.bind_some, if_neg (fun h => h rfl)]
theorem first7 : sargassolaw7_first.f = some true := by
  simp only [sargassolaw7_first.f]
  rw [start_eq, Option.bind_some, check0, Option.bind_some, if_pos rfl, Option.bind_some, ids_eq (b := ⟨H0.h, [T0]⟩) Ts0]
  rfl
theorem sametxs_eq {xs ys : List Tx} (h : TsOk xs) (k : ∀ t ∈ ys, TxOk t) : sargassoref_SameTxs.f xs ys = some (decide (xs = ys)) := by
  have hn := h.n
  simp only [sargassoref_SameTxs.f]
  by_cases c : xs.length = ys.length
  · rw [if_neg (by omega), all_run xs.length (fun i => xs.getD i default = ys.getD i default) (by omega) (fun i hi => by
      have hm := getD_mem (l := xs) (d := default) hi
      have hf := h.few _ hm
      have a1 := hf.ins
      have a2 := hf.outs
      simp only [sargassoref_SameTxs.s0, Int.toNat_natCast]
      rw [if_pos (by omega), if_pos (by omega), if_pos (by omega), sametx_eq (h.ok _ hm) (k _ (getD_mem (show i < ys.length by omega))) (by omega) (by omega) (fun j hj => by have := hf.key j hj; omega), Option.bind_some]
      by_cases e : xs.getD i default = ys.getD i default
      · rw [if_pos e, if_pos (decide_eq_true e)]
      · rw [if_neg e, if_neg (by simp only [decide_eq_true_eq]; exact e)]) (by simp [sargassoref_SameTxs.s0])]
    exact congrArg some (decide_eq_decide.2 (ext_iff xs ys default c))
  · rw [if_pos (by omega), decide_eq_false (fun e => c (by rw [e]))]
theorem sameblock_self {h : HN} (o : h.Ok) {l : List Tx} (k : TsOk l) : sargassoref_SameBlock.f ⟨h.h, l⟩ ⟨h.h, l⟩ = some true := by
  simp only [sargassoref_SameBlock.f]
  rw [same_eq o o, decide_eq_true rfl, Option.bind_some, if_pos rfl, sametxs_eq k k.ok, decide_eq_true rfl]
  rfl
end Go.Proofs.YtlpggofilkfbnaaDoor.T
namespace Go.Proofs.YtlpggofilkfbnaaDoor.T
open Go Go.Proofs Go.Proofs.YtlpggofilkfbnaaDoor.K
set_option linter.unusedVariables false
set_option linter.unusedSimpArgs false
def run : List Nat → List Int × Er → List Int × Er
  | [], s => s
  | n :: ns, s => run ns (nx n s).2
def hns : List Nat := [4, 32, 32, 4, 4, 4]
def zhead : Head := ⟨0, List.replicate 32 0, List.replicate 32 0, 0, 0, 0⟩
def hparse (s : List Int × Er) : Head := ⟨(wh 4 s).1, (h32 (run [4] s)).1, (h32 (run [4, 32] s)).1, (wh 4 (run [4, 32, 32] s)).1, (wh 4 (run [4, 32, 32, 4] s)).1, (wh 4 (run [4, 32, 32, 4, 4] s)).1⟩
theorem htake_eq {r : compactReader} {s : List Int × Er} (h : Rep r s) : ∃ r', head_Take.f r = some ((if (run hns s).2 ≠ .b 0 then zhead else hparse s), r') ∧ Rep r' (run hns s) := by
  obtain ⟨r1, e1, p1⟩ := rfour_eq h
  obtain ⟨r2, e2, p2⟩ := rhash_eq p1
  obtain ⟨r3, e3, p3⟩ := rhash_eq p2
  obtain ⟨r4, e4, p4⟩ := rfour_eq p3
  obtain ⟨r5, e5, p5⟩ := rfour_eq p4
  obtain ⟨r6, e6, p6⟩ := rfour_eq p5
  simp only [head_Take.f]
  rw [e1, Option.bind_some, e2, Option.bind_some, e3, Option.bind_some, e4, Option.bind_some, e5, Option.bind_some, e6, Option.bind_some, err_eq p6, Option.bind_some]
  have hr : (wh 4 (wh 4 (wh 4 (h32 (h32 (wh 4 s).2).2).2).2).2).2 = run hns s := rfl
  rw [hr] at p6 ⊢
  refine ⟨r6, ?_, p6⟩
  by_cases hc : (run hns s).2 = .b 0
  · rw [if_neg (fun h => h hc), if_neg (fun h => h hc)]; rfl
  · rw [if_pos hc, if_pos hc]; rfl
theorem hn_read {h : HN} (o : h.Ok) (hp : Bs h.p) (hr : Bs h.r) (t : List Int) : run hns (hb h ++ t, .b 0) = (t, .b 0) ∧ hparse (hb h ++ t, .b 0) = h.h := by
  have ov := o.v
  have ot := o.t
  have ow := o.w
  have on := o.n
  have e : hb h ++ t = lb h.v 4 ++ (h.p ++ (h.r ++ (lb h.t 4 ++ (lb h.w 4 ++ (lb h.n 4 ++ t))))) := by simp [hb]
  have k1 : nx 4 (hb h ++ t, .b 0) = (lb h.v 4, (h.p ++ (h.r ++ (lb h.t 4 ++ (lb h.w 4 ++ (lb h.n 4 ++ t)))), .b 0)) := by rw [e]; exact nx_app (lb_len _ _)
  have k2 : nx 32 (h.p ++ (h.r ++ (lb h.t 4 ++ (lb h.w 4 ++ (lb h.n 4 ++ t)))), .b 0) = (h.p, (h.r ++ (lb h.t 4 ++ (lb h.w 4 ++ (lb h.n 4 ++ t))), .b 0)) := nx_app o.p
  have k3 : nx 32 (h.r ++ (lb h.t 4 ++ (lb h.w 4 ++ (lb h.n 4 ++ t))), .b 0) = (h.r, (lb h.t 4 ++ (lb h.w 4 ++ (lb h.n 4 ++ t)), .b 0)) := nx_app o.r
  have k4 : nx 4 (lb h.t 4 ++ (lb h.w 4 ++ (lb h.n 4 ++ t)), .b 0) = (lb h.t 4, (lb h.w 4 ++ (lb h.n 4 ++ t), .b 0)) := nx_app (lb_len _ _)
  have k5 : nx 4 (lb h.w 4 ++ (lb h.n 4 ++ t), .b 0) = (lb h.w 4, (lb h.n 4 ++ t, .b 0)) := nx_app (lb_len _ _)
  have k6 : nx 4 (lb h.n 4 ++ t, .b 0) = (lb h.n 4, (t, .b 0)) := nx_app (lb_len _ _)
  refine ⟨by simp only [hns, run, k1, k2, k3, k4, k5, k6], ?_⟩
  have np : h.p ≠ [] := fun z => by have := o.p; rw [z] at this; cases this
  have nr : h.r ≠ [] := fun z => by have := o.r; rw [z] at this; cases this
  simp only [hparse, run, wh, h32, k1, k2, k3, k4, k5, k6, if_neg np, if_neg nr, vl_lb]
  rw [Nat.mod_eq_of_lt (by omega), Nat.mod_eq_of_lt (by omega), Nat.mod_eq_of_lt (by omega), Nat.mod_eq_of_lt (by omega)]
  rfl
end Go.Proofs.YtlpggofilkfbnaaDoor.T
namespace Go.Proofs.YtlpggofilkfbnaaDoor.T
open Go Go.Proofs Go.Proofs.YtlpggofilkfbnaaDoor.K
set_option linter.unusedVariables false
set_option linter.unusedSimpArgs false
section
variable {α : Type}
def zX (z : α) (f : Stp α) : Stp α := fun s => (if (f s).2.2 ≠ .b 0 then z else (f s).1, (f s).2)
theorem ext_z {z : α} {f : Stp α} (h : Ext f) : Ext (zX z f) := by
  refine ⟨fun l e he => h.err l e he, fun l l' e he => ?_, fun l m => ?_⟩
  · have h1 := h.err l e he
    have h2 := h.err l' e he
    simp only [zX, h1, h2]
    rw [if_pos he, if_pos he]
  · rcases h.ext l m with h1 | h1
    · exact .inl h1
    · right
      simp only [zX, h1]
theorem can_z {z : α} {f : Stp α} {en : α → List Int} {p : α → Prop} (h : Can f en p) : Can (zX z f) en p := fun l hl he => by
  have he : (f (l, .b 0)).2.2 = .b 0 := he
  have h1 := h l hl he
  simp only [zX]
  rw [if_neg (fun h => h he)]
  exact h1
theorem z_eq {z : α} {f : Stp α} {s : List Int × Er} (h : (f s).2.2 = .b 0) : zX z f s = f s := by
  simp only [zX]
  rw [if_neg (fun h' => h' h)]
end
theorem zX_def {α : Type} (z : α) (f : Stp α) (s : List Int × Er) : zX z f s = (if (f s).2.2 ≠ .b 0 then z else (f s).1, (f s).2) := rfl
def hdM : Stp Head := bnd (wh 4) fun v => bnd h32 fun p => bnd h32 fun r => bnd (wh 4) fun t => bnd (wh 4) fun w => bnd (wh 4) fun n => ret ⟨(v : Int), p, r, (t : Int), (w : Int), (n : Int)⟩
theorem hdM_eq (s : List Int × Er) : hdM s = (hparse s, run hns s) := rfl
theorem ext_hd : Ext hdM := ext_bnd (ext_wh 4) fun _ => ext_bnd ext_h32 fun _ => ext_bnd ext_h32 fun _ => ext_bnd (ext_wh 4) fun _ => ext_bnd (ext_wh 4) fun _ => ext_bnd (ext_wh 4) fun _ => ext_ret _
def he (h : Head) : List Int := lb h.Version.toNat 4 ++ (h.Prev ++ (h.Root ++ (lb h.Time.toNat 4 ++ (lb h.Work.toNat 4 ++ lb h.Nonce.toNat 4))))
theorem he_hb (h : HN) : he h.h = hb h := by simp [he, hb, HN.h]
def HdOk (x : Head) : Prop := ∃ y : HN, x = y.h ∧ y.Ok ∧ Bs y.p ∧ Bs y.r
theorem can_hd : Can hdM he HdOk := by
  intro l hl h
  unfold hdM at h ⊢
  obtain ⟨v, l1, hv, rfl, b1, e1⟩ := can_step (can_wh 4) (fun _ => ext_bnd ext_h32 fun _ => ext_bnd ext_h32 fun _ => ext_bnd (ext_wh 4) fun _ => ext_bnd (ext_wh 4) fun _ => ext_bnd (ext_wh 4) fun _ => ext_ret _) hl h
  rw [e1] at h ⊢
  obtain ⟨p, l2, ⟨p1, p2⟩, rfl, b2, e2⟩ := can_step can_h32 (fun _ => ext_bnd ext_h32 fun _ => ext_bnd (ext_wh 4) fun _ => ext_bnd (ext_wh 4) fun _ => ext_bnd (ext_wh 4) fun _ => ext_ret _) b1 h
  rw [e2] at h ⊢
  obtain ⟨r, l3, ⟨r1, r2⟩, rfl, b3, e3⟩ := can_step can_h32 (fun _ => ext_bnd (ext_wh 4) fun _ => ext_bnd (ext_wh 4) fun _ => ext_bnd (ext_wh 4) fun _ => ext_ret _) b2 h
  rw [e3] at h ⊢
  obtain ⟨t, l4, ht, rfl, b4, e4⟩ := can_step (can_wh 4) (fun _ => ext_bnd (ext_wh 4) fun _ => ext_bnd (ext_wh 4) fun _ => ext_ret _) b3 h
  rw [e4] at h ⊢
  obtain ⟨w, l5, hw, rfl, b5, e5⟩ := can_step (can_wh 4) (fun _ => ext_bnd (ext_wh 4) fun _ => ext_ret _) b4 h
  rw [e5] at h ⊢
  obtain ⟨n, l6, hn, rfl, b6, e6⟩ := can_step (can_wh 4) (fun _ => ext_ret _) b5 h
  rw [e6]
  refine ⟨?_, ⟨v, p, r, t, w, n⟩, rfl, ⟨hv, p1, r1, ht, hw, hn⟩, p2, r2⟩
  simp only [ret, he, Int.toNat_natCast, List.append_assoc]
def hdX : Stp Head := zX zhead hdM
def txX : Stp Tx := zX ztx txM
theorem ext_hdX : Ext hdX := ext_z ext_hd
theorem ext_txX : Ext txX := ext_z ext_tx
theorem can_hdX : Can hdX he HdOk := can_z can_hd
theorem can_txX : Can txX tb (fun t => TxOk t ∧ Few 50 80 t) := can_z can_tx
def bkG (hd : Stp Head) (tx : Stp Tx) : Stp Block := bnd hd fun h => bnd (nm 200) fun n => bnd (rpt n tx) fun ts => ret ⟨h, ts⟩
def bkM : Stp Block := bkG hdX txX
theorem ext_bkG {hd : Stp Head} {tx : Stp Tx} (h : Ext hd) (k : Ext tx) : Ext (bkG hd tx) := ext_bnd h fun _ => ext_bnd (ext_nm 200) fun _ => ext_bnd (ext_rpt k _) fun _ => ext_ret _
theorem ext_bk : Ext bkM := ext_bkG ext_hdX ext_txX
def be (b : Block) : List Int := he b.Head ++ (pt b.Txs.length ++ tbs b.Txs)
theorem be_bb (h : HN) (l : List Tx) : be ⟨h.h, l⟩ = bb h l := by
  simp only [be, bb]
  rw [he_hb]
def BkOk (b : Block) : Prop := HdOk b.Head ∧ b.Txs.length ≤ 200 ∧ ∀ t ∈ b.Txs, TxOk t ∧ Few 50 80 t
theorem can_bkG {hd : Stp Head} {tx : Stp Tx} (ch : Can hd he HdOk) (xh : Ext hd) (ct : Can tx tb (fun t => TxOk t ∧ Few 50 80 t)) (xt : Ext tx) : Can (bkG hd tx) be BkOk := by
  intro l hl h
  unfold bkG at h ⊢
  have cn := can_nm 200
  rw [show ((200 : Nat) : Int) = 200 from rfl] at cn
  obtain ⟨x, l1, hx, rfl, b1, e1⟩ := can_step ch (fun _ => ext_bnd (ext_nm 200) fun _ => ext_bnd (ext_rpt xt _) fun _ => ext_ret _) hl h
  rw [e1] at h ⊢
  obtain ⟨n, l2, hn, rfl, b2, e2⟩ := can_step cn (fun _ => ext_bnd (ext_rpt xt _) fun _ => ext_ret _) b1 h
  rw [e2] at h ⊢
  obtain ⟨ts, l3, ⟨t1, t2⟩, rfl, b3, e3⟩ := can_step (can_rpt ct xt n) (fun _ => ext_ret _) b2 h
  rw [e3]
  refine ⟨?_, hx, ?_, t2⟩
  · simp only [ret, be, t1, tbs, List.append_assoc]
  · simp only [ret]; omega
theorem can_bk : Can bkM be BkOk := can_bkG can_hdX ext_hdX can_txX ext_txX
theorem bk_read {h : HN} (o : h.Ok) (hp : Bs h.p) (hr : Bs h.r) {l : List Tx} (hn : l.length ≤ 200) (hl : ∀ t ∈ l, TxOk t ∧ Few 50 80 t) (r : List Int) : bkM (bb h l ++ r, .b 0) = (⟨h.h, l⟩, (r, .b 0)) := by
  unfold bkM bkG bb
  have h1 : hdX (hb h ++ (pt l.length ++ tbs l) ++ r, .b 0) = (h.h, (pt l.length ++ (tbs l ++ r), .b 0)) := by
    obtain ⟨q1, q2⟩ := hn_read o hp hr (pt l.length ++ (tbs l ++ r))
    unfold hdX
    rw [List.append_assoc, List.append_assoc, z_eq (by rw [hdM_eq, q1]), hdM_eq, q1, q2]
  have h2 := nm_app 200 l.length hn (by omega) (tbs l ++ r)
  rw [show ((200 : Nat) : Int) = 200 from rfl] at h2
  have h3 : rpt l.length txX (tbs l ++ r, .b 0) = (l, (r, .b 0)) := rpt_read (en := tb) l r fun t ht r => by
    have := tx_read (hl t ht).1 (hl t ht).2 r
    unfold txX
    rw [z_eq (by rw [this]), this]
  simp only [bnd, h1, h2, h3, ret]
theorem bk_cut {h : HN} (o : h.Ok) (hp : Bs h.p) (hr : Bs h.r) {l : List Tx} (hn : l.length ≤ 200) (hl : ∀ t ∈ l, TxOk t ∧ Few 50 80 t) (k : Nat) (hk : k < (bb h l).length) : (bkM ((bb h l).take k, .b 0)).2.2 = xErrEnd := by
  rcases ext_bk.ext ((bb h l).take k) ((bb h l).drop k) with h1 | h1
  · exact h1
  · rw [List.take_append_drop] at h1
    have h2 := bk_read o hp hr hn hl []
    rw [List.append_nil] at h2
    rw [h2] at h1
    have h3 : [] = (bkM ((bb h l).take k, .b 0)).2.1 ++ (bb h l).drop k := congrArg (fun q => q.2.1) h1
    have h4 := congrArg List.length h3
    simp at h4
    omega
theorem txs_run {tx : Stp Tx} (ht : ∀ r s, Rep r s → ∃ r', tx_Take.f r = some ((tx s).1, r') ∧ Rep r' (tx s).2) {r : compactReader} {q : List Int × Er} (h : Rep r q) (n : Nat) (hn : n ≤ 200) (x : compactReader) :
    ∃ r', loopO (block_Read.s0 ((n : Int), x)) (0, r.b, r.at_, r.err, []) = some r' ∧ r'.1 = (rpt n tx q).1 ∧ Rep ⟨r'.2.1, r'.2.2.1, r'.2.2.2⟩ (rpt n tx q).2 := by
  refine loop_exists2 (fun i s => s.1 = (i : Int) ∧ Rep ⟨s.2.1, s.2.2.1, s.2.2.2.1⟩ (rpt i tx q).2 ∧ s.2.2.2.2 = (rpt i tx q).1) _ n ⟨rfl, h, rfl⟩ ?_ ?_
  · rintro i hi ⟨s1, s2, s3, s4, s5⟩ ⟨h1, h2, h3⟩
    simp only at h1 h2 h3
    subst h1
    have hl := rpt_len tx i q
    have hsucc := rpt_succ tx i q
    rw [hsucc]
    rw [← h3] at hl ⊢
    generalize (rpt i tx q).2 = z at h2 ⊢
    obtain ⟨r4, e4, p4⟩ := ht _ _ h2
    simp only [block_Read.s0]
    rw [if_pos (by omega), e4, Option.bind_some, if_pos (by omega), wu64 (by omega) (by omega)]
    exact ⟨_, rfl, by simp only; omega, p4, rfl⟩
  · rintro ⟨s1, s2, s3, s4, s5⟩ ⟨h1, h2, h3⟩
    simp only at h1 h2 h3
    subst h1
    simp only [block_Read.s0]
    rw [if_neg (by omega)]
    exact ⟨_, rfl, h3, h2⟩
def zbk : Block := ⟨zhead, []⟩
theorem bread_eqG {hd : Stp Head} {tx : Stp Tx} (hh : ∀ r s, Rep r s → ∃ r', head_Take.f r = some ((hd s).1, r') ∧ Rep r' (hd s).2) (ht : ∀ r s, Rep r s → ∃ r', tx_Take.f r = some ((tx s).1, r') ∧ Rep r' (tx s).2) {b : List Int} (hb : Bs b) (hl : b.length ≤ 1000000) : block_Read.f b = some (if (bkG hd tx (b, .b 0)).2.2 ≠ .b 0 then (zbk, (bkG hd tx (b, .b 0)).2.2) else if 0 < (bkG hd tx (b, .b 0)).2.1.length then (zbk, xErrShape) else ((bkG hd tx (b, .b 0)).1, .b 0)) := by
  obtain ⟨r1, e1, p1⟩ := read_eq hb hl
  obtain ⟨r2, e2, p2⟩ := hh _ _ p1
  simp only [block_Read.f]
  rw [e1, Option.bind_some, e2, Option.bind_some]
  unfold bkG
  rw [bnd_eq]
  generalize hd (b, .b 0) = w1 at *
  obtain ⟨r3, e3, p3⟩ := num_eq p2 200
  have k3 := nm_le 200 w1.2
  rw [show ((200 : Nat) : Int) = 200 from rfl] at k3
  simp only
  rw [e3, Option.bind_some, bnd_eq]
  generalize nm 200 w1.2 = w2 at *
  obtain ⟨r4, e4, q4, p4⟩ := txs_run ht p3 _ k3 r3
  rw [e4, Option.bind_some, bnd_eq]
  generalize rpt w2.1 tx w2.2 = w3 at *
  obtain ⟨c1, c2, c3, c4⟩ := r4
  simp only at q4 p4 ⊢
  generalize hz : ret (⟨w1.1, w3.1⟩ : Block) w3.2 = z
  have z1 : z.1 = ⟨w1.1, c1⟩ := by rw [← hz, q4]; rfl
  have z2 : w3.2 = z.2 := by rw [← hz]; rfl
  rw [z2] at p4
  rw [err_eq p4, Option.bind_some]
  by_cases hc : z.2.2 = .b 0
  · have n1 : ¬ (z.2.2 ≠ .b 0) := fun h => h hc
    rw [if_neg n1, left_eq p4, Option.bind_some, if_neg n1]
    by_cases hp : 0 < z.2.1.length
    · rw [if_pos (show 0 < (z.2.1.length : Int) by omega), if_pos hp]; rfl
    · rw [if_neg (show ¬ 0 < (z.2.1.length : Int) by omega), if_neg hp, z1]
  · rw [if_pos hc, Option.bind_some, if_pos hc]
    rfl
theorem hdX_take {r : compactReader} {s : List Int × Er} (h : Rep r s) : ∃ r', head_Take.f r = some ((hdX s).1, r') ∧ Rep r' (hdX s).2 := by
  have e := htake_eq h
  have hx : hdX s = zX zhead hdM s := rfl
  rw [hx, zX_def, hdM_eq]
  exact e
theorem txX_take {r : compactReader} {s : List Int × Er} (h : Rep r s) : ∃ r', tx_Take.f r = some ((txX s).1, r') ∧ Rep r' (txX s).2 := by
  have e := txtake_eq h
  have hx : txX s = zX ztx txM s := rfl
  rw [hx, zX_def]
  generalize txM s = z at *
  exact e
theorem bread_eq {b : List Int} (hb : Bs b) (hl : b.length ≤ 1000000) : block_Read.f b = some (if (bkM (b, .b 0)).2.2 ≠ .b 0 then (zbk, (bkM (b, .b 0)).2.2) else if 0 < (bkM (b, .b 0)).2.1.length then (zbk, xErrShape) else ((bkM (b, .b 0)).1, .b 0)) := by
  have h := bread_eqG (hd := hdX) (tx := txX) (fun r s h => hdX_take h) (fun r s h => txX_take h) hb hl
  unfold bkM
  exact h
theorem bread_any {b : List Int} (hb : Bs b) (hl : b.length ≤ 1000000) : ∃ u e, block_Read.f b = some (u, e) ∧ (e = .b 0 → be u = b ∧ BkOk u) := by
  have h := bread_eq hb hl
  by_cases hc : (bkM (b, .b 0)).2.2 = .b 0
  · rw [if_neg (fun h => h hc)] at h
    by_cases hz : 0 < (bkM (b, .b 0)).2.1.length
    · rw [if_pos hz] at h
      exact ⟨_, _, h, fun e => absurd e (by decide)⟩
    · rw [if_neg hz] at h
      refine ⟨_, _, h, fun _ => ?_⟩
      obtain ⟨h1, h2⟩ := can_bk b hb hc
      have : (bkM (b, .b 0)).2.1 = [] := List.eq_nil_of_length_eq_zero (by omega)
      rw [this, List.append_nil] at h1
      exact ⟨h1.symm, h2⟩
  · rw [if_pos hc] at h
    exact ⟨_, _, h, fun e => absurd e hc⟩
theorem loop_ends {τ ρ : Type} {step : τ → Option (τ ⊕ ρ)} (I : Nat → τ → Prop) (Post : ρ → Prop) (n : Nat) {s : τ} (h0 : I 0 s) (h : ∀ i, i < n → ∀ s, I i s → (∃ s', step s = some (.inl s') ∧ I (i + 1) s') ∨ ∃ r, step s = some (.inr r) ∧ Post r) (hn : ∀ s, I n s → ∃ r, step s = some (.inr r) ∧ Post r) : ∃ r, loopO step s = some r ∧ Post r := by
  have key : ∀ m k s, k + m = n → I k s → ∃ r, loopO step s = some r ∧ Post r := by
    intro m
    induction m with
    | zero =>
      intro k s e hI
      obtain ⟨r, h1, h2⟩ := hn s (by rw [← e]; exact hI)
      exact ⟨r, loopO_inr h1, h2⟩
    | succ m ih =>
      intro k s e hI
      rcases h k (by omega) s hI with ⟨s', h1, h2⟩ | ⟨r, h1, h2⟩
      · rw [loopO_inl h1]
        exact ih (k + 1) s' (by omega) h2
      · exact ⟨r, loopO_inr h1, h2⟩
  exact key n 0 s (by omega) h0
theorem parts_any {b : Block} (h : TsOk b.Txs) : ∃ e, block_parts.f b = some e ∧ (e = .b 0 → ∀ i, i < b.Txs.length → ck (b.Txs.getD i default) = .b 0) := by
  have hn := h.n
  simp only [block_parts.f]
  have h1 : ∃ e, loopO (block_parts.s1 b) 0 = some e ∧ ∃ e' : Er, e = Sum.inr e' := loop_ends (fun i s => s = (i : Int)) (fun (e : Int ⊕ Er) => ∃ e' : Er, e = Sum.inr e') b.Txs.length rfl (fun i hi s hs => by
    subst hs
    simp only [block_parts.s1, Int.toNat_natCast]
    rw [if_pos (by omega), if_pos (by omega), base_eq, Option.bind_some]
    by_cases c : decide (isBase (b.Txs.getD i default)) ≠ decide ((i : Int) = 0)
    · rw [if_pos c]; exact .inr ⟨_, rfl, _, rfl⟩
    · rw [if_neg c]; exact .inl ⟨_, rfl, winc i (by omega)⟩) (fun s hs => by
    subst hs
    simp only [block_parts.s1]
    rw [if_neg (by omega)]
    exact ⟨_, rfl, _, rfl⟩)
  obtain ⟨_, e1, e', rfl⟩ := h1
  refine loop_ends (fun i s => s = (i : Int) ∧ ∀ j, j < i → ck (b.Txs.getD j default) = .b 0) _ b.Txs.length ⟨rfl, fun j hj => by omega⟩ (fun i hi s hs => ?_) (fun s hs => ?_)
  · obtain ⟨rfl, hs⟩ := hs
    have hm := getD_mem (l := b.Txs) (d := default) hi
    simp only [block_parts.s0, Int.toNat_natCast]
    rw [if_pos (by omega), if_pos (by omega), check_eq (h.ok _ hm) (h.few _ hm), Option.bind_some]
    by_cases c : ck (b.Txs.getD i default) = .b 0
    · rw [if_neg (fun h => h c)]
      refine .inl ⟨_, rfl, winc i (by omega), fun j hj => ?_⟩
      rcases Nat.lt_or_ge j i with h2 | h2
      · exact hs j h2
      · obtain rfl : j = i := by omega
        exact c
    · rw [if_pos c]
      exact .inr ⟨_, rfl, fun e => by cases e⟩
  · obtain ⟨rfl, hs⟩ := hs
    simp only [block_parts.s0]
    rw [if_neg (by omega), e1]
    exact ⟨_, rfl, fun _ => hs⟩
theorem twice_any {b : Block} (h : TsOk b.Txs) : ∃ r, block_twice.f b = some r := by
  have hn := h.n
  simp only [block_twice.f]
  rw [ids_eq h, Option.bind_some]
  have hl : (b.Txs.map idt).length = b.Txs.length := by simp
  generalize b.Txs.map idt = ids at *
  obtain ⟨r, h1, _⟩ := loop_ends (step := block_twice.s0 b ids) (fun i (s : Int × (List (Point × Bool)) × (List ((List Int) × Bool))) => s.1 = (i : Int)) (fun _ => True) ids.length (s := (0, [], [])) rfl (fun i hi s hs => by
    obtain ⟨s1, s2, s3⟩ := s
    simp only at hs
    subst hs
    have hm := getD_mem (l := b.Txs) (d := default) (show i < b.Txs.length by omega)
    have hf := (h.few _ hm).ins
    simp only [block_twice.s0, Int.toNat_natCast]
    rw [if_pos (by omega), if_pos (by omega), if_pos (show 0 ≤ (i : Int) ∧ (i : Int) < (b.Txs.length : Int) by omega)]
    by_cases c : ((mget s3 (ids.getD i [])).getD false) = true
    · rw [if_pos c]; exact .inr ⟨_, rfl, trivial⟩
    · rw [if_neg c]
      obtain ⟨q, e1, e2⟩ := loop_ends (step := block_twice.s1 b ids (i : Int) s3) (fun j (s : Int × List (Point × Bool)) => s.1 = (j : Int)) (fun q => (∃ m1 m2, q = .inl (((i + 1 : Nat) : Int), m1, m2)) ∨ q = .inr true) (b.Txs.getD i default).Ins.length (s := (0, s2)) rfl (fun j hj s hs => by
        obtain ⟨t1, t2⟩ := s
        simp only at hs
        subst hs
        simp only [block_twice.s1, Int.toNat_natCast]
        rw [if_pos (by omega), if_pos (by omega)]
        by_cases d : ((mget t2 (((b.Txs.getD i default).Ins.getD j default).From)).getD false) = true
        · rw [if_pos d]; exact .inr ⟨_, rfl, .inr rfl⟩
        · rw [if_neg d]; exact .inl ⟨_, rfl, winc j (by omega)⟩) (fun s hs => by
        obtain ⟨t1, t2⟩ := s
        simp only at hs
        subst hs
        simp only [block_twice.s1, Int.toNat_natCast]
        rw [if_neg (by omega), winc i (by omega)]
        exact ⟨_, rfl, .inl ⟨_, _, rfl⟩⟩)
      rcases e2 with ⟨m1, m2, rfl⟩ | rfl
      · exact .inl ⟨_, e1, rfl⟩
      · exact .inr ⟨_, e1, trivial⟩) (fun s hs => by
    obtain ⟨s1, s2, s3⟩ := s
    simp only at hs
    subst hs
    simp only [block_twice.s0]
    rw [if_neg (by omega)]
    exact ⟨_, rfl, trivial⟩)
  exact ⟨r, h1⟩
theorem check_any {h : HN} (o : h.Ok) {l : List Tx} (k : TsOk l) : ∃ e, block_Check.f ⟨h.h, l⟩ = some e ∧ (e = .b 0 → l.length ≤ 200 ∧ (bb h l).length ≤ 20000 ∧ ∀ t ∈ l, ck t = .b 0) := by
  simp only [block_Check.f]
  rw [hcheck_eq, Option.bind_some]
  by_cases c0 : h.w = 0 ∨ 16777216 < h.w
  · rw [if_pos c0, if_pos (by decide)]
    exact ⟨_, rfl, fun e => absurd e (by decide)⟩
  rw [if_neg c0, if_neg (fun h => h rfl)]
  obtain ⟨p, e1, hp⟩ := parts_any (b := ⟨h.h, l⟩) k
  obtain ⟨t, e2⟩ := twice_any (b := ⟨h.h, l⟩) k
  by_cases c1 : l.length = 0
  · rw [if_pos (by omega), Option.bind_some, if_pos rfl]
    exact ⟨_, rfl, fun e => absurd e (by decide)⟩
  rw [if_neg (by omega), Option.bind_some]
  by_cases c2 : 200 < l.length
  · rw [if_pos (decide_eq_true (by omega))]
    exact ⟨_, rfl, fun e => absurd e (by decide)⟩
  rw [if_neg (by simp only [decide_eq_true_eq]; omega), bsize_eq o k, Option.bind_some]
  by_cases c3 : 20000 < (bb h l).length
  · rw [if_pos (by omega)]
    exact ⟨_, rfl, fun e => absurd e (by decide)⟩
  rw [if_neg (by omega), e1, Option.bind_some]
  by_cases c4 : p = .b 0
  · rw [if_neg (fun h => h c4), e2, Option.bind_some]
    have hall : ∀ t ∈ l, ck t = .b 0 := (all_getD l default fun t => ck t = .b 0).1 (hp c4)
    by_cases c5 : t = true
    · rw [if_pos c5]
      exact ⟨_, rfl, fun e => absurd e (by decide)⟩
    · rw [if_neg c5, broot_eq (b := ⟨h.h, l⟩) k, Option.bind_some]
      split
      · exact ⟨_, rfl, fun e => absurd e (by decide)⟩
      · exact ⟨_, rfl, fun _ => ⟨by omega, by omega, hall⟩⟩
  · rw [if_pos c4]
    exact ⟨_, rfl, fun e => absurd e c4⟩
end Go.Proofs.YtlpggofilkfbnaaDoor.T
namespace Go.Proofs.YtlpggofilkfbnaaDoor.T
open Go Go.Proofs Go.Proofs.YtlpggofilkfbnaaDoor.K
set_option linter.unusedVariables false
set_option linter.unusedSimpArgs false
theorem light7 (b : Block) : ∃ r, sargassolaw7_light.f b = some r ∧ (r = true → b.Txs.length ≤ 210 ∧ ∀ t ∈ b.Txs, Few 60 100 t) := by
  simp only [sargassolaw7_light.f]
  by_cases c : 210 < b.Txs.length
  · rw [if_pos (by omega)]
    exact ⟨_, rfl, fun e => by cases e⟩
  rw [if_neg (by omega)]
  obtain ⟨r, h1, h2⟩ := loop_ends (step := sargassolaw7_light.s0 b) (fun i (s : Int × Int) => s.2 = (i : Int) ∧ (0 ≤ s.1 ∧ s.1 ≤ 120 * (i : Int)) ∧ ∀ j, j < i → Few 60 100 (b.Txs.getD j default)) (fun r => r = true → ∀ j, j < b.Txs.length → Few 60 100 (b.Txs.getD j default)) b.Txs.length (s := (0, 0)) ⟨rfl, by simp, fun j hj => by omega⟩ (fun i hi s hs => by
    obtain ⟨s1, s2⟩ := s
    obtain ⟨h1, h2, h3⟩ := hs
    simp only at h1 h2
    subst h1
    simp only [sargassolaw7_light.s0, Int.toNat_natCast]
    rw [if_pos (by omega), if_pos (show 0 ≤ (i : Int) ∧ (i : Int) < (b.Txs.length : Int) by omega)]
    by_cases c1 : 60 < (b.Txs.getD i default).Ins.length
    · rw [if_pos (by omega), Option.bind_some, if_pos rfl]
      exact .inr ⟨_, rfl, fun e => by cases e⟩
    rw [if_neg (by omega), Option.bind_some]
    by_cases c2 : 60 < (b.Txs.getD i default).Outs.length
    · rw [if_pos (decide_eq_true (by omega))]
      exact .inr ⟨_, rfl, fun e => by cases e⟩
    rw [if_neg (by simp only [decide_eq_true_eq]; omega)]
    obtain ⟨q, e1, e2⟩ := loop_ends (step := sargassolaw7_light.s1 b s1 (i : Int)) (fun j (s : Int) => s = (j : Int) ∧ ∀ k, k < j → ((b.Txs.getD i default).Ins.getD k default).Key.length ≤ 100) (fun q => (q = .inl (s1 + ((b.Txs.getD i default).Ins.length : Int) + ((b.Txs.getD i default).Outs.length : Int), ((i + 1 : Nat) : Int)) ∧ ∀ k, k < (b.Txs.getD i default).Ins.length → ((b.Txs.getD i default).Ins.getD k default).Key.length ≤ 100) ∨ q = .inr false) (b.Txs.getD i default).Ins.length (s := 0) ⟨rfl, fun k hk => by omega⟩ (fun j hj s hs => by
      obtain ⟨rfl, hs⟩ := hs
      simp only [sargassolaw7_light.s1, Int.toNat_natCast]
      rw [if_pos (by omega), if_pos (by omega)]
      by_cases d : 100 < ((b.Txs.getD i default).Ins.getD j default).Key.length
      · rw [if_pos (by omega)]; exact .inr ⟨_, rfl, .inr rfl⟩
      · rw [if_neg (by omega)]
        refine .inl ⟨_, rfl, winc j (by omega), fun k hk => ?_⟩
        rcases Nat.lt_or_ge k j with h | h
        · exact hs k h
        · obtain rfl : k = j := by omega
          omega) (fun s hs => by
      obtain ⟨rfl, hs⟩ := hs
      simp only [sargassolaw7_light.s1, Int.toNat_natCast]
      rw [if_neg (by omega), w64 (x := s1 + ((b.Txs.getD i default).Ins.length : Int)) (by omega) (by omega), w64 (x := s1 + ((b.Txs.getD i default).Ins.length : Int) + ((b.Txs.getD i default).Outs.length : Int)) (by omega) (by omega), winc i (by omega)]
      exact ⟨_, rfl, .inl ⟨rfl, hs⟩⟩)
    rcases e2 with ⟨rfl, e2⟩ | rfl
    · refine .inl ⟨_, e1, rfl, by simp only; omega, fun j hj => ?_⟩
      rcases Nat.lt_or_ge j i with h | h
      · exact h3 j h
      · obtain rfl : j = i := by omega
        exact ⟨by omega, by omega, (all_getD _ default fun x : In => x.Key.length ≤ 100).1 e2⟩
    · exact .inr ⟨_, e1, fun e => by cases e⟩) (fun s hs => by
    obtain ⟨s1, s2⟩ := s
    obtain ⟨h1, h2, h3⟩ := hs
    simp only at h1 h2
    subst h1
    simp only [sargassolaw7_light.s0]
    rw [if_neg (by omega)]
    exact ⟨_, rfl, fun _ => h3⟩)
  exact ⟨r, h1, fun e => ⟨by omega, (all_getD b.Txs default fun t => Few 60 100 t).1 (h2 e)⟩⟩
theorem bs_tbs {l : List Tx} (h : ∀ t ∈ l, TxOk t) : Bs (tbs l) := bs_flat fun x hx => by
  obtain ⟨t, ht, rfl⟩ := List.mem_map.1 hx
  exact bs_tb (h t ht)
theorem bs_bb {h : HN} (hp : Bs h.p) (hr : Bs h.r) {l : List Tx} (hl : ∀ t ∈ l, TxOk t) : Bs (bb h l) := by
  unfold bb hb
  exact ((bs_lb _ _).app (hp.app (hr.app ((bs_lb _ _).app ((bs_lb _ _).app (bs_lb _ _)))))).app ((bs_pt _).app (bs_tbs hl))
theorem sargassolaw7_BlockBack.m (μ : Store) (x0 : Block) (v0 : Value) (h0 : BlockW μ x0 v0) (x1 : List Int) (u1 : Value) (h1 : Slc (RI .u8) 1 μ u1 x1) (x2 : Int) (h2 : InR .i64 x2) : sargassolaw7_BlockBack.f x0 x1 x2 = some true := by
  obtain ⟨w1, w2, w3, w4, w5, w6, cs, w7, _⟩ := h0
  have tok : ∀ t ∈ x0.Txs, TxOk t := els_all w7 fun y c hc => by
    obtain ⟨_, _, _, h⟩ := hc
    exact tx_ok h
  obtain ⟨h, eh, ho⟩ := hn_of (μ := μ) (x := x0.Head) ⟨w1, w2, w3, w4, w5, w6⟩
  have hp : Bs h.p := by
    have : x0.Head.Prev = h.p := by rw [eh]; rfl
    rw [← this]; exact w2.2
  have hr : Bs h.r := by
    have : x0.Head.Root = h.r := by rw [eh]; rfl
    rw [← this]; exact w3.2
  obtain ⟨hd, l⟩ := x0
  simp only at eh tok
  subst eh
  have hb : Bs x1 := fun x hx => slc_ints h1 x hx
  simp only [sargassolaw7_BlockBack.f]
  obtain ⟨r, er, hl⟩ := light7 ⟨h.h, l⟩
  rw [first7, Option.bind_some, if_pos rfl, er, Option.bind_some]
  by_cases c1 : r = true
  · obtain ⟨ln, lf⟩ := hl c1
    have lf : ∀ t ∈ l, Few 60 100 t := lf
    have ln : l.length ≤ 210 := ln
    have ts : TsOk l := ⟨by omega, tok, lf⟩
    rw [if_pos c1, Option.bind_some]
    by_cases c2 : 8000 < x1.length
    · rw [if_pos (by simp only [decide_eq_true_eq]; omega)]
    rw [if_neg (by simp only [decide_eq_true_eq]; omega)]
    obtain ⟨u, e, e1, hu⟩ := bread_any hb (by omega)
    rw [e1, Option.bind_some]
    have c3 : (if e = Er.b 0 then ((block_Bytes.f u).bind fun r4 => ((sargassoref_SameBytes.f r4 x1).bind fun r5 => some (!r5))) else some false) = some false := by
      by_cases he : e = .b 0
      · obtain ⟨k1, ⟨y, ey, yo, _, _⟩, kn, kt⟩ := hu he
        obtain ⟨ud, ul⟩ := u
        simp only at ey kn kt
        subst ey
        rw [be_bb] at k1
        rw [if_pos he, bbytes_eq yo ⟨by omega, fun t ht => (kt t ht).1, fun t ht => (kt t ht).2.mono (by omega) (by omega)⟩, k1, Option.bind_some, samebytes_eq _ (by omega), Option.bind_some]
        rfl
      · rw [if_neg he]
    have h80 := hb_len ho
    have h81 : 81 ≤ (bb h l).length := by
      have := (ln_le l.length).1
      simp only [bb, List.length_append, h80, pt_len]; omega
    obtain ⟨ce, ec, hc⟩ := check_any ho ts
    rw [c3, Option.bind_some, if_neg (by decide), bbytes_eq ho ts, Option.bind_some, if_neg (by omega), ec, Option.bind_some]
    by_cases c4 : ce = .b 0
    · obtain ⟨m1, m2, m3⟩ := hc c4
      have hall : ∀ t ∈ l, TxOk t ∧ Few 50 80 t := fun t ht => ⟨tok t ht, ck_few (m3 t ht)⟩
      have bbs : Bs (bb h l) := bs_bb hp hr tok
      obtain ⟨y, ey, y0, y1⟩ := number_eq h2 (show (0 : Int) < ((bb h l).length : Int) by omega) (by omega)
      have q1 := bk_read ho hp hr m1 hall []
      rw [List.append_nil] at q1
      have r1 : block_Read.f (bb h l) = some (⟨h.h, l⟩, .b 0) := by
        rw [bread_eq bbs (by omega), q1]
        rfl
      have r2 : block_Read.f ((bb h l).take y.toNat) = some (zbk, xErrEnd) := by
        have q2 := bk_cut ho hp hr m1 hall y.toNat (by omega)
        rw [bread_eq (bbs.take _) (by rw [List.length_take]; omega)]
        generalize bkM ((bb h l).take y.toNat, .b 0) = z at *
        rw [q2, if_pos (by decide)]
      have r3 : block_Read.f (bb h l ++ [0]) = some (zbk, xErrShape) := by
        rw [bread_eq (bbs.app (fun x hx => by
          obtain rfl : x = 0 := by simpa using hx
          simp [InR])) (by rw [List.length_append]; simp; omega), bk_read ho hp hr m1 hall [0]]
        rfl
      have s1 : sargassosee_Is.f xErrEnd 101 = some true := by rw [is_end]; rfl
      have s2 : sargassosee_Is.f xErrShape 102 = some true := by rw [is_shape]; rfl
      rw [if_neg (fun h => h c4), r1, Option.bind_some, ey, Option.bind_some, if_pos (by omega), show Int.toNat 0 = 0 from rfl, List.drop_zero, r2, Option.bind_some, bytes_eq _ (by omega), Option.bind_some, if_pos (by omega), r3, Option.bind_some, if_pos rfl, if_pos rfl, sameblock_self ho ts, Option.bind_some, if_pos rfl, s1, Option.bind_some, if_pos rfl, s2]
      rfl
    · rw [if_pos c4]
  · rw [if_neg c1, Option.bind_some, if_pos rfl]
end Go.Proofs.YtlpggofilkfbnaaDoor.T
namespace Go.Proofs.YtlpggofilkfbnaaDoor.K
open Go Go.Proofs Go.ChangeShapes Go.WideShapes Go.RowKit
def mem (w : World) : Store := fun k => w.heap[k]?
theorem agr_mem (w : World) : Agr (mem w) w := fun _ _ h => h
theorem mem_cell {w : World} {g i : Nat} {v : Value} (h : w.cell? ⟨g, i, none⟩ = some v) : (mem w).cell g i = some v := by
  unfold World.cell? at h
  unfold Store.cell mem
  cases hm : w.heap[g]? with
  | none => simp [hm] at h
  | some o => cases o <;> simp_all
theorem wf_in {k : IntKind} {n : Int} (h : (Lit.int k n).wf = true) : InR k n := by
  cases k <;> simp [Lit.wf, IntKind.min, IntKind.max, IntKind.signed, IntKind.bits] at h <;> simp [InR] <;> omega
section
variable {H : Type} {enc : TypeId × Value → H} {P : Program} {w : World} {base : Nat} {spare : Nat → Bool} {held : Bool} {t e : TypeId}
def Rd (enc : TypeId × Value → H) (P : Program) (w : World) (base : Nat) (spare : Nat → Bool) (held : Bool) (t : TypeId) (R : List Value → Prop) : Prop :=
  ∀ fuel cs x, DataW.trod enc P w base spare held fuel t cs = some x → R cs
theorem rd_int {k : IntKind} (ht : P.underlying t = some (.int k)) : Rd enc P w base spare held t (fun c => ∃ n, RI k n c) := by
  intro fuel cs x h
  obtain ⟨n, rfl, _, hw⟩ := DataW.trod_int ht h
  exact ⟨n, rfl, wf_in hw⟩
theorem rd_array {k : IntKind} {n : Nat} (ht : P.underlying t = some (.array n e)) (he : P.underlying e = some (.int k)) (hc : P.cellsOf e = 1) (hn : P.cellsOf t = n) :
    Rd enc P w base spare held t (fun c => ∃ xs, RA k n xs c) := by
  intro fuel cs x h
  obtain ⟨xs, m, _, _, hl, hx, hf⟩ := DataW.trod_array ht h
  rw [hn] at hl
  have each : ∀ i, i < n → ∃ z, cs[i]? = some (.int k z) ∧ InR k z := by
    intro i hi
    have h1 := hf i hi
    rw [hc, Nat.mul_one, List.getElem?_eq_getElem (by omega)] at h1
    obtain ⟨z, hz, _, hw⟩ := DataW.trod_int he h1
    refine ⟨z, ?_, wf_in hw⟩
    have := congrArg (·[0]?) hz
    simpa using this
  refine ⟨cs.map fun v => match v with | .int _ z => z | _ => 0, ?_, ?_, ?_⟩
  · simp only [List.flatten_cons, List.flatten_nil, List.append_nil]
    apply List.ext_getElem?
    intro i
    by_cases hi : i < n
    · obtain ⟨z, hz, _⟩ := each i hi
      rw [av_get _ _ _ hi, hz]
      simp [List.getD, hz]
    · rw [List.getElem?_eq_none (by omega), List.getElem?_eq_none (by rw [av_len]; omega)]
  · simpa using hl
  · intro y hy
    obtain ⟨v, hv, rfl⟩ := List.mem_map.1 hy
    obtain ⟨i, hi, rfl⟩ := List.getElem_of_mem hv
    obtain ⟨z, hz, hr⟩ := each i (by omega)
    rw [List.getElem?_eq_getElem hi] at hz
    rw [Option.some.inj hz]
    exact hr
theorem els_of {α : Type} {RE : α → List Value → Prop} {sz : Nat} : ∀ {n : Nat} {Q : Nat → Value → Prop}, (∀ i, i < n → ∃ x c, RE x c ∧ c.length = sz ∧ ∀ j v, c[j]? = some v → Q (i * sz + j) v) →
    ∃ xs cs, xs.length = n ∧ Els RE sz xs cs ∧ ∀ j v, cs[j]? = some v → Q j v
  | 0, _, _ => ⟨[], [], rfl, .nil, fun j v h => by simp at h⟩
  | n + 1, Q, f => by
    obtain ⟨x, c, h1, h2, h3⟩ := f 0 (by omega)
    obtain ⟨xs, cs, e1, e2, e3⟩ := els_of (n := n) (Q := fun m v => Q (sz + m) v) (fun i hi => by
      obtain ⟨x, c, h1, h2, h3⟩ := f (i + 1) (by omega)
      refine ⟨x, c, h1, h2, fun j v hj => ?_⟩
      have := h3 j v hj
      rwa [Nat.add_mul, Nat.one_mul, Nat.add_comm (i * sz), Nat.add_assoc] at this)
    refine ⟨x :: xs, c ++ cs, by simp [e1], .cons h1 h2 e2, fun j v hj => ?_⟩
    rcases Nat.lt_or_ge j c.length with h | h
    · rw [List.getElem?_append_left h] at hj
      simpa using h3 j v hj
    · rw [List.getElem?_append_right h] at hj
      have := e3 _ _ hj
      rwa [h2, Nat.add_sub_cancel' (by omega)] at this
theorem rd_slice {α : Type} {RE : α → List Value → Prop} {sz : Nat} (ht : P.underlying t = some (.slice e)) (hc : P.cellsOf e = sz) (h0 : 0 < sz) (hr : Rd enc P w base spare held e (fun c => ∃ x, RE x c)) :
    Rd enc P w base spare held t (fun c => ∃ v xs, c = [v] ∧ Slc RE sz (mem w) v xs) := by
  intro fuel cs x h
  rcases DataW.trod_slice ht h with ⟨rfl, _⟩ | ⟨a, len, cap, elems, rest, n, _, rfl, _, _, hl, hm, hlen, hel, _, _⟩
  · exact ⟨_, [], rfl, [], .nil, none, 0, rfl, Nat.le_refl _, Nat.zero_le _, fun h => absurd rfl h, fun h => absurd rfl h⟩
  have each0 : ∀ i, i < len → ∃ x c, RE x c ∧ c.length = sz ∧ ∀ j, j < sz → w.cell? ((a.add (i * sz)).add j) = c[j]? := by
    intro i hi
    have h1 := hel i hi
    rw [List.getElem?_eq_getElem (by omega), hc] at h1
    obtain ⟨c, hc1, hc2⟩ := Option.bind_eq_some_iff.1 h1
    obtain ⟨_, l1, l2⟩ := World.cells?_some hc1
    obtain ⟨x, hx⟩ := hr _ _ _ hc2
    exact ⟨x, c, hx, l1, l2⟩
  have hs : 0 < len → a.spot = none := by
    intro hp
    obtain ⟨x, c, _, l1, l2⟩ := each0 0 hp
    have h2 := (l2 0 h0).trans (List.getElem?_eq_getElem (by omega))
    simpa [Addr.add] using World.cell?_spot h2
  obtain ⟨b, off, spot⟩ := a
  simp only at hs
  have each : ∀ i, i < len → ∃ x c, RE x c ∧ c.length = sz ∧ ∀ j v, c[j]? = some v → (fun m v => w.cell? ⟨b, off + m, none⟩ = some v) (i * sz + j) v := by
    intro i hi
    obtain ⟨x, c, hx, l1, l2⟩ := each0 i hi
    refine ⟨x, c, hx, l1, fun j v hj => ?_⟩
    have hjl : j < sz := by
      have := (List.getElem?_eq_some_iff.1 hj).1
      omega
    have h2 := (l2 j hjl).trans hj
    rw [hs (by omega), add_plain, add_plain] at h2
    simpa [Nat.add_assoc] using h2
  obtain ⟨xs, cs, e1, e2, e3⟩ := els_of (RE := RE) (sz := sz) (Q := fun m v => w.cell? ⟨b, off + m, none⟩ = some v) each
  refine ⟨_, xs, rfl, cs, e2, some ⟨b, off, spot⟩, cap, by rw [e1], by omega, hm, fun hn => by rw [hs (by omega)]; rfl, fun hn j v hj => mem_cell (e3 j v hj)⟩
theorem rd_struct {fs : Array Field} {fuel : Nat} {cs : List Value} {x : DataW H × List MemPlace} (ht : P.underlying t = some (.struct fs)) (h : DataW.trod enc P w base spare held fuel t cs = some x) :
    cs.length = P.cellsOf t ∧ ∀ (i : Nat) (f : Field), fs[i]? = some f → ∃ n y, DataW.trod enc P w base spare held n f.type ((cs.drop f.offset).take (P.cellsOf f.type)) = some y := by
  obtain ⟨xs, n, _, _, hl, hx, hf⟩ := DataW.trod_struct ht h
  refine ⟨hl, fun i f hi => ?_⟩
  have h1 := hf i f hi
  have : i < fs.size := (Array.getElem?_eq_some_iff.1 hi).1
  rw [List.getElem?_eq_getElem (by omega)] at h1
  exact ⟨n, _, h1⟩
theorem chop {α : Type} (cs : List α) (o n m : Nat) (h : o + n = m) : cs.drop o = (cs.drop o).take n ++ cs.drop m := by
  subst h
  rw [← List.drop_drop, List.take_append_drop]
theorem rd_at {R : List Value → Prop} {v : Value} {d : DataW H} {ps : List MemPlace} (hr : Rd enc P w base spare held t R) (h : DataW.Trod enc P w base spare held t v d ps) : R v.cells.toList := by
  obtain ⟨fuel, hf⟩ := h
  exact hr _ _ _ hf
theorem at_slice {α : Type} {RE : α → List Value → Prop} {sz : Nat} {r : Reach} {b0 : Nat} {v : Value} {d : DataW H} {ps : List MemPlace} (ht : P.underlying t = some (.slice e)) (hval : Value.okWide P w r b0 t v)
    (hr : Rd enc P w base spare held t (fun c => ∃ v xs, c = [v] ∧ Slc RE sz (mem w) v xs)) (h : DataW.Trod enc P w base spare held t v d ps) : ∃ xs, Slc RE sz (mem w) v xs := by
  obtain ⟨a, len, cap, rfl⟩ := okWide_slice ht hval
  obtain ⟨u, xs, e1, h2⟩ := rd_at hr h
  simp [Value.cells] at e1
  subst e1
  exact ⟨xs, h2⟩
theorem at_agg {R : List Value → Prop} {v : Value} {d : DataW H} {ps : List MemPlace} (hv : ∃ cs, v = .agg cs) (hr : Rd enc P w base spare held t R) (h : DataW.Trod enc P w base spare held t v d ps) : ∃ cs : List Value, v = .agg cs.toArray ∧ R cs := by
  obtain ⟨cs, rfl⟩ := hv
  exact ⟨cs.toList, by simp, rd_at hr h⟩
theorem agg_struct {fs : Array Field} {r : Reach} {b0 : Nat} {v : Value} (ht : P.underlying t = some (.struct fs)) (hval : Value.okWide P w r b0 t v) : ∃ cs, v = .agg cs := let ⟨cs, h, _⟩ := okWide_struct ht hval; ⟨cs, h⟩
theorem again {W W' : World} {v : Value} {d : DataW H} {ps : List MemPlace} (hl : laidOutB P = true) (hr : P.readableRec t = true) (hrow : t < P.types.size) (h : DataW.Trod enc P W 0 (fun _ => true) true t v d ps) (hb : Below W.heap.size W W') :
    DataW.Trod enc P W' 0 (fun b => decide (b < W.heap.size)) true t v d ps :=
  Below.trod hl hr hrow h hb (fun p hp => let ⟨n, hn⟩ := h; DataW.trod_lt n _ _ _ hn p hp)
end
end Go.Proofs.YtlpggofilkfbnaaDoor.K
namespace Go.Proofs.YtlpggofilkfbnaaDoor.K
open Go Go.Proofs
set_option linter.unusedVariables false
theorem laid_each {P : Program} {W : World} : ∀ {l : List (String × DataW Unit)} {ps : List MemPlace}, DataW.LaidVars P W l ps → ∀ {n : String} {d : DataW Unit}, (n, d) ∈ l →
    ∃ g t cs fuel p, P.globalNamed n = some g ∧ (P.globals[g]?).map (·.type) = some t ∧ W.var? P n = some cs ∧ DataW.trod (fun _ => ()) P W 0 (fun _ => true) false fuel t cs.toList = some (d, p) ∧ ∀ x ∈ MemPlace.row ⟨g, 0, none⟩ cs.size ++ p, x ∈ ps
  | [], ps, h, n, d, hm => by cases hm
  | (m, e) :: r, ps, h, n, d, hm => by
    obtain ⟨g, t, cs, fuel, p, q, hg, ht, hv, hd, hr, rfl⟩ := h
    rcases List.mem_cons.1 hm with e1 | hm
    · cases e1
      exact ⟨g, t, cs, fuel, p, hg, ht, hv, hd, fun x hx => List.mem_append_left _ hx⟩
    · obtain ⟨g', t', cs', fuel', p', a1, a2, a3, a4, a5⟩ := laid_each hr hm
      exact ⟨g', t', cs', fuel', p', a1, a2, a3, a4, fun x hx => List.mem_append_right _ (a5 x hx)⟩
theorem sent_of_laid {P : Program} {W : World} {laid : List (String × DataW Unit)} {code : ByteArray → Nat} {n : String} {text : List UInt8} {g : Nat} {ti tp ta te ts : TypeId} {ms : Array (String × TypeId)} {f : Field}
    (h : laidMet P laid W) (hm : (n, .iface "*errors.errorString" (.ptr (.agg [.lit (.string text)]))) ∈ laid) (hg : P.globalNamed n = some g) (ht : (P.globals[g]?).map (·.type) = some ti)
    (hi : P.underlying ti = some (.interface ms)) (hrow : ∀ u, P.typeName? 3 u = some "*errors.errorString" → u = tp) (hp : P.underlying tp = some (.pointer te)) (he : P.underlying te = some (.struct #[f])) (hft : f.type = ts) (hfo : f.offset = 0) (hs : P.underlying ts = some .string) (hc : P.cellsOf te = 1) (hcs : P.cellsOf ts = 1)
    (hcode : ∀ s : ByteArray, s.data.toList = text → code s = g + 1) : ∃ v, ErV tp ta code (mem W) (.b (g + 1)) v := by
  obtain ⟨ps, hl, hnd, hrows⟩ := h
  obtain ⟨g', t', cs, fuel, p, a1, a2, a3, a4, a5⟩ := laid_each hl hm
  obtain rfl := Option.some.inj (hg.symm.trans a1)
  obtain rfl := Option.some.inj (ht.symm.trans a2)
  obtain ⟨l⟩ := cs
  have ok : ∀ u v, l = [.iface u v] → Value.okWide P W .any 0 u v := fun u v e => by
    subst e
    exact (hrows g 0 (a5 _ (by simp [MemPlace.row]))).2 u v (by simpa using World.var?_cell hg a3 0)
  obtain ⟨a, s, rfl, hcell, hst, hz, rfl⟩ := errorString_of_trod hi hrow hp he hft hfo hs hc hcs a4 ok
  obtain ⟨c, t, hb⟩ := (hrows a.block a.off (a5 _ (by simp [MemPlace.row]))).1
  refine ⟨.iface tp (.pointer (some a)), .inr ⟨by omega, mem_cell (by simpa using World.var?_cell hg a3 0), a, s, c, t, rfl, hb, hcode s hst, fun w hw => ?_⟩⟩
  have e : w.heap[a.block]? = W.heap[a.block]? := (hw _ _ hb).trans hb.symm
  unfold World.cell? at hcell ⊢
  rw [e]
  exact hcell
end Go.Proofs.YtlpggofilkfbnaaDoor.K
namespace Go.Proofs.YtlpggofilkfbnaaDoor.T
open Go Go.Proofs Go.Proofs.YtlpggofilkfbnaaDoor.K
set_option linter.unusedVariables false
set_option linter.unusedSimpArgs false
set_option maxRecDepth 100000
theorem own : ownKnob Tryd.prog.godebug = none := by kernel_rfl
noncomputable def low : Nat := (World.holding Tryd.prog default ⟨#[], #[], []⟩).heap.size
abbrev es0 : ByteArray := { data := #[116, 111, 111, 32, 109, 97, 110, 121, 44, 32, 111, 114, 32, 116, 111, 111, 32, 102, 101, 119] }
abbrev es1 : ByteArray := { data := #[116, 111, 111, 32, 108, 111, 110, 103] }
abbrev es2 : ByteArray := { data := #[111, 110, 101, 32, 116, 104, 105, 110, 103, 32, 116, 119, 105, 99, 101] }
abbrev es3 : ByteArray := { data := #[97, 32, 114, 111, 111, 116, 32, 116, 104, 97, 116, 32, 100, 111, 101, 115, 32, 110, 111, 116, 32, 102, 105, 116] }
abbrev es4 : ByteArray := { data := #[110, 111, 116, 32, 97, 115, 32, 105, 116, 32, 104, 97, 115, 32, 116, 111, 32, 98, 101] }
abbrev es5 : ByteArray := { data := #[97, 32, 110, 117, 109, 98, 101, 114, 32, 111, 117, 116, 32, 111, 102, 32, 105, 116, 115, 32, 114, 97, 110, 103, 101] }
abbrev es6 : ByteArray := { data := #[110, 111, 32, 102, 105, 114, 115, 116, 32, 116, 114, 97, 110, 115, 97, 99, 116, 105, 111, 110, 32, 119, 104, 101, 114, 101, 32, 116, 104, 101, 114, 101, 32, 104, 97, 115, 32, 116, 111, 32, 98, 101, 32, 111, 110, 101, 44, 32, 111, 114, 32, 111, 110, 101, 32, 119, 104, 101, 114, 101, 32, 116, 104, 101, 114, 101, 32, 109, 97, 121, 32, 98, 101, 32, 110, 111, 110, 101] }
abbrev es7 : ByteArray := { data := #[97, 32, 107, 101, 121, 32, 116, 104, 97, 116, 32, 100, 111, 101, 115, 32, 110, 111, 116, 32, 102, 105, 116] }
abbrev es8 : ByteArray := { data := #[97, 110, 32, 97, 109, 111, 117, 110, 116, 32, 116, 104, 97, 116, 32, 99, 97, 110, 39, 116, 32, 98, 101] }
abbrev es9 : ByteArray := { data := #[105, 116, 32, 101, 110, 100, 115, 32, 116, 111, 111, 32, 101, 97, 114, 108, 121] }
abbrev es10 : ByteArray := { data := #[107, 110, 111, 119, 110, 32, 97, 108, 114, 101, 97, 100, 121] }
abbrev es11 : ByteArray := { data := #[110, 111, 32, 115, 117, 99, 104, 32, 112, 97, 114, 101, 110, 116] }
abbrev es12 : ByteArray := { data := #[98, 101, 104, 105, 110, 100, 32, 119, 104, 97, 116, 32, 105, 115, 32, 110, 111, 116, 32, 118, 97, 108, 105, 100] }
abbrev es13 : ByteArray := { data := #[97, 32, 116, 105, 109, 101, 32, 116, 104, 97, 116, 32, 105, 115, 32, 116, 111, 111, 32, 101, 97, 114, 108, 121] }
abbrev es14 : ByteArray := { data := #[97, 32, 99, 111, 105, 110, 32, 116, 104, 97, 116, 32, 105, 115, 32, 110, 111, 116, 32, 116, 104, 101, 114, 101] }
abbrev es15 : ByteArray := { data := #[97, 32, 99, 111, 105, 110, 32, 116, 104, 97, 116, 32, 105, 115, 32, 116, 111, 111, 32, 121, 111, 117, 110, 103] }
abbrev es16 : ByteArray := { data := #[116, 111, 111, 32, 101, 97, 114, 108, 121, 32, 116, 111, 32, 98, 101, 32, 116, 97, 107, 101, 110] }
abbrev es17 : ByteArray := { data := #[108, 101, 115, 115, 32, 99, 111, 109, 101, 115, 32, 105, 110, 32, 116, 104, 97, 110, 32, 103, 111, 101, 115, 32, 111, 117, 116] }
abbrev es18 : ByteArray := { data := #[109, 111, 114, 101, 32, 116, 104, 97, 110, 32, 116, 104, 101, 32, 114, 101, 119, 97, 114, 100] }
abbrev es19 : ByteArray := { data := #[97, 32, 99, 111, 105, 110, 32, 116, 104, 97, 116, 32, 105, 115, 32, 115, 112, 101, 110, 116, 32, 105, 110, 32, 116, 104, 101, 32, 112, 111, 111, 108] }
abbrev es20 : ByteArray := { data := #[116, 111, 111, 32, 109, 97, 110, 121, 32, 116, 104, 97, 116, 32, 104, 97, 110, 103, 32, 116, 111, 103, 101, 116, 104, 101, 114] }
abbrev es21 : ByteArray := { data := #[116, 104, 101, 114, 101, 32, 105, 115, 32, 110, 111, 32, 114, 111, 111, 109] }
abbrev es22 : ByteArray := { data := #[116, 104, 101, 114, 101, 32, 105, 115, 32, 110, 111, 110, 101] }
abbrev es23 : ByteArray := { data := #[110, 111, 32, 115, 117, 99, 104, 32, 119, 111, 114, 100] }
abbrev es24 : ByteArray := { data := #[110, 111, 116, 32, 97, 32, 110, 117, 109, 98, 101, 114] }
def setC (v : Value) : Obj → Obj
  | .cells _ t frozen => .cells #[v] t frozen
  | x => x
noncomputable def laidWorld (os : Os) : World :=
  let w0 := World.holding Tryd.prog os ⟨#[.cells #[.string es0] 170, .cells #[.string es1] 170, .cells #[.string es2] 170, .cells #[.string es3] 170, .cells #[.string es4] 170, .cells #[.string es5] 170, .cells #[.string es6] 170, .cells #[.string es7] 170, .cells #[.string es8] 170, .cells #[.string es9] 170, .cells #[.string es10] 170, .cells #[.string es11] 170, .cells #[.string es12] 170, .cells #[.string es13] 170, .cells #[.string es14] 170, .cells #[.string es15] 170, .cells #[.string es16] 170, .cells #[.string es17] 170, .cells #[.string es18] 170, .cells #[.string es19] 170, .cells #[.string es20] 170, .cells #[.string es21] 170, .cells #[.string es22] 170, .cells #[.string es23] 170, .cells #[.string es24] 170], #[], []⟩
  { w0 with heap := (((((((((((((((((((((((((w0.heap.modify 0 (setC (.iface 153 (.pointer (some ⟨low + 0, 0, none⟩))))).modify 1 (setC (.iface 153 (.pointer (some ⟨low + 1, 0, none⟩))))).modify 2 (setC (.iface 153 (.pointer (some ⟨low + 2, 0, none⟩))))).modify 3 (setC (.iface 153 (.pointer (some ⟨low + 3, 0, none⟩))))).modify 4 (setC (.iface 153 (.pointer (some ⟨low + 4, 0, none⟩))))).modify 5 (setC (.iface 153 (.pointer (some ⟨low + 5, 0, none⟩))))).modify 6 (setC (.iface 153 (.pointer (some ⟨low + 6, 0, none⟩))))).modify 7 (setC (.iface 153 (.pointer (some ⟨low + 7, 0, none⟩))))).modify 8 (setC (.iface 153 (.pointer (some ⟨low + 8, 0, none⟩))))).modify 9 (setC (.iface 153 (.pointer (some ⟨low + 9, 0, none⟩))))).modify 10 (setC (.iface 153 (.pointer (some ⟨low + 10, 0, none⟩))))).modify 11 (setC (.iface 153 (.pointer (some ⟨low + 11, 0, none⟩))))).modify 12 (setC (.iface 153 (.pointer (some ⟨low + 12, 0, none⟩))))).modify 13 (setC (.iface 153 (.pointer (some ⟨low + 13, 0, none⟩))))).modify 14 (setC (.iface 153 (.pointer (some ⟨low + 14, 0, none⟩))))).modify 15 (setC (.iface 153 (.pointer (some ⟨low + 15, 0, none⟩))))).modify 16 (setC (.iface 153 (.pointer (some ⟨low + 16, 0, none⟩))))).modify 17 (setC (.iface 153 (.pointer (some ⟨low + 17, 0, none⟩))))).modify 18 (setC (.iface 153 (.pointer (some ⟨low + 18, 0, none⟩))))).modify 19 (setC (.iface 153 (.pointer (some ⟨low + 19, 0, none⟩))))).modify 20 (setC (.iface 153 (.pointer (some ⟨low + 20, 0, none⟩))))).modify 21 (setC (.iface 153 (.pointer (some ⟨low + 21, 0, none⟩))))).modify 22 (setC (.iface 153 (.pointer (some ⟨low + 22, 0, none⟩))))).modify 23 (setC (.iface 153 (.pointer (some ⟨low + 23, 0, none⟩))))).modify 24 (setC (.iface 153 (.pointer (some ⟨low + 24, 0, none⟩))))) }
theorem starE : "*" ++ "errors.errorString" = "*errors.errorString" := by decide
theorem rowE (u : TypeId) (h : Tryd.prog.typeName? 3 u = some "*errors.errorString") : u = 153 :=
  typeName_ptr_named (nm := "errors.errorString") (by rw [starE]; kernel_rfl) (by kernel_rfl) (by decide) u (by rw [starE]; exact h)
theorem ceE : Tryd.prog.cellsOf 170 = 1 := by kernel_rfl
theorem csE : Tryd.prog.cellsOf 9 = 1 := by kernel_rfl
theorem sent0 {W : World} {l : List (String × DataW Unit)} (h : laidMet Tryd.prog l W) (hm : ("sargasso/api.ErrMany", .iface "*errors.errorString" (.ptr (.agg [.lit (.string [116, 111, 111, 32, 109, 97, 110, 121, 44, 32, 111, 114, 32, 116, 111, 111, 32, 102, 101, 119])]))) ∈ l) : ∃ v, ErS (mem W) v (Er.b 1) :=
  sent_of_laid h hm (by kernel_rfl) (by kernel_rfl) Tryd.underlying51 rowE Tryd.underlying153 Tryd.underlying170 rfl rfl Tryd.underlying9 ceE csE (fun s hs => by unfold errCode; rw [hs]; kernel_rfl)
theorem sent1 {W : World} {l : List (String × DataW Unit)} (h : laidMet Tryd.prog l W) (hm : ("sargasso/api.ErrLong", .iface "*errors.errorString" (.ptr (.agg [.lit (.string [116, 111, 111, 32, 108, 111, 110, 103])]))) ∈ l) : ∃ v, ErS (mem W) v (Er.b 2) :=
  sent_of_laid h hm (by kernel_rfl) (by kernel_rfl) Tryd.underlying51 rowE Tryd.underlying153 Tryd.underlying170 rfl rfl Tryd.underlying9 ceE csE (fun s hs => by unfold errCode; rw [hs]; kernel_rfl)
theorem sent2 {W : World} {l : List (String × DataW Unit)} (h : laidMet Tryd.prog l W) (hm : ("sargasso/api.ErrTwice", .iface "*errors.errorString" (.ptr (.agg [.lit (.string [111, 110, 101, 32, 116, 104, 105, 110, 103, 32, 116, 119, 105, 99, 101])]))) ∈ l) : ∃ v, ErS (mem W) v (Er.b 3) :=
  sent_of_laid h hm (by kernel_rfl) (by kernel_rfl) Tryd.underlying51 rowE Tryd.underlying153 Tryd.underlying170 rfl rfl Tryd.underlying9 ceE csE (fun s hs => by unfold errCode; rw [hs]; kernel_rfl)
theorem sent3 {W : World} {l : List (String × DataW Unit)} (h : laidMet Tryd.prog l W) (hm : ("sargasso/api.ErrRoot", .iface "*errors.errorString" (.ptr (.agg [.lit (.string [97, 32, 114, 111, 111, 116, 32, 116, 104, 97, 116, 32, 100, 111, 101, 115, 32, 110, 111, 116, 32, 102, 105, 116])]))) ∈ l) : ∃ v, ErS (mem W) v (Er.b 4) :=
  sent_of_laid h hm (by kernel_rfl) (by kernel_rfl) Tryd.underlying51 rowE Tryd.underlying153 Tryd.underlying170 rfl rfl Tryd.underlying9 ceE csE (fun s hs => by unfold errCode; rw [hs]; kernel_rfl)
theorem sent4 {W : World} {l : List (String × DataW Unit)} (h : laidMet Tryd.prog l W) (hm : ("sargasso/api.ErrShape", .iface "*errors.errorString" (.ptr (.agg [.lit (.string [110, 111, 116, 32, 97, 115, 32, 105, 116, 32, 104, 97, 115, 32, 116, 111, 32, 98, 101])]))) ∈ l) : ∃ v, ErS (mem W) v (Er.b 5) :=
  sent_of_laid h hm (by kernel_rfl) (by kernel_rfl) Tryd.underlying51 rowE Tryd.underlying153 Tryd.underlying170 rfl rfl Tryd.underlying9 ceE csE (fun s hs => by unfold errCode; rw [hs]; kernel_rfl)
theorem sent5 {W : World} {l : List (String × DataW Unit)} (h : laidMet Tryd.prog l W) (hm : ("sargasso/api.ErrRange", .iface "*errors.errorString" (.ptr (.agg [.lit (.string [97, 32, 110, 117, 109, 98, 101, 114, 32, 111, 117, 116, 32, 111, 102, 32, 105, 116, 115, 32, 114, 97, 110, 103, 101])]))) ∈ l) : ∃ v, ErS (mem W) v (Er.b 6) :=
  sent_of_laid h hm (by kernel_rfl) (by kernel_rfl) Tryd.underlying51 rowE Tryd.underlying153 Tryd.underlying170 rfl rfl Tryd.underlying9 ceE csE (fun s hs => by unfold errCode; rw [hs]; kernel_rfl)
theorem sent6 {W : World} {l : List (String × DataW Unit)} (h : laidMet Tryd.prog l W) (hm : ("sargasso/api.ErrBase", .iface "*errors.errorString" (.ptr (.agg [.lit (.string [110, 111, 32, 102, 105, 114, 115, 116, 32, 116, 114, 97, 110, 115, 97, 99, 116, 105, 111, 110, 32, 119, 104, 101, 114, 101, 32, 116, 104, 101, 114, 101, 32, 104, 97, 115, 32, 116, 111, 32, 98, 101, 32, 111, 110, 101, 44, 32, 111, 114, 32, 111, 110, 101, 32, 119, 104, 101, 114, 101, 32, 116, 104, 101, 114, 101, 32, 109, 97, 121, 32, 98, 101, 32, 110, 111, 110, 101])]))) ∈ l) : ∃ v, ErS (mem W) v (Er.b 7) :=
  sent_of_laid h hm (by kernel_rfl) (by kernel_rfl) Tryd.underlying51 rowE Tryd.underlying153 Tryd.underlying170 rfl rfl Tryd.underlying9 ceE csE (fun s hs => by unfold errCode; rw [hs]; kernel_rfl)
theorem sent7 {W : World} {l : List (String × DataW Unit)} (h : laidMet Tryd.prog l W) (hm : ("sargasso/api.ErrKey", .iface "*errors.errorString" (.ptr (.agg [.lit (.string [97, 32, 107, 101, 121, 32, 116, 104, 97, 116, 32, 100, 111, 101, 115, 32, 110, 111, 116, 32, 102, 105, 116])]))) ∈ l) : ∃ v, ErS (mem W) v (Er.b 8) :=
  sent_of_laid h hm (by kernel_rfl) (by kernel_rfl) Tryd.underlying51 rowE Tryd.underlying153 Tryd.underlying170 rfl rfl Tryd.underlying9 ceE csE (fun s hs => by unfold errCode; rw [hs]; kernel_rfl)
theorem sent8 {W : World} {l : List (String × DataW Unit)} (h : laidMet Tryd.prog l W) (hm : ("sargasso/api.ErrValue", .iface "*errors.errorString" (.ptr (.agg [.lit (.string [97, 110, 32, 97, 109, 111, 117, 110, 116, 32, 116, 104, 97, 116, 32, 99, 97, 110, 39, 116, 32, 98, 101])]))) ∈ l) : ∃ v, ErS (mem W) v (Er.b 9) :=
  sent_of_laid h hm (by kernel_rfl) (by kernel_rfl) Tryd.underlying51 rowE Tryd.underlying153 Tryd.underlying170 rfl rfl Tryd.underlying9 ceE csE (fun s hs => by unfold errCode; rw [hs]; kernel_rfl)
theorem sent9 {W : World} {l : List (String × DataW Unit)} (h : laidMet Tryd.prog l W) (hm : ("sargasso/api.ErrEnd", .iface "*errors.errorString" (.ptr (.agg [.lit (.string [105, 116, 32, 101, 110, 100, 115, 32, 116, 111, 111, 32, 101, 97, 114, 108, 121])]))) ∈ l) : ∃ v, ErS (mem W) v (Er.b 10) :=
  sent_of_laid h hm (by kernel_rfl) (by kernel_rfl) Tryd.underlying51 rowE Tryd.underlying153 Tryd.underlying170 rfl rfl Tryd.underlying9 ceE csE (fun s hs => by unfold errCode; rw [hs]; kernel_rfl)
theorem sent10 {W : World} {l : List (String × DataW Unit)} (h : laidMet Tryd.prog l W) (hm : ("sargasso/api.ErrKnown", .iface "*errors.errorString" (.ptr (.agg [.lit (.string [107, 110, 111, 119, 110, 32, 97, 108, 114, 101, 97, 100, 121])]))) ∈ l) : ∃ v, ErS (mem W) v (Er.b 11) :=
  sent_of_laid h hm (by kernel_rfl) (by kernel_rfl) Tryd.underlying51 rowE Tryd.underlying153 Tryd.underlying170 rfl rfl Tryd.underlying9 ceE csE (fun s hs => by unfold errCode; rw [hs]; kernel_rfl)
theorem sent11 {W : World} {l : List (String × DataW Unit)} (h : laidMet Tryd.prog l W) (hm : ("sargasso/api.ErrParent", .iface "*errors.errorString" (.ptr (.agg [.lit (.string [110, 111, 32, 115, 117, 99, 104, 32, 112, 97, 114, 101, 110, 116])]))) ∈ l) : ∃ v, ErS (mem W) v (Er.b 12) :=
  sent_of_laid h hm (by kernel_rfl) (by kernel_rfl) Tryd.underlying51 rowE Tryd.underlying153 Tryd.underlying170 rfl rfl Tryd.underlying9 ceE csE (fun s hs => by unfold errCode; rw [hs]; kernel_rfl)
theorem sent12 {W : World} {l : List (String × DataW Unit)} (h : laidMet Tryd.prog l W) (hm : ("sargasso/api.ErrInvalid", .iface "*errors.errorString" (.ptr (.agg [.lit (.string [98, 101, 104, 105, 110, 100, 32, 119, 104, 97, 116, 32, 105, 115, 32, 110, 111, 116, 32, 118, 97, 108, 105, 100])]))) ∈ l) : ∃ v, ErS (mem W) v (Er.b 13) :=
  sent_of_laid h hm (by kernel_rfl) (by kernel_rfl) Tryd.underlying51 rowE Tryd.underlying153 Tryd.underlying170 rfl rfl Tryd.underlying9 ceE csE (fun s hs => by unfold errCode; rw [hs]; kernel_rfl)
theorem sent13 {W : World} {l : List (String × DataW Unit)} (h : laidMet Tryd.prog l W) (hm : ("sargasso/api.ErrTime", .iface "*errors.errorString" (.ptr (.agg [.lit (.string [97, 32, 116, 105, 109, 101, 32, 116, 104, 97, 116, 32, 105, 115, 32, 116, 111, 111, 32, 101, 97, 114, 108, 121])]))) ∈ l) : ∃ v, ErS (mem W) v (Er.b 14) :=
  sent_of_laid h hm (by kernel_rfl) (by kernel_rfl) Tryd.underlying51 rowE Tryd.underlying153 Tryd.underlying170 rfl rfl Tryd.underlying9 ceE csE (fun s hs => by unfold errCode; rw [hs]; kernel_rfl)
theorem sent14 {W : World} {l : List (String × DataW Unit)} (h : laidMet Tryd.prog l W) (hm : ("sargasso/api.ErrMissing", .iface "*errors.errorString" (.ptr (.agg [.lit (.string [97, 32, 99, 111, 105, 110, 32, 116, 104, 97, 116, 32, 105, 115, 32, 110, 111, 116, 32, 116, 104, 101, 114, 101])]))) ∈ l) : ∃ v, ErS (mem W) v (Er.b 15) :=
  sent_of_laid h hm (by kernel_rfl) (by kernel_rfl) Tryd.underlying51 rowE Tryd.underlying153 Tryd.underlying170 rfl rfl Tryd.underlying9 ceE csE (fun s hs => by unfold errCode; rw [hs]; kernel_rfl)
theorem sent15 {W : World} {l : List (String × DataW Unit)} (h : laidMet Tryd.prog l W) (hm : ("sargasso/api.ErrYoung", .iface "*errors.errorString" (.ptr (.agg [.lit (.string [97, 32, 99, 111, 105, 110, 32, 116, 104, 97, 116, 32, 105, 115, 32, 116, 111, 111, 32, 121, 111, 117, 110, 103])]))) ∈ l) : ∃ v, ErS (mem W) v (Er.b 16) :=
  sent_of_laid h hm (by kernel_rfl) (by kernel_rfl) Tryd.underlying51 rowE Tryd.underlying153 Tryd.underlying170 rfl rfl Tryd.underlying9 ceE csE (fun s hs => by unfold errCode; rw [hs]; kernel_rfl)
theorem sent16 {W : World} {l : List (String × DataW Unit)} (h : laidMet Tryd.prog l W) (hm : ("sargasso/api.ErrEarly", .iface "*errors.errorString" (.ptr (.agg [.lit (.string [116, 111, 111, 32, 101, 97, 114, 108, 121, 32, 116, 111, 32, 98, 101, 32, 116, 97, 107, 101, 110])]))) ∈ l) : ∃ v, ErS (mem W) v (Er.b 17) :=
  sent_of_laid h hm (by kernel_rfl) (by kernel_rfl) Tryd.underlying51 rowE Tryd.underlying153 Tryd.underlying170 rfl rfl Tryd.underlying9 ceE csE (fun s hs => by unfold errCode; rw [hs]; kernel_rfl)
theorem sent17 {W : World} {l : List (String × DataW Unit)} (h : laidMet Tryd.prog l W) (hm : ("sargasso/api.ErrLess", .iface "*errors.errorString" (.ptr (.agg [.lit (.string [108, 101, 115, 115, 32, 99, 111, 109, 101, 115, 32, 105, 110, 32, 116, 104, 97, 110, 32, 103, 111, 101, 115, 32, 111, 117, 116])]))) ∈ l) : ∃ v, ErS (mem W) v (Er.b 18) :=
  sent_of_laid h hm (by kernel_rfl) (by kernel_rfl) Tryd.underlying51 rowE Tryd.underlying153 Tryd.underlying170 rfl rfl Tryd.underlying9 ceE csE (fun s hs => by unfold errCode; rw [hs]; kernel_rfl)
theorem sent18 {W : World} {l : List (String × DataW Unit)} (h : laidMet Tryd.prog l W) (hm : ("sargasso/api.ErrReward", .iface "*errors.errorString" (.ptr (.agg [.lit (.string [109, 111, 114, 101, 32, 116, 104, 97, 110, 32, 116, 104, 101, 32, 114, 101, 119, 97, 114, 100])]))) ∈ l) : ∃ v, ErS (mem W) v (Er.b 19) :=
  sent_of_laid h hm (by kernel_rfl) (by kernel_rfl) Tryd.underlying51 rowE Tryd.underlying153 Tryd.underlying170 rfl rfl Tryd.underlying9 ceE csE (fun s hs => by unfold errCode; rw [hs]; kernel_rfl)
theorem sent19 {W : World} {l : List (String × DataW Unit)} (h : laidMet Tryd.prog l W) (hm : ("sargasso/api.ErrClash", .iface "*errors.errorString" (.ptr (.agg [.lit (.string [97, 32, 99, 111, 105, 110, 32, 116, 104, 97, 116, 32, 105, 115, 32, 115, 112, 101, 110, 116, 32, 105, 110, 32, 116, 104, 101, 32, 112, 111, 111, 108])]))) ∈ l) : ∃ v, ErS (mem W) v (Er.b 20) :=
  sent_of_laid h hm (by kernel_rfl) (by kernel_rfl) Tryd.underlying51 rowE Tryd.underlying153 Tryd.underlying170 rfl rfl Tryd.underlying9 ceE csE (fun s hs => by unfold errCode; rw [hs]; kernel_rfl)
theorem sent20 {W : World} {l : List (String × DataW Unit)} (h : laidMet Tryd.prog l W) (hm : ("sargasso/api.ErrLimit", .iface "*errors.errorString" (.ptr (.agg [.lit (.string [116, 111, 111, 32, 109, 97, 110, 121, 32, 116, 104, 97, 116, 32, 104, 97, 110, 103, 32, 116, 111, 103, 101, 116, 104, 101, 114])]))) ∈ l) : ∃ v, ErS (mem W) v (Er.b 21) :=
  sent_of_laid h hm (by kernel_rfl) (by kernel_rfl) Tryd.underlying51 rowE Tryd.underlying153 Tryd.underlying170 rfl rfl Tryd.underlying9 ceE csE (fun s hs => by unfold errCode; rw [hs]; kernel_rfl)
theorem sent21 {W : World} {l : List (String × DataW Unit)} (h : laidMet Tryd.prog l W) (hm : ("sargasso/api.ErrFull", .iface "*errors.errorString" (.ptr (.agg [.lit (.string [116, 104, 101, 114, 101, 32, 105, 115, 32, 110, 111, 32, 114, 111, 111, 109])]))) ∈ l) : ∃ v, ErS (mem W) v (Er.b 22) :=
  sent_of_laid h hm (by kernel_rfl) (by kernel_rfl) Tryd.underlying51 rowE Tryd.underlying153 Tryd.underlying170 rfl rfl Tryd.underlying9 ceE csE (fun s hs => by unfold errCode; rw [hs]; kernel_rfl)
theorem sent22 {W : World} {l : List (String × DataW Unit)} (h : laidMet Tryd.prog l W) (hm : ("sargasso/api.ErrNone", .iface "*errors.errorString" (.ptr (.agg [.lit (.string [116, 104, 101, 114, 101, 32, 105, 115, 32, 110, 111, 110, 101])]))) ∈ l) : ∃ v, ErS (mem W) v (Er.b 23) :=
  sent_of_laid h hm (by kernel_rfl) (by kernel_rfl) Tryd.underlying51 rowE Tryd.underlying153 Tryd.underlying170 rfl rfl Tryd.underlying9 ceE csE (fun s hs => by unfold errCode; rw [hs]; kernel_rfl)
theorem sent23 {W : World} {l : List (String × DataW Unit)} (h : laidMet Tryd.prog l W) (hm : ("sargasso/api.ErrWord", .iface "*errors.errorString" (.ptr (.agg [.lit (.string [110, 111, 32, 115, 117, 99, 104, 32, 119, 111, 114, 100])]))) ∈ l) : ∃ v, ErS (mem W) v (Er.b 24) :=
  sent_of_laid h hm (by kernel_rfl) (by kernel_rfl) Tryd.underlying51 rowE Tryd.underlying153 Tryd.underlying170 rfl rfl Tryd.underlying9 ceE csE (fun s hs => by unfold errCode; rw [hs]; kernel_rfl)
theorem sent24 {W : World} {l : List (String × DataW Unit)} (h : laidMet Tryd.prog l W) (hm : ("sargasso/api.ErrNumber", .iface "*errors.errorString" (.ptr (.agg [.lit (.string [110, 111, 116, 32, 97, 32, 110, 117, 109, 98, 101, 114])]))) ∈ l) : ∃ v, ErS (mem W) v (Er.b 25) :=
  sent_of_laid h hm (by kernel_rfl) (by kernel_rfl) Tryd.underlying51 rowE Tryd.underlying153 Tryd.underlying170 rfl rfl Tryd.underlying9 ceE csE (fun s hs => by unfold errCode; rw [hs]; kernel_rfl)
end Go.Proofs.YtlpggofilkfbnaaDoor.T
namespace Go.Proofs.YtlpggofilkfbnaaDoor.T
open Go Go.Proofs Go.Proofs.YtlpggofilkfbnaaDoor.K
set_option linter.unusedVariables false
set_option linter.unusedSimpArgs false
theorem laid : laidOutB Tryd.prog = true := by kernel_rfl
theorem rr3 : Tryd.prog.readableRec 3 = true := by kernel_rfl
theorem tr3 : 3 < Tryd.prog.types.size := of_decide_eq_true (by kernel_rfl)
theorem cl22 : Tryd.prog.cellsOf 22 = 1 := by kernel_rfl
theorem cl5 : Tryd.prog.cellsOf 5 = 1 := by kernel_rfl
theorem cl24 : Tryd.prog.cellsOf 24 = 32 := by kernel_rfl
theorem cl25 : Tryd.prog.cellsOf 25 = 1 := by kernel_rfl
theorem rr25 : Tryd.prog.readableRec 25 = true := by kernel_rfl
theorem tr25 : 25 < Tryd.prog.types.size := of_decide_eq_true (by kernel_rfl)
theorem cl28 : Tryd.prog.cellsOf 28 = 1 := by kernel_rfl
theorem cl36 : Tryd.prog.cellsOf 36 = 68 := by kernel_rfl
theorem cl44 : Tryd.prog.cellsOf 44 = 33 := by kernel_rfl
theorem cl46 : Tryd.prog.cellsOf 46 = 35 := by kernel_rfl
theorem cl29 : Tryd.prog.cellsOf 29 = 1 := by kernel_rfl
theorem cl48 : Tryd.prog.cellsOf 48 = 33 := by kernel_rfl
theorem cl30 : Tryd.prog.cellsOf 30 = 1 := by kernel_rfl
theorem cl32 : Tryd.prog.cellsOf 32 = 4 := by kernel_rfl
theorem cl37 : Tryd.prog.cellsOf 37 = 1 := by kernel_rfl
theorem cl39 : Tryd.prog.cellsOf 39 = 69 := by kernel_rfl
theorem rr39 : Tryd.prog.readableRec 39 = true := by kernel_rfl
theorem tr39 : 39 < Tryd.prog.types.size := of_decide_eq_true (by kernel_rfl)
section
variable {H : Type} {enc : TypeId × Value → H} {w : World} {base : Nat} {spare : Nat → Bool} {held : Bool}
theorem rd22 : Rd enc Tryd.prog w base spare held 22 (fun c => ∃ n, RI .u64 n c) := rd_int Tryd.underlying22
theorem rd5 : Rd enc Tryd.prog w base spare held 5 (fun c => ∃ n, RI .u8 n c) := rd_int Tryd.underlying5
theorem rd24 : Rd enc Tryd.prog w base spare held 24 (fun c => ∃ xs, RA .u8 32 xs c) := rd_array Tryd.underlying24 Tryd.underlying5 cl5 cl24
theorem rd25 : Rd enc Tryd.prog w base spare held 25 (fun c => ∃ v xs, c = [v] ∧ Slc (RI .u8) 1 (mem w) v xs) := rd_slice Tryd.underlying25 cl5 (by decide) rd5
theorem rd28 : Rd enc Tryd.prog w base spare held 28 (fun c => ∃ n, RI .u32 n c) := rd_int Tryd.underlying28
theorem rd36 : Rd enc Tryd.prog w base spare held 36 (fun c => ∃ x, RHead (mem w) x c) := by
  intro fuel cs x h
  obtain ⟨hl, hf⟩ := rd_struct Tryd.underlying36 h
  rw [cl36] at hl
  obtain ⟨n0, y0, h0⟩ := hf 0 _ rfl
  obtain ⟨x0, e0, w0⟩ := rd28 _ _ _ h0
  have e0 : (cs.drop 0).take (Tryd.prog.cellsOf 28) = _ := e0
  rw [cl28] at e0
  have c0 := chop cs 0 1 1 rfl
  rw [e0] at c0
  obtain ⟨n1, y1, h1⟩ := hf 1 _ rfl
  obtain ⟨x1, e1, w1⟩ := rd24 _ _ _ h1
  have e1 : (cs.drop 1).take (Tryd.prog.cellsOf 24) = _ := e1
  rw [cl24] at e1
  have c1 := chop cs 1 32 33 rfl
  rw [e1] at c1
  obtain ⟨n2, y2, h2⟩ := hf 2 _ rfl
  obtain ⟨x2, e2, w2⟩ := rd24 _ _ _ h2
  have e2 : (cs.drop 33).take (Tryd.prog.cellsOf 24) = _ := e2
  rw [cl24] at e2
  have c2 := chop cs 33 32 65 rfl
  rw [e2] at c2
  obtain ⟨n3, y3, h3⟩ := hf 3 _ rfl
  obtain ⟨x3, e3, w3⟩ := rd28 _ _ _ h3
  have e3 : (cs.drop 65).take (Tryd.prog.cellsOf 28) = _ := e3
  rw [cl28] at e3
  have c3 := chop cs 65 1 66 rfl
  rw [e3] at c3
  obtain ⟨n4, y4, h4⟩ := hf 4 _ rfl
  obtain ⟨x4, e4, w4⟩ := rd28 _ _ _ h4
  have e4 : (cs.drop 66).take (Tryd.prog.cellsOf 28) = _ := e4
  rw [cl28] at e4
  have c4 := chop cs 66 1 67 rfl
  rw [e4] at c4
  obtain ⟨n5, y5, h5⟩ := hf 5 _ rfl
  obtain ⟨x5, e5, w5⟩ := rd28 _ _ _ h5
  have e5 : (cs.drop 67).take (Tryd.prog.cellsOf 28) = _ := e5
  rw [cl28] at e5
  have c5 := chop cs 67 1 68 rfl
  rw [e5] at c5
  rw [List.drop_eq_nil_of_le (i := 68) (by omega)] at c5
  rw [c5] at c4
  rw [c4] at c3
  rw [c3] at c2
  rw [c2] at c1
  rw [c1] at c0
  rw [List.drop_zero] at c0
  exact ⟨⟨x0, x1, x2, x3, x4, x5⟩,  by rw [c0]; simp [HeadC], ⟨w0, w1, w2, w3, w4, w5⟩⟩
theorem rd44 : Rd enc Tryd.prog w base spare held 44 (fun c => ∃ x, RPoint (mem w) x c) := by
  intro fuel cs x h
  obtain ⟨hl, hf⟩ := rd_struct Tryd.underlying44 h
  rw [cl44] at hl
  obtain ⟨n0, y0, h0⟩ := hf 0 _ rfl
  obtain ⟨x0, e0, w0⟩ := rd24 _ _ _ h0
  have e0 : (cs.drop 0).take (Tryd.prog.cellsOf 24) = _ := e0
  rw [cl24] at e0
  have c0 := chop cs 0 32 32 rfl
  rw [e0] at c0
  obtain ⟨n1, y1, h1⟩ := hf 1 _ rfl
  obtain ⟨x1, e1, w1⟩ := rd28 _ _ _ h1
  have e1 : (cs.drop 32).take (Tryd.prog.cellsOf 28) = _ := e1
  rw [cl28] at e1
  have c1 := chop cs 32 1 33 rfl
  rw [e1] at c1
  rw [List.drop_eq_nil_of_le (i := 33) (by omega)] at c1
  rw [c1] at c0
  rw [List.drop_zero] at c0
  exact ⟨⟨x0, x1⟩,  by rw [c0]; simp [PointC], ⟨w0, w1⟩⟩
theorem rd46 : Rd enc Tryd.prog w base spare held 46 (fun c => ∃ x, RIn (mem w) x c) := by
  intro fuel cs x h
  obtain ⟨hl, hf⟩ := rd_struct Tryd.underlying46 h
  rw [cl46] at hl
  obtain ⟨n0, y0, h0⟩ := hf 0 _ rfl
  obtain ⟨x0, e0, w0_0, w0_1⟩ := rd44 _ _ _ h0
  have e0 : (cs.drop 0).take (Tryd.prog.cellsOf 44) = _ := e0
  rw [cl44] at e0
  have c0 := chop cs 0 33 33 rfl
  rw [e0] at c0
  obtain ⟨n1, y1, h1⟩ := hf 1 _ rfl
  obtain ⟨v1, x1, e1, w1⟩ := rd25 _ _ _ h1
  have e1 : (cs.drop 33).take (Tryd.prog.cellsOf 25) = _ := e1
  rw [cl25] at e1
  have c1 := chop cs 33 1 34 rfl
  rw [e1] at c1
  obtain ⟨n2, y2, h2⟩ := hf 2 _ rfl
  obtain ⟨x2, e2, w2⟩ := rd28 _ _ _ h2
  have e2 : (cs.drop 34).take (Tryd.prog.cellsOf 28) = _ := e2
  rw [cl28] at e2
  have c2 := chop cs 34 1 35 rfl
  rw [e2] at c2
  rw [List.drop_eq_nil_of_le (i := 35) (by omega)] at c2
  rw [c2] at c1
  rw [c1] at c0
  rw [List.drop_zero] at c0
  exact ⟨⟨x0, x1, x2⟩, v1,  by rw [c0]; simp [InC, PointC], ⟨w0_0, w0_1, w1, w2⟩⟩
theorem rd29 : Rd enc Tryd.prog w base spare held 29 (fun c => ∃ v xs, c = [v] ∧ Slc (RIn (mem w)) 35 (mem w) v xs) := rd_slice Tryd.underlying29 cl46 (by decide) rd46
theorem rd48 : Rd enc Tryd.prog w base spare held 48 (fun c => ∃ x, ROut (mem w) x c) := by
  intro fuel cs x h
  obtain ⟨hl, hf⟩ := rd_struct Tryd.underlying48 h
  rw [cl48] at hl
  obtain ⟨n0, y0, h0⟩ := hf 0 _ rfl
  obtain ⟨x0, e0, w0⟩ := rd22 _ _ _ h0
  have e0 : (cs.drop 0).take (Tryd.prog.cellsOf 22) = _ := e0
  rw [cl22] at e0
  have c0 := chop cs 0 1 1 rfl
  rw [e0] at c0
  obtain ⟨n1, y1, h1⟩ := hf 1 _ rfl
  obtain ⟨x1, e1, w1⟩ := rd24 _ _ _ h1
  have e1 : (cs.drop 1).take (Tryd.prog.cellsOf 24) = _ := e1
  rw [cl24] at e1
  have c1 := chop cs 1 32 33 rfl
  rw [e1] at c1
  rw [List.drop_eq_nil_of_le (i := 33) (by omega)] at c1
  rw [c1] at c0
  rw [List.drop_zero] at c0
  exact ⟨⟨x0, x1⟩,  by rw [c0]; simp [OutC], ⟨w0, w1⟩⟩
theorem rd30 : Rd enc Tryd.prog w base spare held 30 (fun c => ∃ v xs, c = [v] ∧ Slc (ROut (mem w)) 33 (mem w) v xs) := rd_slice Tryd.underlying30 cl48 (by decide) rd48
theorem rd32 : Rd enc Tryd.prog w base spare held 32 (fun c => ∃ x, RTx (mem w) x c) := by
  intro fuel cs x h
  obtain ⟨hl, hf⟩ := rd_struct Tryd.underlying32 h
  rw [cl32] at hl
  obtain ⟨n0, y0, h0⟩ := hf 0 _ rfl
  obtain ⟨x0, e0, w0⟩ := rd28 _ _ _ h0
  have e0 : (cs.drop 0).take (Tryd.prog.cellsOf 28) = _ := e0
  rw [cl28] at e0
  have c0 := chop cs 0 1 1 rfl
  rw [e0] at c0
  obtain ⟨n1, y1, h1⟩ := hf 1 _ rfl
  obtain ⟨v1, x1, e1, w1⟩ := rd29 _ _ _ h1
  have e1 : (cs.drop 1).take (Tryd.prog.cellsOf 29) = _ := e1
  rw [cl29] at e1
  have c1 := chop cs 1 1 2 rfl
  rw [e1] at c1
  obtain ⟨n2, y2, h2⟩ := hf 2 _ rfl
  obtain ⟨v2, x2, e2, w2⟩ := rd30 _ _ _ h2
  have e2 : (cs.drop 2).take (Tryd.prog.cellsOf 30) = _ := e2
  rw [cl30] at e2
  have c2 := chop cs 2 1 3 rfl
  rw [e2] at c2
  obtain ⟨n3, y3, h3⟩ := hf 3 _ rfl
  obtain ⟨x3, e3, w3⟩ := rd28 _ _ _ h3
  have e3 : (cs.drop 3).take (Tryd.prog.cellsOf 28) = _ := e3
  rw [cl28] at e3
  have c3 := chop cs 3 1 4 rfl
  rw [e3] at c3
  rw [List.drop_eq_nil_of_le (i := 4) (by omega)] at c3
  rw [c3] at c2
  rw [c2] at c1
  rw [c1] at c0
  rw [List.drop_zero] at c0
  exact ⟨⟨x0, x1, x2, x3⟩, v1, v2,  by rw [c0]; simp [TxC], ⟨w0, w1, w2, w3⟩⟩
theorem rd37 : Rd enc Tryd.prog w base spare held 37 (fun c => ∃ v xs, c = [v] ∧ Slc (RTx (mem w)) 4 (mem w) v xs) := rd_slice Tryd.underlying37 cl32 (by decide) rd32
theorem rd39 : Rd enc Tryd.prog w base spare held 39 (fun c => ∃ x, RBlock (mem w) x c) := by
  intro fuel cs x h
  obtain ⟨hl, hf⟩ := rd_struct Tryd.underlying39 h
  rw [cl39] at hl
  obtain ⟨n0, y0, h0⟩ := hf 0 _ rfl
  obtain ⟨x0, e0, w0_0, w0_1, w0_2, w0_3, w0_4, w0_5⟩ := rd36 _ _ _ h0
  have e0 : (cs.drop 0).take (Tryd.prog.cellsOf 36) = _ := e0
  rw [cl36] at e0
  have c0 := chop cs 0 68 68 rfl
  rw [e0] at c0
  obtain ⟨n1, y1, h1⟩ := hf 1 _ rfl
  obtain ⟨v1, x1, e1, w1⟩ := rd37 _ _ _ h1
  have e1 : (cs.drop 68).take (Tryd.prog.cellsOf 37) = _ := e1
  rw [cl37] at e1
  have c1 := chop cs 68 1 69 rfl
  rw [e1] at c1
  rw [List.drop_eq_nil_of_le (i := 69) (by omega)] at c1
  rw [c1] at c0
  rw [List.drop_zero] at c0
  exact ⟨⟨x0, x1⟩, v1,  by rw [c0]; simp [BlockC, HeadC], ⟨w0_0, w0_1, w0_2, w0_3, w0_4, w0_5, w1⟩⟩
end
end Go.Proofs.YtlpggofilkfbnaaDoor.T
namespace Go.Proofs.YtlpggofilkfbnaaDoor.J
open Go Go.Proofs
theorem words_cons : ∀ (w r : List Char), w.all (· != ' ') = true → wordsSigns (w ++ ' ' :: r) = w :: wordsSigns r
  | [], r, _ => rfl
  | c :: w, r, h => by
    simp only [List.all_cons, Bool.and_eq_true, bne_iff_ne, ne_eq] at h
    have ih := words_cons w r h.2
    rw [List.cons_append, wordsSigns, ih]
    exact fun e => h.1 e
set_option maxRecDepth 100000
def w0 : List Char := ['h', 'a', 'r', 'n', 'e', 's', 's']
def w1 : List Char := ['5', '7', '0', '0', '8', '4', 'c', '9', '6', '4', 'd', '7', '5', '7', 'c', 'b', '9', 'c', 'f', '3', 'c', 'a', '2', '2', 'c', '3', 'b', '2', '1', '9', '2', 'b', 'b', '7', '5', '5', '1', '1', '7', 'f', '7', '5', 'e', '0', '5', '7', '2', '4', 'e', '6', 'f', '1', '7', '4', '5', '3', '1', 'd', '1', 'b', 'c', 'd', '2', '4']
def w2 : List Char := ['c', 'u', 't']
def w3 : List Char := ['a', 't', ' ', 's', 'a', 'r', 'g', 'a', 's', 's', 'o', '/', 's', 'a', 'r', 'g', 'a', 's', 's', 'o', 'l', 'a', 'w', '7', '.', 'B', 'l', 'o', 'c', 'k', 'F', 'i', 'r', 's', 't', ' ', 's', 'a', 'r', 'g', 'a', 's', 's', 'o', '/', 's', 'a', 'r', 'g', 'a', 's', 's', 'o', 'l', 'a', 'w', '7', '.', 'B', 'l', 'o', 'c', 'k', 'K', 'i', 'n', 'd', 's', ' ', 's', 'a', 'r', 'g', 'a', 's', 's', 'o', '/', 's', 'a', 'r', 'g', 'a', 's', 's', 'o', 'l', 'a', 'w', '7', '.', 'B', 'l', 'o', 'c', 'k', 'S', 't', 'a', 'r', 't', ' ', 's', 'a', 'r', 'g', 'a', 's', 's', 'o', '/', 's', 'a', 'r', 'g', 'a', 's', 's', 'o', 'l', 'a', 'w', '7', '.', 'B', 'l', 'o', 'c', 'k', 'B', 'a', 'c', 'k']
theorem io0 : Tryd.prog.initOrder = String.ofList (w0 ++ ' ' :: (w1 ++ ' ' :: (w2 ++ ' ' :: w3))) := by kernel_rfl
theorem io : Tryd.prog.initOrder.toList = w0 ++ ' ' :: (w1 ++ ' ' :: (w2 ++ ' ' :: w3)) := (congrArg String.toList io0).trans String.toList_ofList
theorem ws : wordsSigns Tryd.prog.initOrder.toList = w0 :: w1 :: w2 :: wordsSigns w3 := by
  rw [io, words_cons _ _ (by kernel_rfl), words_cons _ _ (by kernel_rfl), words_cons _ _ (by kernel_rfl)]
theorem bm (R : List (List Char)) : behindMainWord (w0 :: w1 :: w2 :: R) = w2 :: R := by kernel_rfl
theorem main_of {P : Program} {R : List (List Char)} (h : wordsSigns P.initOrder.toList = w0 :: w1 :: R) : P.mainIs = some (true, w1) := by
  unfold Program.mainIs
  rw [h]
  kernel_rfl
theorem mainIs : Tryd.prog.mainIs = some (true, w1) := main_of ws
theorem bw : behindMainWord (wordsSigns Tryd.prog.initOrder.toList) = w2 :: wordsSigns w3 := by rw [ws, bm]
theorem st (R : List (List Char)) : stripLifts liftWords (w2 :: R) = ([], w2 :: R) := by kernel_rfl
theorem make_of {P : Program} {R : List (List Char)} (h : behindMainWord (wordsSigns P.initOrder.toList) = w2 :: R) : P.make = some .cut := by
  unfold Program.make
  rw [h]
  kernel_rfl
theorem head_of {P : Program} {R : List (List Char)} (h : behindMainWord (wordsSigns P.initOrder.toList) = w2 :: R) : P.headLifts = [] := by
  unfold Program.headLifts
  rw [h, st]
  kernel_rfl
theorem lifts_of {P : Program} {R : List (List Char)} (h : behindMainWord (wordsSigns P.initOrder.toList) = w2 :: R) : P.liftsFinal = false := by
  unfold Program.liftsFinal
  rw [h, head_of h]
  kernel_rfl
theorem may_of {P : Program} {R : List (List Char)} (h : behindMainWord (wordsSigns P.initOrder.toList) = w2 :: R) (h1 : P.laysLater = false) (h2 : P.bearsReflect = false) (h3 : P.doorFits [] = true) : P.mayEnter = true := by
  unfold Program.mayEnter
  rw [h]
  simp only [st, h1, h2, h3]
  kernel_rfl
theorem later : Tryd.prog.laysLater = false := by kernel_rfl
theorem reflect : Tryd.prog.bearsReflect = false := by kernel_rfl
theorem door : Tryd.prog.doorFits [] = true := by kernel_rfl
theorem make : Tryd.prog.make = some .cut := make_of bw
theorem lifts : Tryd.prog.liftsFinal = false := lifts_of bw
theorem may : Tryd.prog.mayEnter = true := may_of bw later reflect door
end Go.Proofs.YtlpggofilkfbnaaDoor.J
namespace Go.Proofs.YtlpggofilkfbnaaDoor.zBlockBack
open Go Go.Proofs Go.Proofs.YtlpggofilkfbnaaDoor.K Go.Proofs.YtlpggofilkfbnaaDoor.T
open Go.ChangeShapes Go.WideShapes Go.ChangeAt Go.RowKit
set_option linter.unusedVariables false
theorem met (os : Os) (args : Array Value) : laidMetH Tryd.prog Rows.blockBackRow.laid ((laidWorld os).forCall (fun _ _ => 0) ⟨#[], args, []⟩).memory :=
  laidMetH_of_parts (laidMet_of_run' 8 (by kernel_rfl) (by kernel_rfl)) (by kernel_rfl)
set_option maxRecDepth 100000 in
theorem lifted (os : Os) (started : os.Started) (H : Type) (enc : TypeId × Value → H) :
    ReturnsInHanded {} Tryd.checked os 6 .any (fun w args => (Rows.blockBackSpec.pre enc Tryd.prog Tryd.f6 [] false w args ∧ laidMetH Tryd.prog Rows.blockBackRow.laid w) ∧ sizedMet enc Tryd.prog Tryd.f6 (OpenSpec.ofChange Rows.blockBackSpec) false w args) (Rows.blockBackSpec.post enc Tryd.prog Tryd.f6 false true false false) := by
  refine returnsInHanded_of_change_and (C := Tryd.checked) (X := fun w _ => laidMetH Tryd.prog Rows.blockBackRow.laid w) (fun _ _ _ hh h => h.of_heap hh) own started (by kernel_rfl) Tryd.func6
    (ChangeSpec.witness_at (enc := enc) (C := Tryd.checked) (os := os) (X := fun w _ => laidMetH Tryd.prog Rows.blockBackRow.laid w) false (laidWorld os) #[.agg #[.int .u32 0, .int .u8 0, .int .u8 0, .int .u8 0, .int .u8 0, .int .u8 0, .int .u8 0, .int .u8 0, .int .u8 0, .int .u8 0, .int .u8 0, .int .u8 0, .int .u8 0, .int .u8 0, .int .u8 0, .int .u8 0, .int .u8 0, .int .u8 0, .int .u8 0, .int .u8 0, .int .u8 0, .int .u8 0, .int .u8 0, .int .u8 0, .int .u8 0, .int .u8 0, .int .u8 0, .int .u8 0, .int .u8 0, .int .u8 0, .int .u8 0, .int .u8 0, .int .u8 0, .int .u8 0, .int .u8 0, .int .u8 0, .int .u8 0, .int .u8 0, .int .u8 0, .int .u8 0, .int .u8 0, .int .u8 0, .int .u8 0, .int .u8 0, .int .u8 0, .int .u8 0, .int .u8 0, .int .u8 0, .int .u8 0, .int .u8 0, .int .u8 0, .int .u8 0, .int .u8 0, .int .u8 0, .int .u8 0, .int .u8 0, .int .u8 0, .int .u8 0, .int .u8 0, .int .u8 0, .int .u8 0, .int .u8 0, .int .u8 0, .int .u8 0, .int .u8 0, .int .u32 0, .int .u32 0, .int .u32 0, .slice none 0 0], .slice none 0 0, .int .i64 0] 8 rfl (by kernel_rfl) (by kernel_rfl) (by kernel_rfl) (by kernel_rfl) (by kernel_rfl) (met os _)) ?_
  intro W base args ds gs before hval0 hW hcnd hsz0 hL _
  have hL : laidMet Tryd.prog Rows.blockBackRow.laid W := hL
  have hG : Gl (mem W) := ⟨sent0 hL (List.mem_of_getElem? (i := 3) rfl), sent1 hL (List.mem_of_getElem? (i := 2) rfl), sent2 hL (List.mem_of_getElem? (i := 5) rfl), sent3 hL (List.mem_of_getElem? (i := 7) rfl), sent4 hL (List.mem_of_getElem? (i := 1) rfl), sent5 hL (List.mem_of_getElem? (i := 21) rfl), sent6 hL (List.mem_of_getElem? (i := 6) rfl), sent7 hL (List.mem_of_getElem? (i := 13) rfl), sent8 hL (List.mem_of_getElem? (i := 4) rfl), sent9 hL (List.mem_of_getElem? (i := 0) rfl), sent10 hL (List.mem_of_getElem? (i := 8) rfl), sent11 hL (List.mem_of_getElem? (i := 9) rfl), sent12 hL (List.mem_of_getElem? (i := 10) rfl), sent13 hL (List.mem_of_getElem? (i := 11) rfl), sent14 hL (List.mem_of_getElem? (i := 12) rfl), sent15 hL (List.mem_of_getElem? (i := 14) rfl), sent16 hL (List.mem_of_getElem? (i := 15) rfl), sent17 hL (List.mem_of_getElem? (i := 16) rfl), sent18 hL (List.mem_of_getElem? (i := 17) rfl), sent19 hL (List.mem_of_getElem? (i := 18) rfl), sent20 hL (List.mem_of_getElem? (i := 19) rfl), sent21 hL (List.mem_of_getElem? (i := 20) rfl), sent22 hL (List.mem_of_getElem? (i := 22) rfl), sent23 hL (List.mem_of_getElem? (i := 23) rfl), sent24 hL (List.mem_of_getElem? (i := 24) rfl)⟩
  have hW' := hW
  obtain ⟨p, q, hA0, hV, rfl, hfz, hnd⟩ := hW
  have hA : DataW.TrodAll enc Tryd.prog W 0 (fun _ => true) true Tryd.f6.params.toList args.toList ds p := hA0
  have hval : ∀ (j : Nat) t v, Tryd.f6.params[j]? = some t → args[j]? = some v → Value.okWide Tryd.prog W .any base t v := hval0
  rw [Tryd.params6] at hA hval
  obtain ⟨v0, vs0, d0, ds0, p0, q0, hargs, rfl, rfl, h0, r0⟩ := trodAll_cons hA
  obtain ⟨v1, vs1, d1, ds1, p1, q1, rfl, rfl, rfl, h1, r1⟩ := trodAll_cons r0
  obtain ⟨v2, vs2, d2, ds2, p2, q2, rfl, rfl, rfl, h2, r2⟩ := trodAll_cons r1
  obtain ⟨rfl, rfl, rfl⟩ := trodAll_nil r2
  obtain rfl : args = #[v0, v1, v2] := by cases args; simp_all
  obtain ⟨rfl, rfl⟩ := trodVars_none hV
  obtain ⟨c0, rfl, x0, u0_0, rfl, w0⟩ := at_agg (agg_struct Tryd.underlying39 (hval 0 39 v0 rfl rfl)) rd39 h0
  obtain ⟨x1, w1⟩ := at_slice Tryd.underlying25 (hval 1 25 v1 rfl rfl) rd25 h1
  obtain ⟨x2, rfl, _, _, w2⟩ := open_int Tryd.underlying3 (hval 2 3 v2 rfl rfl) h2
  have hμ : Agr (mem W) W := agr_mem W
  have hm := sargassolaw7_BlockBack.m (mem W) x0 u0_0 w0 x1 v1 w1 x2 (wf_in w2)
  refine (sargassolaw7_BlockBack.c (mem W) W hμ x0 u0_0 w0 x1 v1 w1 x2 (wf_in w2) hG true hm).mono fun e W' ⟨v, he, hv, _, hI⟩ => ?_
  subst hv
  subst he
  have bel : Below W.heap.size W W' := hI.below
  exact ⟨_, rfl, _, _, _, [], _, [], hW', trodAll_mk1 (shut_bool Tryd.underlying4 _), (trodAll_cons_mk (again laid rr39 tr39 h0 bel) (trodAll_cons_mk (again laid rr25 tr25 h1 bel) (trodAll_cons_mk (again laid rr3 tr3 h2 bel) trodAll_mk0))), rfl, bel.frame _, fun h => by cases h⟩
theorem closed : joinedFacts Tryd.prog 6 Tryd.f6 Rows.blockBackSpec Rows.blockBackRow = true := by
  unfold joinedFacts
  rw [J.may, J.lifts, J.make]
  kernel_rfl
theorem over : Rows.blockBackRow.holds Tryd.pinned (OpenSpec.ofChange Rows.blockBackSpec) :=
  OpenClaim.holds_of_wide 6 Tryd.f6 rfl rfl rfl rfl rfl rfl rfl ⟨rfl, rfl, rfl, rfl, rfl⟩ rfl rfl rfl rfl rfl (by kernel_rfl) Tryd.func6 closed
    (of_decide_eq_true (by kernel_rfl)) (by unfold Func.isWrapper; first | (rw [if_pos (by decide +kernel)]; kernel_rfl) | (rw [if_neg (by decide +kernel)]; exact ⟨rfl, rfl⟩))
    (fun os started H enc _ => lifted os started H enc)
theorem card : Rows.BlockBackCardSaid :=
  Claim7.holds_tied_plain_at .later [] [.sentinel, .sentinel, .sentinel, .sentinel, .sentinel, .sentinel, .sentinel, .sentinel, .sentinel, .sentinel, .sentinel, .sentinel, .sentinel, .sentinel, .sentinel, .sentinel, .sentinel, .sentinel, .sentinel, .sentinel, .sentinel, .sentinel, .sentinel, .sentinel, .sentinel] true (true, "570084c964d757cb9cf3ca22c3b2192bb755117f75e05724e6f174531d1bcd24") true
    over (fun _ h => by cases h) (by kernel_rfl) (fun _ h => by cases h) blockBack_row_tie rfl ⟨rfl, rfl⟩ (J.mainIs.trans (congrArg (fun s => some (true, s)) (by kernel_rfl))) rfl
    (fun f fn hf hfn => by
      obtain rfl : f = 6 := Option.some.inj ((show Tryd.prog.funcNamed "sargasso/sargassolaw7.BlockBack" = some 6 by kernel_rfl).symm.trans hf) |>.symm
      obtain rfl : fn = Tryd.f6 := (Option.some.inj (Tryd.func6.symm.trans hfn)).symm
      exact ⟨by kernel_rfl, fun j t ht => by
        rw [Tryd.params6] at ht
        rcases j with _ | _ | _ | j
        · obtain rfl : (39 : TypeId) = t := by simpa using ht
          exact (show Tryd.prog.wantsStandIn 39 = false by kernel_rfl)
        · obtain rfl : (25 : TypeId) = t := by simpa using ht
          exact (show Tryd.prog.wantsStandIn 25 = false by kernel_rfl)
        · obtain rfl : (3 : TypeId) = t := by simpa using ht
          exact (show Tryd.prog.wantsStandIn 3 = false by kernel_rfl)
        · simp at ht⟩)
    (by kernel_rfl)
end Go.Proofs.YtlpggofilkfbnaaDoor.zBlockBack
namespace Go.Proofs.YtlpggofilkfbnaaDoor
theorem blockBack_holds : Rows.BlockBackCardSaid := zBlockBack.card
#print axioms blockBack_holds
end Go.Proofs.YtlpggofilkfbnaaDoor
