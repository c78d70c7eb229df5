/- Proved: the statement HeadBack, as given (its conditions are those of the given row, and card where there is one; no others): the call ends, with true, and the input reads as it did. This file is one of its parts. -/
import Derived.Test.YtpeelghbhihgkaaDoorPHeadBack2
import Derived.OpenShut
import Derived.ChangeArms
import Derived.DataReads
import Derived.WideShapes
import Derived.Below
import Derived.Carry
import Derived.ChangeOld
import Derived.LaidLaws
import Derived.Stop.ErrReads
import Derived.ChangeVars
import Derived.Test.YtpeelghbhihgkaaDoorRows
import Derived.Test.YtpeelghbhihgkaaDoorProg
import Derived.JoinedOf
import Derived.ProofKit
import Derived.WalkKit
import Derived.ShutString
import Derived.SizedLaws
import Derived.LaidHandle
import Derived.Handed
import Derived.SevenTiedAt
import Derived.Test.YtpeelghbhihgkaaDoorCards
import Derived.Test.YtpeelghbhihgkaaDoorTie
namespace Go.Proofs.YtpeelghbhihgkaaDoor.T
open Go Go.Proofs Go.Proofs.YtpeelghbhihgkaaDoor.K
set_option linter.unusedVariables false
set_option linter.unusedSimpArgs false
theorem u8e (x : Int) : IntKind.u8.wrap x = x % 256 := by simp [IntKind.wrap, IntKind.signed, IntKind.bits]
def lb (a m : Nat) : List Int := (List.range m).map fun j => ((a / 2 ^ (8 * j) % 256 : Nat) : Int)
theorem lb_len (a m : Nat) : (lb a m).length = m := by simp [lb]
theorem sR_div (k : IntKind) {a n : Nat} (hn : n ≤ k.bits) : sR k (a : Int) (n : Int) = ((a / 2 ^ n : Nat) : Int) := by
  rw [sR_nat k hn, Nat.shiftRight_eq_div_pow]
theorem number_eq' (r : List Int) (a k : Nat) (hk : k ≤ 100) (hl : r.length + k ≤ 140737488355328) : compact_number.f r (a : Int) (k : Int) = some (r ++ lb a k) := by
  simp only [compact_number.f]
  have h : loopO (compact_number.s0 (k : Int)) (r, (a : Int), 0) = some (r ++ lb a k, ((a / 2 ^ (8 * k) : Nat) : Int)) := by
    refine loop_run (fun j => (r ++ lb a j, ((a / 2 ^ (8 * j) : Nat) : Int), (j : Int))) k (by simp [lb]) (fun j hj => ?_) ?_
    · simp only [compact_number.s0]
      have e1 : IntKind.u8.wrap ((a / 2 ^ (8 * j) : Nat) : Int) = ((a / 2 ^ (8 * j) % 256 : Nat) : Int) := by rw [u8e]; generalize a / 2 ^ (8 * j) = q; omega
      have e2 : sR .u64 ((a / 2 ^ (8 * j) : Nat) : Int) 8 = ((a / 2 ^ (8 * (j + 1)) : Nat) : Int) := by
        have := sR_div .u64 (a := a / 2 ^ (8 * j)) (n := 8) (by decide)
        rw [Nat.div_div_eq_div_mul, ← Nat.pow_add] at this
        exact this
      rw [if_pos (by omega), if_pos (by simp [lb_len]; omega), e1, e2, winc j (by omega), List.append_assoc]
      have : lb a j ++ [((a / 2 ^ (8 * j) % 256 : Nat) : Int)] = lb a (j + 1) := by
        unfold lb; rw [range_map_succ]
      rw [this]
    · simp only [compact_number.s0]
      rw [if_neg (by omega)]
  rw [h, Option.bind_some]
theorem four_eq (b : List Int) (a : Nat) (ha : a < 4294967296) (hl : b.length + 4 ≤ 140737488355328) : compact_Four.f b (a : Int) = some (b ++ lb a 4) := by
  have := number_eq' b a 4 (by omega) hl
  simp only [compact_Four.f, bytes_Clone.f]
  rw [wu64 (by omega) (by omega), if_pos (by omega), Option.bind_some]
  rw [show ((4 : Nat) : Int) = 4 from rfl] at this
  rw [this, Option.bind_some]
theorem lb4_inj {a b : Nat} (ha : a < 4294967296) (hb : b < 4294967296) : lb a 4 = lb b 4 ↔ a = b := by
  constructor
  · intro h
    simp [lb, List.range_succ] at h
    omega
  · rintro rfl; rfl
structure HN where
  v : Nat
  p : List Int
  r : List Int
  t : Nat
  w : Nat
  n : Nat
deriving DecidableEq
structure HN.Ok (h : HN) : Prop where
  v : h.v < 4294967296
  p : h.p.length = 32
  r : h.r.length = 32
  t : h.t < 4294967296
  w : h.w < 4294967296
  n : h.n < 4294967296
def HN.h (h : HN) : Head := ⟨h.v, h.p, h.r, h.t, h.w, h.n⟩
theorem hn_of {μ : Store} {x : Head} (h : HeadW μ x) : ∃ y : HN, x = y.h ∧ y.Ok := by
  obtain ⟨a, b, c, d, e, f⟩ := h
  obtain ⟨v, ev, hv⟩ := nat_of (k := .u32) rfl a
  obtain ⟨t, et, ht⟩ := nat_of (k := .u32) rfl d
  obtain ⟨w, ew, hw⟩ := nat_of (k := .u32) rfl e
  obtain ⟨n, en, hn⟩ := nat_of (k := .u32) rfl f
  refine ⟨⟨v, x.Prev, x.Root, t, w, n⟩, ?_, ⟨hv, b.1, c.1, ht, hw, hn⟩⟩
  obtain ⟨x1, x2, x3, x4, x5, x6⟩ := x
  simp only at ev et ew en
  subst ev et ew en
  rfl
def hb (h : HN) : List Int := lb h.v 4 ++ (h.p ++ (h.r ++ (lb h.t 4 ++ (lb h.w 4 ++ lb h.n 4))))
theorem hb_len {h : HN} (o : h.Ok) : (hb h).length = 80 := by simp [hb, lb_len, o.p, o.r]
theorem hbytes_eq {h : HN} (o : h.Ok) : head_Bytes.f h.h = some (hb h) := by
  simp only [head_Bytes.f, HN.h]
  have hv := o.v
  have ht := o.t
  have hw := o.w
  have hn := o.n
  rw [four_eq [] h.v hv (by simp), Option.bind_some, concat_eq _ (by simp) (by simp [lb_len, o.p, o.r]), Option.bind_some, four_eq _ h.t ht (by simp [lb_len, o.p, o.r]), Option.bind_some, four_eq _ h.w hw (by simp [lb_len, o.p, o.r]), Option.bind_some, four_eq _ h.n hn (by simp [lb_len, o.p, o.r]), Option.bind_some]
  simp [hb]
theorem hb_inj {a b : HN} (oa : a.Ok) (ob : b.Ok) : hb a = hb b ↔ a = b := by
  constructor
  · intro h
    unfold hb at h
    obtain ⟨e1, h⟩ := List.append_inj h (by rw [lb_len, lb_len])
    obtain ⟨e2, h⟩ := List.append_inj h (by rw [oa.p, ob.p])
    obtain ⟨e3, h⟩ := List.append_inj h (by rw [oa.r, ob.r])
    obtain ⟨e4, h⟩ := List.append_inj h (by rw [lb_len, lb_len])
    obtain ⟨e5, h⟩ := List.append_inj h (by rw [lb_len, lb_len])
    have f1 := (lb4_inj oa.v ob.v).1 e1
    have f4 := (lb4_inj oa.t ob.t).1 e4
    have f5 := (lb4_inj oa.w ob.w).1 e5
    have f6 := (lb4_inj oa.n ob.n).1 h
    clear e1 e4 e5 h oa ob
    obtain ⟨a1, a2, a3, a4, a5, a6⟩ := a
    obtain ⟨b1, b2, b3, b4, b5, b6⟩ := b
    simp only at f1 e2 e3 f4 f5 f6
    rw [f1, e2, e3, f4, f5, f6]
  · rintro rfl; rfl
theorem same_eq {a b : HN} (oa : a.Ok) (ob : b.Ok) : sargassoref_SameHead.f a.h b.h = some (decide (hb a = hb b)) := by
  have e : decide (hb a = hb b) = decide (a = b) := decide_eq_decide.2 (hb_inj oa ob)
  rw [e]
  simp only [sargassoref_SameHead.f, HN.h]
  rw [samehash_eq _ _ oa.p ob.p, samehash_eq _ _ oa.r ob.r]
  obtain ⟨a1, a2, a3, a4, a5, a6⟩ := a
  obtain ⟨b1, b2, b3, b4, b5, b6⟩ := b
  simp only [Option.bind_some, HN.mk.injEq, decide_eq_true_eq, Int.natCast_inj]
  by_cases c1 : a1 = b1
  · by_cases c2 : a2 = b2
    · by_cases c3 : a3 = b3
      · by_cases c4 : a4 = b4
        · by_cases c5 : a5 = b5
          · simp [c1, c2, c3, c4, c5]
          · simp [c1, c2, c3, c4, c5]
        · simp [c1, c2, c3, c4]
      · simp [c1, c2, c3]
    · simp [c1, c2]
  · simp [c1]
theorem first5 : sargassolaw5_first.f = some true := by
  simp only [sargassolaw5_first.f]
  have := hbytes_eq (h := ⟨0, List.replicate 32 0, List.replicate 32 0, 0, 0, 0⟩) ⟨by decide, by simp, by simp, by decide, by decide, by decide⟩
  rw [show (⟨0, List.replicate 32 0, List.replicate 32 0, 0, 0, 0⟩ : Head) = HN.h ⟨0, List.replicate 32 0, List.replicate 32 0, 0, 0, 0⟩ from rfl, this, Option.bind_some, hb_len ⟨by decide, by simp, by simp, by decide, by decide, by decide⟩]
  rfl
end Go.Proofs.YtpeelghbhihgkaaDoor.T
namespace Go.Proofs.YtpeelghbhihgkaaDoor.T
open Go Go.Proofs Go.Proofs.YtpeelghbhihgkaaDoor.K
set_option linter.unusedVariables false
set_option linter.unusedSimpArgs false
def sl : List Er := [xErrEnd, xErrShape, xErrLong, xErrMany, xErrValue, xErrTwice, xErrBase, xErrRoot, xErrKnown, xErrParent, xErrInvalid, xErrTime, xErrMissing, xErrKey, xErrYoung, xErrEarly, xErrLess, xErrReward, xErrClash, xErrLimit, xErrFull, xErrRange, xErrNone, xErrWord, xErrNumber]
theorem sl_plain : ∀ e ∈ sl, e ≠ .b 0 ∧ e.isP = false := by decide
theorem alike_eq {e f : Er} (he : e ≠ .b 0) (hf : f ≠ .b 0) (hp : e.isP = false) : sargassosee_Alike.f e f = some (decide (e = f)) := by
  simp only [sargassosee_Alike.f]
  rw [if_neg he, Option.bind_some, if_neg (by simpa using hf), if_pos]
  cases e with
  | pl _ _ => cases hp
  | b n =>
    cases f with
    | pl _ _ => cases n <;> rfl
    | b m =>
      cases n with
      | zero => exact absurd rfl he
      | succ n => rfl
theorem gd {α : Type} (l : List α) (d : α) {i : Nat} (h : i < l.length) : l.getD i d = l[i] := by simp [List.getD, h]
theorem sl_ne : ∀ i, i < 25 → ∀ j, j < 25 → i ≠ j → sl.getD i (.b 0) ≠ sl.getD j (.b 0) := by decide +kernel
theorem sentinel_at (k : Nat) (hk : k < 25) : sargassosee_sentinel.f (sl.getD k (.b 0)) = some (101 + (k : Int)) := by
  have hl : sl.length = 25 := rfl
  have hmem : ∀ i, i < 25 → sl.getD i (.b 0) ∈ sl := fun i hi => by
    have e := gd sl (.b 0) (i := i) (by omega)
    rw [e]; exact List.getElem_mem _
  have h0 : sargassosee_sentinels.f = some sl := rfl
  unfold sargassosee_sentinel.f
  rw [h0, Option.bind_some]
  have hs : ∀ i : Nat, i < 25 → sargassosee_sentinel.s0 (sl.getD k (.b 0)) sl (i : Int) = if k = i then some (.inr (IntKind.i64.wrap (101 + (i : Int)))) else some (.inl (IntKind.i64.wrap ((i : Int) + 1))) := fun i hi => by
    simp only [sargassosee_sentinel.s0]
    rw [if_pos (by omega), if_pos (by omega), Int.toNat_natCast, alike_eq (sl_plain _ (hmem k hk)).1 (sl_plain _ (hmem i hi)).1 (sl_plain _ (hmem k hk)).2, Option.bind_some]
    by_cases h : k = i
    · subst h; rw [if_pos (by simp), if_pos rfl]
    · rw [if_neg (by simpa using sl_ne k hk i hi h), if_neg h]
  have key := loop_idx (step := sargassosee_sentinel.s0 (sl.getD k (.b 0)) sl) (fun i => (i : Int)) k (fun i hi => by rw [hs i (by omega), if_neg (by omega), winc i (by omega)])
  have e0 : ((0 : Nat) : Int) = 0 := rfl
  simp only [e0] at key
  have h1 := hs k hk
  rw [if_pos rfl] at h1
  rw [key, loopO_inr h1, w64 (by omega) (by omega)]
theorem samefault_bare (a b : Int) : sargassoref_SameFault.f ⟨a, false, 0, false, 0⟩ ⟨b, false, 0, false, 0⟩ = some (decide (a = b)) := by
  simp only [sargassoref_SameFault.f]
  by_cases h : a = b
  · simp [h]
  · simp [h]
theorem fault_at (k : Nat) (hk : k < 25) : sargassosee_Fault.f (sl.getD k (.b 0)) = some ⟨101 + (k : Int), false, 0, false, 0⟩ := by
  have hm : sl.getD k (.b 0) ∈ sl := by
    have hl : sl.length = 25 := rfl
    have e := gd sl (.b 0) (i := k) (by omega)
    rw [e]; exact List.getElem_mem _
  obtain ⟨h1, h2⟩ := sl_plain _ hm
  simp only [sargassosee_Fault.f]
  rw [if_neg h1, if_neg (by rw [h2]; decide), sentinel_at k hk]
  rfl
theorem is_at (k : Nat) (hk : k < 25) (c : Int) : sargassosee_Is.f (sl.getD k (.b 0)) c = some (decide (101 + (k : Int) = c)) := by
  simp only [sargassosee_Is.f, sargassosee_Same.f, sargassoref_Bare.f, Option.bind_some]
  rw [fault_at k hk, Option.bind_some, samefault_bare, Option.bind_some, Option.bind_some]
theorem is_end (c : Int) : sargassosee_Is.f xErrEnd c = some (decide (101 = c)) := is_at 0 (by decide) c
theorem is_shape (c : Int) : sargassosee_Is.f xErrShape c = some (decide (102 = c)) := is_at 1 (by decide) c
end Go.Proofs.YtpeelghbhihgkaaDoor.T
namespace Go.Proofs.YtpeelghbhihgkaaDoor.T
open Go Go.Proofs Go.Proofs.YtpeelghbhihgkaaDoor.K
set_option linter.unusedVariables false
set_option linter.unusedSimpArgs false
def Bs (l : List Int) : Prop := ∀ x ∈ l, InR .u8 x
theorem Bs.app {l m : List Int} (h : Bs l) (k : Bs m) : Bs (l ++ m) := fun x hx => (List.mem_append.1 hx).elim (h x) (k x)
theorem Bs.take {l : List Int} (h : Bs l) (n : Nat) : Bs (l.take n) := fun x hx => h x (List.mem_of_mem_take hx)
theorem Bs.drop {l : List Int} (h : Bs l) (n : Nat) : Bs (l.drop n) := fun x hx => h x (List.mem_of_mem_drop hx)
theorem bs_lb (a m : Nat) : Bs (lb a m) := fun x hx => by
  obtain ⟨j, _, rfl⟩ := List.mem_map.1 hx
  simp only [InR]
  omega
theorem bs_nil : Bs [] := fun x hx => by cases hx
def vl : List Int → Nat
  | [] => 0
  | b :: l => b.toNat + 256 * vl l
theorem vl_snoc (l : List Int) (b : Int) : vl (l ++ [b]) = vl l + 256 ^ l.length * b.toNat := by
  induction l with
  | nil => simp [vl]
  | cons x l ih => simp only [List.cons_append, vl, ih, List.length_cons, Nat.pow_succ]; rw [Nat.mul_add, Nat.mul_comm (256 ^ l.length) 256, Nat.mul_assoc]; omega
theorem vl_lt {l : List Int} (h : Bs l) : vl l < 256 ^ l.length := by
  induction l with
  | nil => simp [vl]
  | cons x l ih =>
    have h1 := ih fun y hy => h y (by simp [hy])
    obtain ⟨h2, h3⟩ := h x (by simp)
    simp only [vl, List.length_cons, Nat.pow_succ]
    omega
theorem vl_lb (a m : Nat) : vl (lb a m) = a % 256 ^ m := by
  induction m with
  | zero => simp [lb, vl, Nat.mod_one]
  | succ m ih =>
    have e : lb a (m + 1) = lb a m ++ [((a / 2 ^ (8 * m) % 256 : Nat) : Int)] := by unfold lb; rw [range_map_succ]
    rw [e, vl_snoc, ih, lb_len, Int.toNat_natCast, Nat.pow_mul]
    exact (Nat.mod_mul (x := a) (a := 256 ^ m) (b := 256)).symm
theorem lb_vl {l : List Int} (h : Bs l) : lb (vl l) l.length = l := by
  induction l with
  | nil => rfl
  | cons x l ih =>
    have ih := ih fun y hy => h y (by simp [hy])
    obtain ⟨h2, h3⟩ := h x (by simp)
    have e : ∀ a m, lb a (m + 1) = ((a % 256 : Nat) : Int) :: lb (a / 256) m := fun a m => by
      unfold lb
      rw [List.range_succ_eq_map, List.map_cons, List.map_map]
      refine List.cons_eq_cons.2 ⟨by simp, List.map_congr_left fun j _ => ?_⟩
      simp only [Function.comp]
      rw [Nat.succ_eq_add_one, Nat.mul_add, Nat.mul_one, Nat.pow_add, Nat.mul_comm (2 ^ (8 * j)), ← Nat.div_div_eq_div_mul]
    simp only [List.length_cons, vl]
    rw [e]
    have e1 : (x.toNat + 256 * vl l) % 256 = x.toNat := by omega
    have e2 : (x.toNat + 256 * vl l) / 256 = vl l := by omega
    rw [e1, e2, ih]
    congr 1
    omega
theorem or_shift (a b i : Nat) (ha : a < 256 ^ i) (hb : b < 256) (hi : i < 8) : bOr .u64 (a : Int) (sL .u64 (b : Int) ((8 * i : Nat) : Int)) = ((a + 256 ^ i * b : Nat) : Int) := by
  have e1 : (256 : Nat) ^ i = 2 ^ (8 * i) := by rw [Nat.pow_mul]
  have h64 : (256 : Nat) ^ i * 256 ≤ 2 ^ 64 := by
    rw [e1, show (256 : Nat) = 2 ^ 8 from rfl, ← Nat.pow_add]
    exact Nat.pow_le_pow_right (by decide) (by omega)
  have hlt : 256 ^ i * b < 2 ^ 64 := Nat.lt_of_lt_of_le (Nat.mul_lt_mul_of_pos_left hb (Nat.pow_pos (by decide))) h64
  have hs : sL .u64 (b : Int) ((8 * i : Nat) : Int) = ((256 ^ i * b : Nat) : Int) := by
    unfold sL
    have em : min ((8 * i : Nat) : Int).toNat IntKind.u64.bits = 8 * i := by simp [IntKind.bits]; omega
    rw [em]
    have e2 : (b : Int) * 2 ^ (8 * i) = ((256 ^ i * b : Nat) : Int) := by
      rw [e1]; push_cast; exact Int.mul_comm _ _
    rw [e2]
    exact wu64 (by omega) (by omega)
  rw [hs, bOr_nat .u64 rfl (by simp only [IntKind.bits]; exact Nat.lt_of_lt_of_le ha (by omega)) (by simpa [IntKind.bits] using hlt)]
  congr 1
  have := Nat.two_pow_add_eq_or_of_lt (i := 8 * i) (b := a) (by rw [← e1]; exact ha) b
  rw [← e1] at this
  rw [Nat.or_comm, ← this, Nat.add_comm]
def nx (n : Nat) (s : List Int × Er) : List Int × (List Int × Er) :=
  if s.2 ≠ .b 0 then ([], s) else if s.1.length < n then ([], (s.1, xErrEnd)) else (s.1.take n, (s.1.drop n, s.2))
def Rep (r : compactReader) (s : List Int × Er) : Prop := ∃ pre, r = ⟨pre ++ s.1, (pre.length : Int), s.2⟩ ∧ (pre ++ s.1).length ≤ 1000000 ∧ Bs s.1
theorem nx_bs {n : Nat} {s : List Int × Er} (h : Bs s.1) : Bs (nx n s).1 ∧ Bs (nx n s).2.1 := by
  unfold nx
  split
  · exact ⟨bs_nil, h⟩
  · split
    · exact ⟨bs_nil, h⟩
    · exact ⟨h.take _, h.drop _⟩
theorem nx_len (n : Nat) (s : List Int × Er) : (nx n s).1.length ≤ n := by
  unfold nx
  split
  · simp
  · split
    · simp
    · simp; omega
theorem next_eq {r : compactReader} {s : List Int × Er} (h : Rep r s) (n : Nat) : ∃ r', compact_Reader_next.f r (n : Int) = some ((nx n s).1, r') ∧ Rep r' (nx n s).2 := by
  obtain ⟨pre, rfl, hl, hbs⟩ := h
  obtain ⟨rest, e⟩ := s
  simp only at hl hbs ⊢
  rw [List.length_append] at hl
  simp only [compact_Reader_next.f, nx]
  by_cases he : e = .b 0
  · subst he
    rw [if_neg (show ¬ (Er.b 0 ≠ Er.b 0) from fun h => h rfl), if_neg (show ¬ (Er.b 0 ≠ Er.b 0) from fun h => h rfl)]
    have w1 : IntKind.i64.wrap (((pre ++ rest).length : Int) - (pre.length : Int)) = (rest.length : Int) := by
      rw [List.length_append, w64 (by omega) (by omega)]; omega
    rw [w1]
    by_cases hc : rest.length < n
    · rw [if_pos (by omega), if_pos hc]
      exact ⟨_, rfl, pre, rfl, by rw [List.length_append]; exact hl, hbs⟩
    · rw [if_neg (by omega), if_neg hc]
      have w2 : IntKind.i64.wrap ((pre.length : Int) + (n : Int)) = ((pre.length + n : Nat) : Int) := by rw [w64 (by omega) (by omega)]; omega
      have w3 : IntKind.i64.wrap (((pre.length + n : Nat) : Int) - (n : Int)) = (pre.length : Int) := by rw [w64 (by omega) (by omega)]; omega
      rw [w2, w3, if_pos (by rw [List.length_append]; omega), Int.toNat_natCast, Int.toNat_natCast]
      have e1 : ((pre ++ rest).take (pre.length + n)).drop pre.length = rest.take n := by
        rw [List.take_append, List.take_of_length_le (by omega), Nat.add_sub_cancel_left, List.drop_left' rfl]
      rw [e1]
      refine ⟨_, rfl, pre ++ rest.take n, ?_, ?_, hbs.drop n⟩
      · rw [List.append_assoc, List.take_append_drop, List.length_append, List.length_take, Nat.min_eq_left (by omega)]
      · rw [List.append_assoc, List.take_append_drop, List.length_append]; exact hl
  · rw [if_pos he, if_pos he]
    exact ⟨_, rfl, pre, rfl, by rw [List.length_append]; exact hl, hbs⟩
theorem left_eq {r : compactReader} {s : List Int × Er} (h : Rep r s) : compact_Reader_Left.f r = some (s.1.length : Int) := by
  obtain ⟨pre, rfl, hl, hbs⟩ := h
  rw [List.length_append] at hl
  simp only [compact_Reader_Left.f]
  rw [List.length_append, w64 (by omega) (by omega)]
  congr 1
  omega
theorem err_eq {r : compactReader} {s : List Int × Er} (h : Rep r s) : compact_Reader_Err.f r = some s.2 := by
  obtain ⟨pre, rfl, hl, hbs⟩ := h
  rfl
theorem read_eq {b : List Int} (hb : Bs b) (hl : b.length ≤ 1000000) : ∃ r, compact_Read.f b = some r ∧ Rep r (b, .b 0) := by
  simp only [compact_Read.f, bytes_Clone.f]
  rw [if_pos (by omega), Option.bind_some]
  exact ⟨_, rfl, [], rfl, by simpa using hl, hb⟩
def wh (n : Nat) (s : List Int × Er) : Nat × (List Int × Er) := (vl (nx n s).1, (nx n s).2)
theorem vl_step (l : List Int) (hb : Bs l) (i : Nat) (hi : i < l.length) (h8 : l.length ≤ 8) : bOr .u64 ((vl (l.take i) : Nat) : Int) (sL .u64 (IntKind.u64.wrap (l.getD i 0)) ((8 * i : Nat) : Int)) = ((vl (l.take (i + 1)) : Nat) : Int) := by
  have hm : l.getD i 0 ∈ l := by
    have e : l.getD i 0 = l[i] := by simp [List.getD, hi]
    rw [e]; exact List.getElem_mem hi
  obtain ⟨h2, h3⟩ := hb _ hm
  have hlt := vl_lt (hb.take i)
  rw [List.length_take, Nat.min_eq_left (by omega)] at hlt
  rw [← take_next l i 0 hi, vl_snoc, List.length_take, Nat.min_eq_left (by omega), wu64 (by omega) (by omega)]
  have e : l.getD i 0 = (((l.getD i 0).toNat : Nat) : Int) := by omega
  have := or_shift (vl (l.take i)) (l.getD i 0).toNat i hlt (by omega) (by omega)
  rw [← e] at this
  exact this
theorem whole_eq {r : compactReader} {s : List Int × Er} (h : Rep r s) (n : Nat) (hn : n ≤ 8) : ∃ r', compact_Reader_whole.f r (n : Int) = some (((wh n s).1 : Int), r') ∧ Rep r' (wh n s).2 := by
  obtain ⟨r', h1, h2⟩ := next_eq h n
  have hb := (nx_bs (n := n) (show Bs s.1 from h.elim fun _ h => h.2.2)).1
  have hlen := nx_len n s
  refine ⟨r', ?_, h2⟩
  simp only [compact_Reader_whole.f, wh]
  rw [h1, Option.bind_some]
  generalize (nx n s).1 = l at *
  have hl : loopO (compact_Reader_whole.s0 (l, r')) (0, 0) = some ((vl l : Int), r'.b, r'.at_, r'.err) := by
    refine loop_run (fun i => (((vl (l.take i) : Nat) : Int), (i : Int))) l.length (by simp [vl]) (fun i hi => ?_) ?_
    · simp only [compact_Reader_whole.s0, Int.toNat_natCast]
      have w8 : IntKind.i64.wrap (8 * (i : Int)) = ((8 * i : Nat) : Int) := by rw [w64 (by omega) (by omega)]; omega
      rw [if_pos (by omega), if_pos (by omega), w8, if_pos (by omega), winc i (by omega), vl_step l hb i hi (by omega)]
    · simp only [compact_Reader_whole.s0]
      rw [if_neg (by omega), List.take_length]
  rw [hl, Option.bind_some]
def ln (n : Nat) : Nat := if n < 253 then 1 else if n < 65536 then 3 else if n < 4294967296 then 5 else 9
def my (n : Nat) : Nat := if n = 253 then 2 else if n = 254 then 4 else if n = 255 then 8 else 0
def nm (most : Int) (s : List Int × Er) : Nat × (List Int × Er) :=
  let a := wh 1 s
  let b := if 0 < my a.1 then wh (my a.1) a.2 else a
  if b.2.2 ≠ .b 0 then (0, b.2) else if ln b.1 ≠ 1 + my a.1 then (0, (b.2.1, xErrShape)) else if most < (b.1 : Int) then (0, (b.2.1, xErrMany)) else b
theorem rfour_eq {r : compactReader} {s : List Int × Er} (h : Rep r s) : ∃ r', compact_Reader_Four.f r = some (((wh 4 s).1 : Int), r') ∧ Rep r' (wh 4 s).2 := by
  obtain ⟨r1, h1, h2⟩ := whole_eq h 4 (by omega)
  refine ⟨r1, ?_, h2⟩
  simp only [compact_Reader_Four.f]
  rw [show ((4 : Nat) : Int) = 4 from rfl] at h1
  have hlt : (wh 4 s).1 < 4294967296 := by
    have h3 := vl_lt (nx_bs (n := 4) (show Bs s.1 from h.elim fun _ h => h.2.2)).1
    have h4 := nx_len 4 s
    have : 256 ^ (nx 4 s).1.length ≤ 256 ^ 4 := Nat.pow_le_pow_right (by decide) h4
    simp only [wh]
    omega
  rw [h1, Option.bind_some, wu32 (by omega) (by omega)]
def h32 (s : List Int × Er) : List Int × (List Int × Er) := (if (nx 32 s).1 = [] then List.replicate 32 0 else (nx 32 s).1, (nx 32 s).2)
theorem nx_full (n : Nat) (s : List Int × Er) : (nx n s).1 = [] ∨ (nx n s).1.length = n := by
  unfold nx
  split
  · exact .inl rfl
  · split
    · exact .inl rfl
    · rename_i h; exact .inr (by simp; omega)
theorem rhash_eq {r : compactReader} {s : List Int × Er} (h : Rep r s) : ∃ r', compact_Reader_Hash.f r = some ((h32 s).1, r') ∧ Rep r' (h32 s).2 := by
  obtain ⟨r1, h1, h2⟩ := next_eq h 32
  refine ⟨r1, ?_, h2⟩
  simp only [compact_Reader_Hash.f, h32]
  rw [show ((32 : Nat) : Int) = 32 from rfl] at h1
  rw [h1, Option.bind_some]
  rcases nx_full 32 s with e | e
  · rw [e, if_pos rfl]; simp [cpy]
  · rw [if_neg (fun h => by rw [h] at e; cases e)]
    simp only [cpy, List.length_replicate]
    rw [List.take_of_length_le (by omega), List.drop_of_length_le (by simp; omega), List.append_nil]
def by_ (n : Int) (s : List Int × Er) : List Int × (List Int × Er) := if n ≤ 0 then ([], s) else nx n.toNat s
end Go.Proofs.YtpeelghbhihgkaaDoor.T
namespace Go.Proofs.YtpeelghbhihgkaaDoor.T
open Go Go.Proofs Go.Proofs.YtpeelghbhihgkaaDoor.K
set_option linter.unusedVariables false
set_option linter.unusedSimpArgs false
theorem xor_ne {x : Int} (hx : InR .u8 x) (j : Nat) (hj : j < 8) : bXor .u8 x (sL .u8 1 (j : Int)) ≠ x := by
  obtain ⟨a, rfl, ha⟩ := nat_of (k := .u8) rfl hx
  have e : sL .u8 1 (j : Int) = ((2 ^ j : Nat) : Int) ∧ 2 ^ j < 2 ^ 8 := by
    have : j = 0 ∨ j = 1 ∨ j = 2 ∨ j = 3 ∨ j = 4 ∨ j = 5 ∨ j = 6 ∨ j = 7 := by omega
    rcases this with rfl | rfl | rfl | rfl | rfl | rfl | rfl | rfl <;> decide
  rw [e.1, bXor_nat .u8 rfl ha e.2]
  intro h
  have h1 : a ^^^ 2 ^ j = a := by omega
  have h2 : a ^^^ (a ^^^ 2 ^ j) = a ^^^ a := by rw [h1]
  rw [← Nat.xor_assoc, Nat.xor_self, Nat.zero_xor] at h2
  have := Nat.pow_pos (n := j) (show 0 < 2 by decide)
  omega
def flip (l : List Int) (i j : Nat) : List Int := l.set i (bXor .u8 (l.getD i 0) (sL .u8 1 (j : Int)))
theorem flip_len (l : List Int) (i j : Nat) : (flip l i j).length = l.length := by simp [flip]
theorem flip_bs {l : List Int} (h : Bs l) (i j : Nat) : Bs (flip l i j) := fun x hx => by
  rcases List.mem_or_eq_of_mem_set hx with h1 | h1
  · exact h x h1
  · rw [h1]; exact wrap_in _ _
theorem flip_ne {l : List Int} (h : Bs l) {i j : Nat} (hi : i < l.length) (hj : j < 8) : flip l i j ≠ l := fun e => by
  have h1 : (flip l i j).getD i 0 = l.getD i 0 := by rw [e]
  have h2 : (flip l i j).getD i 0 = bXor .u8 (l.getD i 0) (sL .u8 1 (j : Int)) := by simp [flip, List.getD, hi]
  have h3 : InR .u8 (l.getD i 0) := by
    have : l.getD i 0 = l[i] := by simp [List.getD, hi]
    rw [this]; exact h _ (List.getElem_mem hi)
  exact xor_ne h3 j hj (h2.symm.trans h1)
theorem bit_at {k : Nat} (hk : k < 1000000) : IntKind.i64.wrap (Int.tdiv (k : Int) 8) = ((k / 8 : Nat) : Int) ∧ IntKind.u64.wrap (Int.tmod (k : Int) 8) = ((k % 8 : Nat) : Int) := by
  rw [Int.tdiv_eq_ediv_of_nonneg (by omega), Int.tmod_eq_emod_of_nonneg (by omega), w64 (by omega) (by omega), wu64 (by omega) (by omega)]
  omega
end Go.Proofs.YtpeelghbhihgkaaDoor.T
namespace Go.Proofs.YtpeelghbhihgkaaDoor.T
open Go Go.Proofs Go.Proofs.YtpeelghbhihgkaaDoor.K
set_option linter.unusedVariables false
set_option linter.unusedSimpArgs false
theorem nx_app {n : Nat} {l t : List Int} (h : l.length = n) : nx n (l ++ t, .b 0) = (l, (t, .b 0)) := by
  unfold nx
  rw [if_neg (fun h => h rfl), if_neg (by simp; omega)]
  simp only
  rw [List.take_left' h, List.drop_left' h]
theorem nx_end {n : Nat} {l : List Int} (h : l.length < n) : nx n (l, .b 0) = ([], (l, xErrEnd)) := by
  unfold nx
  rw [if_neg (fun h => h rfl), if_pos h]
theorem nx_err {n : Nat} {l : List Int} {e : Er} (h : e ≠ .b 0) : nx n (l, e) = ([], (l, e)) := by
  unfold nx
  rw [if_pos h]
end Go.Proofs.YtpeelghbhihgkaaDoor.T
namespace Go.Proofs.YtpeelghbhihgkaaDoor.T
open Go Go.Proofs Go.Proofs.YtpeelghbhihgkaaDoor.K
set_option linter.unusedVariables false
set_option linter.unusedSimpArgs false
def run : List Nat → List Int × Er → List Int × Er
  | [], s => s
  | n :: ns, s => run ns (nx n s).2
theorem run_err (ns : List Nat) {l : List Int} {e : Er} (h : e ≠ .b 0) : run ns (l, e) = (l, e) := by
  induction ns with
  | nil => rfl
  | cons n ns ih => rw [run, nx_err h]; exact ih
theorem run_end (ns : List Nat) (l : List Int) (h : l.length < ns.sum) : (run ns (l, .b 0)).2 = xErrEnd := by
  induction ns generalizing l with
  | nil => simp at h
  | cons n ns ih =>
    rw [run]
    by_cases hn : l.length < n
    · rw [nx_end hn, run_err ns (by decide)]
    · have e : nx n (l, .b 0) = (l.take n, (l.drop n, .b 0)) := by
        unfold nx
        rw [if_neg (fun h => h rfl), if_neg hn]
      rw [e]
      refine ih _ ?_
      rw [List.sum_cons] at h
      rw [List.length_drop]
      omega
theorem run_kn (ns : List Nat) (s : List Int × Er) (h : s.2 = .b 0 ∨ s.2 = xErrEnd) : (run ns s).2 = .b 0 ∨ (run ns s).2 = xErrEnd := by
  induction ns generalizing s with
  | nil => exact h
  | cons n ns ih =>
    refine ih _ ?_
    unfold nx
    split
    · exact h
    · split
      · exact .inr rfl
      · exact h
def hns : List Nat := [4, 32, 32, 4, 4, 4]
def zhead : Head := ⟨0, List.replicate 32 0, List.replicate 32 0, 0, 0, 0⟩
def hparse (s : List Int × Er) : Head := ⟨(wh 4 s).1, (h32 (run [4] s)).1, (h32 (run [4, 32] s)).1, (wh 4 (run [4, 32, 32] s)).1, (wh 4 (run [4, 32, 32, 4] s)).1, (wh 4 (run [4, 32, 32, 4, 4] s)).1⟩
theorem htake_eq {r : compactReader} {s : List Int × Er} (h : Rep r s) : ∃ r', head_Take.f r = some ((if (run hns s).2 ≠ .b 0 then zhead else hparse s), r') ∧ Rep r' (run hns s) := by
  obtain ⟨r1, e1, p1⟩ := rfour_eq h
  obtain ⟨r2, e2, p2⟩ := rhash_eq p1
  obtain ⟨r3, e3, p3⟩ := rhash_eq p2
  obtain ⟨r4, e4, p4⟩ := rfour_eq p3
  obtain ⟨r5, e5, p5⟩ := rfour_eq p4
  obtain ⟨r6, e6, p6⟩ := rfour_eq p5
  simp only [head_Take.f]
  rw [e1, Option.bind_some, e2, Option.bind_some, e3, Option.bind_some, e4, Option.bind_some, e5, Option.bind_some, e6, Option.bind_some, err_eq p6, Option.bind_some]
  have hr : (wh 4 (wh 4 (wh 4 (h32 (h32 (wh 4 s).2).2).2).2).2).2 = run hns s := rfl
  rw [hr] at p6 ⊢
  refine ⟨r6, ?_, p6⟩
  by_cases hc : (run hns s).2 = .b 0
  · rw [if_neg (fun h => h hc), if_neg (fun h => h hc)]; rfl
  · rw [if_pos hc, if_pos hc]; rfl
theorem hread_eq {b : List Int} (hb : Bs b) (hl : b.length ≤ 1000000) : head_Read.f b = some (if (run hns (b, .b 0)).2 ≠ .b 0 then (zhead, (run hns (b, .b 0)).2) else if 0 < (run hns (b, .b 0)).1.length then (zhead, xErrShape) else (hparse (b, .b 0), .b 0)) := by
  obtain ⟨r1, e1, p1⟩ := read_eq hb hl
  obtain ⟨r2, e2, p2⟩ := htake_eq p1
  have hk := run_kn hns (b, .b 0) (.inl rfl)
  simp only [head_Read.f]
  rw [e1, Option.bind_some, e2, Option.bind_some]
  simp only
  rw [err_eq p2, Option.bind_some]
  by_cases hc : (run hns (b, .b 0)).2 = .b 0
  · have n1 : ¬ ((run hns (b, .b 0)).2 ≠ .b 0) := fun h => h hc
    rw [if_neg n1, left_eq p2, Option.bind_some, if_neg n1, if_neg n1]
    by_cases hz : 0 < (run hns (b, .b 0)).1.length
    · rw [if_pos (show 0 < ((run hns (b, .b 0)).1.length : Int) by omega), if_pos hz, if_pos (show xErrShape ∈ ([(Er.b 0), xErrShape, xErrEnd] : List Er) by decide)]; rfl
    · rw [if_neg (show ¬ 0 < ((run hns (b, .b 0)).1.length : Int) by omega), if_neg hz, if_pos (show (Er.b 0) ∈ ([(Er.b 0), xErrShape, xErrEnd] : List Er) by decide)]
  · have n2 : (run hns (b, .b 0)).2 ∈ ([(Er.b 0), xErrShape, xErrEnd] : List Er) := by
      rcases hk with h | h
      · exact absurd h hc
      · rw [h]; decide
    rw [if_pos hc, Option.bind_some, if_pos n2, if_pos hc]
    rfl
theorem hn_read {h : HN} (o : h.Ok) (hp : Bs h.p) (hr : Bs h.r) (t : List Int) : run hns (hb h ++ t, .b 0) = (t, .b 0) ∧ hparse (hb h ++ t, .b 0) = h.h := by
  have ov := o.v
  have ot := o.t
  have ow := o.w
  have on := o.n
  have e : hb h ++ t = lb h.v 4 ++ (h.p ++ (h.r ++ (lb h.t 4 ++ (lb h.w 4 ++ (lb h.n 4 ++ t))))) := by simp [hb]
  have k1 : nx 4 (hb h ++ t, .b 0) = (lb h.v 4, (h.p ++ (h.r ++ (lb h.t 4 ++ (lb h.w 4 ++ (lb h.n 4 ++ t)))), .b 0)) := by rw [e]; exact nx_app (lb_len _ _)
  have k2 : nx 32 (h.p ++ (h.r ++ (lb h.t 4 ++ (lb h.w 4 ++ (lb h.n 4 ++ t)))), .b 0) = (h.p, (h.r ++ (lb h.t 4 ++ (lb h.w 4 ++ (lb h.n 4 ++ t))), .b 0)) := nx_app o.p
  have k3 : nx 32 (h.r ++ (lb h.t 4 ++ (lb h.w 4 ++ (lb h.n 4 ++ t))), .b 0) = (h.r, (lb h.t 4 ++ (lb h.w 4 ++ (lb h.n 4 ++ t)), .b 0)) := nx_app o.r
  have k4 : nx 4 (lb h.t 4 ++ (lb h.w 4 ++ (lb h.n 4 ++ t)), .b 0) = (lb h.t 4, (lb h.w 4 ++ (lb h.n 4 ++ t), .b 0)) := nx_app (lb_len _ _)
  have k5 : nx 4 (lb h.w 4 ++ (lb h.n 4 ++ t), .b 0) = (lb h.w 4, (lb h.n 4 ++ t, .b 0)) := nx_app (lb_len _ _)
  have k6 : nx 4 (lb h.n 4 ++ t, .b 0) = (lb h.n 4, (t, .b 0)) := nx_app (lb_len _ _)
  refine ⟨by simp only [hns, run, k1, k2, k3, k4, k5, k6], ?_⟩
  have np : h.p ≠ [] := fun z => by have := o.p; rw [z] at this; cases this
  have nr : h.r ≠ [] := fun z => by have := o.r; rw [z] at this; cases this
  simp only [hparse, run, wh, h32, k1, k2, k3, k4, k5, k6, if_neg np, if_neg nr, vl_lb]
  rw [Nat.mod_eq_of_lt (by omega), Nat.mod_eq_of_lt (by omega), Nat.mod_eq_of_lt (by omega), Nat.mod_eq_of_lt (by omega)]
  rfl
theorem hd_of {b : List Int} (hbs : Bs b) (hl : b.length = 80) : ∃ h : HN, h.Ok ∧ Bs h.p ∧ Bs h.r ∧ b = hb h := by
  have part : ∀ (l : List Int) (n : Nat), Bs l → l.length = n → lb (vl l) n = l := fun l n h1 h2 => by rw [← h2]; exact lb_vl h1
  have lt : ∀ (l : List Int), Bs l → l.length = 4 → vl l < 4294967296 := fun l h1 h2 => by
    have := vl_lt h1
    rw [h2] at this
    exact this
  have split : ∀ (l : List Int) (n : Nat), l = l.take n ++ l.drop n := fun l n => (List.take_append_drop n l).symm
  refine ⟨⟨vl (b.take 4), (b.drop 4).take 32, (b.drop 36).take 32, vl ((b.drop 68).take 4), vl ((b.drop 72).take 4), vl (b.drop 76)⟩, ⟨?_, ?_, ?_, ?_, ?_, ?_⟩, (hbs.drop 4).take 32, (hbs.drop 36).take 32, ?_⟩
  · exact lt _ (hbs.take 4) (by simp; omega)
  · simp; omega
  · simp; omega
  · exact lt _ ((hbs.drop 68).take 4) (by simp; omega)
  · exact lt _ ((hbs.drop 72).take 4) (by simp; omega)
  · exact lt _ (hbs.drop 76) (by simp; omega)
  · simp only [hb]
    rw [part _ 4 (hbs.take 4) (by simp; omega), part _ 4 ((hbs.drop 68).take 4) (by simp; omega), part _ 4 ((hbs.drop 72).take 4) (by simp; omega), part _ 4 (hbs.drop 76) (by simp; omega)]
    have e5 : (b.drop 72).take 4 ++ b.drop 76 = b.drop 72 := by have := split (b.drop 72) 4; rw [List.drop_drop] at this; exact this.symm
    have e4 : (b.drop 68).take 4 ++ b.drop 72 = b.drop 68 := by have := split (b.drop 68) 4; rw [List.drop_drop] at this; exact this.symm
    have e3 : (b.drop 36).take 32 ++ b.drop 68 = b.drop 36 := by have := split (b.drop 36) 32; rw [List.drop_drop] at this; exact this.symm
    have e2 : (b.drop 4).take 32 ++ b.drop 36 = b.drop 4 := by have := split (b.drop 4) 32; rw [List.drop_drop] at this; exact this.symm
    rw [e5, e4, e3, e2, List.take_append_drop]
end Go.Proofs.YtpeelghbhihgkaaDoor.T
namespace Go.Proofs.YtpeelghbhihgkaaDoor.T
open Go Go.Proofs Go.Proofs.YtpeelghbhihgkaaDoor.K
set_option linter.unusedVariables false
set_option linter.unusedSimpArgs false
theorem sargassolaw5_HeadBack.m (μ : Store) (x0 : Head) (h0 : HeadW μ x0) (x1 : Int) (h1 : InR .i64 x1) (x2 : Int) (h2 : InR .i64 x2) : sargassolaw5_HeadBack.f x0 x1 x2 = some true := by
  obtain ⟨a, rfl, oa⟩ := hn_of h0
  have ap : Bs a.p := h0.2.1.2
  have ar : Bs a.r := h0.2.2.1.2
  have la := hb_len oa
  have ba : Bs (hb a) := by
    unfold hb
    exact (bs_lb _ _).app (ap.app (ar.app ((bs_lb _ _).app ((bs_lb _ _).app (bs_lb _ _)))))
  obtain ⟨y, ey, y0, y1⟩ := number_eq (x := x1) (n := 80) h1 (by omega) (by omega)
  obtain ⟨k, rfl⟩ : ∃ k : Nat, y = k := ⟨y.toNat, by omega⟩
  obtain ⟨z, ez, z0, z1⟩ := number_eq (x := x2) (n := 640) h2 (by omega) (by omega)
  obtain ⟨j, rfl⟩ : ∃ j : Nat, z = j := ⟨z.toNat, by omega⟩
  obtain ⟨d1, d2⟩ := bit_at (k := j) (by omega)
  simp only [sargassolaw5_HeadBack.f, first5, Option.bind_some, if_true, hbytes_eq oa]
  -- read as it is
  have r1 : head_Read.f (hb a) = some (a.h, .b 0) := by
    obtain ⟨q1, q2⟩ := hn_read oa ap ar []
    rw [List.append_nil] at q1 q2
    rw [hread_eq ba (by omega), q1, q2]
    rfl
  -- cut off
  have r2 : ∃ x, head_Read.f ((hb a).take k) = some (x, xErrEnd) := by
    have q := run_end hns ((hb a).take k) (by rw [List.length_take, la]; simp [hns]; omega)
    rw [hread_eq (ba.take k) (by rw [List.length_take]; omega), q]
    exact ⟨_, rfl⟩
  -- longer
  have r3 : ∃ x, head_Read.f (hb a ++ [1]) = some (x, xErrShape) := by
    obtain ⟨q1, q2⟩ := hn_read oa ap ar [1]
    rw [hread_eq (ba.app (fun x hx => by have : x = 1 := by simpa using hx
                                         subst this; simp [InR])) (by simp; omega), q1]
    exact ⟨_, rfl⟩
  -- a bit turned
  have hj : j / 8 < (hb a).length := by omega
  obtain ⟨c, oc, cp_, cr, ec⟩ := hd_of (flip_bs ba (j / 8) (j % 8)) (by rw [flip_len]; exact la)
  have r4 : head_Read.f (hb c) = some (c.h, .b 0) := by
    obtain ⟨q1, q2⟩ := hn_read oc cp_ cr []
    rw [List.append_nil] at q1 q2
    rw [hread_eq (by rw [← ec]; exact flip_bs ba _ _) (by rw [hb_len oc]; omega), q1, q2]
    rfl
  have hne : hb c ≠ hb a := by rw [← ec]; exact flip_ne ba hj (by omega)
  obtain ⟨x2', r2⟩ := r2
  obtain ⟨x3', r3⟩ := r3
  have e4 : (hb a).set (j / 8) (bXor .u8 ((hb a).getD (j / 8) 0) (sL .u8 1 ((j % 8 : Nat) : Int))) = hb c := ec
  rw [if_neg (by omega), r1, Option.bind_some, ey, Option.bind_some, if_pos (by omega), Int.toNat_natCast, show Int.toNat 0 = 0 from rfl, List.drop_zero, r2, Option.bind_some, bytes_eq _ (by omega), Option.bind_some, if_pos (by omega), r3, Option.bind_some, ez, Option.bind_some, d1, d2, if_pos (by omega), if_pos (by omega), Int.toNat_natCast, e4, r4, Option.bind_some]
  have s1 : sargassosee_Is.f xErrEnd 101 = some true := by rw [is_end]; rfl
  have s2 : sargassosee_Is.f xErrShape 102 = some true := by rw [is_shape]; rfl
  simp [same_eq oa oa, same_eq oc oa, s1, s2, hne]
end Go.Proofs.YtpeelghbhihgkaaDoor.T
namespace Go.Proofs.YtpeelghbhihgkaaDoor.K
open Go Go.Proofs Go.ChangeShapes Go.WideShapes Go.RowKit
def mem (w : World) : Store := fun k => w.heap[k]?
theorem agr_mem (w : World) : Agr (mem w) w := fun _ _ h => h
theorem mem_cell {w : World} {g i : Nat} {v : Value} (h : w.cell? ⟨g, i, none⟩ = some v) : (mem w).cell g i = some v := by
  unfold World.cell? at h
  unfold Store.cell mem
  cases hm : w.heap[g]? with
  | none => simp [hm] at h
  | some o => cases o <;> simp_all
theorem wf_in {k : IntKind} {n : Int} (h : (Lit.int k n).wf = true) : InR k n := by
  cases k <;> simp [Lit.wf, IntKind.min, IntKind.max, IntKind.signed, IntKind.bits] at h <;> simp [InR] <;> omega
section
variable {H : Type} {enc : TypeId × Value → H} {P : Program} {w : World} {base : Nat} {spare : Nat → Bool} {held : Bool} {t e : TypeId}
def Rd (enc : TypeId × Value → H) (P : Program) (w : World) (base : Nat) (spare : Nat → Bool) (held : Bool) (t : TypeId) (R : List Value → Prop) : Prop :=
  ∀ fuel cs x, DataW.trod enc P w base spare held fuel t cs = some x → R cs
theorem rd_int {k : IntKind} (ht : P.underlying t = some (.int k)) : Rd enc P w base spare held t (fun c => ∃ n, RI k n c) := by
  intro fuel cs x h
  obtain ⟨n, rfl, _, hw⟩ := DataW.trod_int ht h
  exact ⟨n, rfl, wf_in hw⟩
theorem rd_array {k : IntKind} {n : Nat} (ht : P.underlying t = some (.array n e)) (he : P.underlying e = some (.int k)) (hc : P.cellsOf e = 1) (hn : P.cellsOf t = n) :
    Rd enc P w base spare held t (fun c => ∃ xs, RA k n xs c) := by
  intro fuel cs x h
  obtain ⟨xs, m, _, _, hl, hx, hf⟩ := DataW.trod_array ht h
  rw [hn] at hl
  have each : ∀ i, i < n → ∃ z, cs[i]? = some (.int k z) ∧ InR k z := by
    intro i hi
    have h1 := hf i hi
    rw [hc, Nat.mul_one, List.getElem?_eq_getElem (by omega)] at h1
    obtain ⟨z, hz, _, hw⟩ := DataW.trod_int he h1
    refine ⟨z, ?_, wf_in hw⟩
    have := congrArg (·[0]?) hz
    simpa using this
  refine ⟨cs.map fun v => match v with | .int _ z => z | _ => 0, ?_, ?_, ?_⟩
  · simp only [List.flatten_cons, List.flatten_nil, List.append_nil]
    apply List.ext_getElem?
    intro i
    by_cases hi : i < n
    · obtain ⟨z, hz, _⟩ := each i hi
      rw [av_get _ _ _ hi, hz]
      simp [List.getD, hz]
    · rw [List.getElem?_eq_none (by omega), List.getElem?_eq_none (by rw [av_len]; omega)]
  · simpa using hl
  · intro y hy
    obtain ⟨v, hv, rfl⟩ := List.mem_map.1 hy
    obtain ⟨i, hi, rfl⟩ := List.getElem_of_mem hv
    obtain ⟨z, hz, hr⟩ := each i (by omega)
    rw [List.getElem?_eq_getElem hi] at hz
    rw [Option.some.inj hz]
    exact hr
theorem rd_struct {fs : Array Field} {fuel : Nat} {cs : List Value} {x : DataW H × List MemPlace} (ht : P.underlying t = some (.struct fs)) (h : DataW.trod enc P w base spare held fuel t cs = some x) :
    cs.length = P.cellsOf t ∧ ∀ (i : Nat) (f : Field), fs[i]? = some f → ∃ n y, DataW.trod enc P w base spare held n f.type ((cs.drop f.offset).take (P.cellsOf f.type)) = some y := by
  obtain ⟨xs, n, _, _, hl, hx, hf⟩ := DataW.trod_struct ht h
  refine ⟨hl, fun i f hi => ?_⟩
  have h1 := hf i f hi
  have : i < fs.size := (Array.getElem?_eq_some_iff.1 hi).1
  rw [List.getElem?_eq_getElem (by omega)] at h1
  exact ⟨n, _, h1⟩
theorem chop {α : Type} (cs : List α) (o n m : Nat) (h : o + n = m) : cs.drop o = (cs.drop o).take n ++ cs.drop m := by
  subst h
  rw [← List.drop_drop, List.take_append_drop]
theorem rd_at {R : List Value → Prop} {v : Value} {d : DataW H} {ps : List MemPlace} (hr : Rd enc P w base spare held t R) (h : DataW.Trod enc P w base spare held t v d ps) : R v.cells.toList := by
  obtain ⟨fuel, hf⟩ := h
  exact hr _ _ _ hf
theorem at_agg {R : List Value → Prop} {v : Value} {d : DataW H} {ps : List MemPlace} (hv : ∃ cs, v = .agg cs) (hr : Rd enc P w base spare held t R) (h : DataW.Trod enc P w base spare held t v d ps) : ∃ cs : List Value, v = .agg cs.toArray ∧ R cs := by
  obtain ⟨cs, rfl⟩ := hv
  exact ⟨cs.toList, by simp, rd_at hr h⟩
theorem agg_struct {fs : Array Field} {r : Reach} {b0 : Nat} {v : Value} (ht : P.underlying t = some (.struct fs)) (hval : Value.okWide P w r b0 t v) : ∃ cs, v = .agg cs := let ⟨cs, h, _⟩ := okWide_struct ht hval; ⟨cs, h⟩
theorem again {W W' : World} {v : Value} {d : DataW H} {ps : List MemPlace} (hl : laidOutB P = true) (hr : P.readableRec t = true) (hrow : t < P.types.size) (h : DataW.Trod enc P W 0 (fun _ => true) true t v d ps) (hb : Below W.heap.size W W') :
    DataW.Trod enc P W' 0 (fun b => decide (b < W.heap.size)) true t v d ps :=
  Below.trod hl hr hrow h hb (fun p hp => let ⟨n, hn⟩ := h; DataW.trod_lt n _ _ _ hn p hp)
end
end Go.Proofs.YtpeelghbhihgkaaDoor.K
namespace Go.Proofs.YtpeelghbhihgkaaDoor.K
open Go Go.Proofs
set_option linter.unusedVariables false
theorem laid_each {P : Program} {W : World} : ∀ {l : List (String × DataW Unit)} {ps : List MemPlace}, DataW.LaidVars P W l ps → ∀ {n : String} {d : DataW Unit}, (n, d) ∈ l →
    ∃ g t cs fuel p, P.globalNamed n = some g ∧ (P.globals[g]?).map (·.type) = some t ∧ W.var? P n = some cs ∧ DataW.trod (fun _ => ()) P W 0 (fun _ => true) false fuel t cs.toList = some (d, p) ∧ ∀ x ∈ MemPlace.row ⟨g, 0, none⟩ cs.size ++ p, x ∈ ps
  | [], ps, h, n, d, hm => by cases hm
  | (m, e) :: r, ps, h, n, d, hm => by
    obtain ⟨g, t, cs, fuel, p, q, hg, ht, hv, hd, hr, rfl⟩ := h
    rcases List.mem_cons.1 hm with e1 | hm
    · cases e1
      exact ⟨g, t, cs, fuel, p, hg, ht, hv, hd, fun x hx => List.mem_append_left _ hx⟩
    · obtain ⟨g', t', cs', fuel', p', a1, a2, a3, a4, a5⟩ := laid_each hr hm
      exact ⟨g', t', cs', fuel', p', a1, a2, a3, a4, fun x hx => List.mem_append_right _ (a5 x hx)⟩
theorem sent_of_laid {P : Program} {W : World} {laid : List (String × DataW Unit)} {code : ByteArray → Nat} {n : String} {text : List UInt8} {g : Nat} {ti tp ta te ts : TypeId} {ms : Array (String × TypeId)} {f : Field}
    (h : laidMet P laid W) (hm : (n, .iface "*errors.errorString" (.ptr (.agg [.lit (.string text)]))) ∈ laid) (hg : P.globalNamed n = some g) (ht : (P.globals[g]?).map (·.type) = some ti)
    (hi : P.underlying ti = some (.interface ms)) (hrow : ∀ u, P.typeName? 3 u = some "*errors.errorString" → u = tp) (hp : P.underlying tp = some (.pointer te)) (he : P.underlying te = some (.struct #[f])) (hft : f.type = ts) (hfo : f.offset = 0) (hs : P.underlying ts = some .string) (hc : P.cellsOf te = 1) (hcs : P.cellsOf ts = 1)
    (hcode : ∀ s : ByteArray, s.data.toList = text → code s = g + 1) : ∃ v, ErV tp ta code (mem W) (.b (g + 1)) v := by
  obtain ⟨ps, hl, hnd, hrows⟩ := h
  obtain ⟨g', t', cs, fuel, p, a1, a2, a3, a4, a5⟩ := laid_each hl hm
  obtain rfl := Option.some.inj (hg.symm.trans a1)
  obtain rfl := Option.some.inj (ht.symm.trans a2)
  obtain ⟨l⟩ := cs
  have ok : ∀ u v, l = [.iface u v] → Value.okWide P W .any 0 u v := fun u v e => by
    subst e
    exact (hrows g 0 (a5 _ (by simp [MemPlace.row]))).2 u v (by simpa using World.var?_cell hg a3 0)
  obtain ⟨a, s, rfl, hcell, hst, hz, rfl⟩ := errorString_of_trod hi hrow hp he hft hfo hs hc hcs a4 ok
  obtain ⟨c, t, hb⟩ := (hrows a.block a.off (a5 _ (by simp [MemPlace.row]))).1
  refine ⟨.iface tp (.pointer (some a)), .inr ⟨by omega, mem_cell (by simpa using World.var?_cell hg a3 0), a, s, c, t, rfl, hb, hcode s hst, fun w hw => ?_⟩⟩
  have e : w.heap[a.block]? = W.heap[a.block]? := (hw _ _ hb).trans hb.symm
  unfold World.cell? at hcell ⊢
  rw [e]
  exact hcell
end Go.Proofs.YtpeelghbhihgkaaDoor.K
namespace Go.Proofs.YtpeelghbhihgkaaDoor.T
open Go Go.Proofs Go.Proofs.YtpeelghbhihgkaaDoor.K
set_option linter.unusedVariables false
set_option linter.unusedSimpArgs false
set_option maxRecDepth 100000
theorem own : ownKnob Tryd.prog.godebug = none := by kernel_rfl
noncomputable def low : Nat := (World.holding Tryd.prog default ⟨#[], #[], []⟩).heap.size
abbrev es0 : ByteArray := { data := #[110, 111, 116, 32, 97, 115, 32, 105, 116, 32, 104, 97, 115, 32, 116, 111, 32, 98, 101] }
abbrev es1 : ByteArray := { data := #[116, 111, 111, 32, 109, 97, 110, 121, 44, 32, 111, 114, 32, 116, 111, 111, 32, 102, 101, 119] }
abbrev es2 : ByteArray := { data := #[116, 111, 111, 32, 108, 111, 110, 103] }
abbrev es3 : ByteArray := { data := #[97, 32, 107, 101, 121, 32, 116, 104, 97, 116, 32, 100, 111, 101, 115, 32, 110, 111, 116, 32, 102, 105, 116] }
abbrev es4 : ByteArray := { data := #[97, 110, 32, 97, 109, 111, 117, 110, 116, 32, 116, 104, 97, 116, 32, 99, 97, 110, 39, 116, 32, 98, 101] }
abbrev es5 : ByteArray := { data := #[111, 110, 101, 32, 116, 104, 105, 110, 103, 32, 116, 119, 105, 99, 101] }
abbrev es6 : ByteArray := { data := #[97, 32, 110, 117, 109, 98, 101, 114, 32, 111, 117, 116, 32, 111, 102, 32, 105, 116, 115, 32, 114, 97, 110, 103, 101] }
abbrev es7 : ByteArray := { data := #[108, 101, 115, 115, 32, 99, 111, 109, 101, 115, 32, 105, 110, 32, 116, 104, 97, 110, 32, 103, 111, 101, 115, 32, 111, 117, 116] }
abbrev es8 : ByteArray := { data := #[105, 116, 32, 101, 110, 100, 115, 32, 116, 111, 111, 32, 101, 97, 114, 108, 121] }
abbrev es9 : ByteArray := { data := #[110, 111, 32, 102, 105, 114, 115, 116, 32, 116, 114, 97, 110, 115, 97, 99, 116, 105, 111, 110, 32, 119, 104, 101, 114, 101, 32, 116, 104, 101, 114, 101, 32, 104, 97, 115, 32, 116, 111, 32, 98, 101, 32, 111, 110, 101, 44, 32, 111, 114, 32, 111, 110, 101, 32, 119, 104, 101, 114, 101, 32, 116, 104, 101, 114, 101, 32, 109, 97, 121, 32, 98, 101, 32, 110, 111, 110, 101] }
abbrev es10 : ByteArray := { data := #[97, 32, 114, 111, 111, 116, 32, 116, 104, 97, 116, 32, 100, 111, 101, 115, 32, 110, 111, 116, 32, 102, 105, 116] }
abbrev es11 : ByteArray := { data := #[107, 110, 111, 119, 110, 32, 97, 108, 114, 101, 97, 100, 121] }
abbrev es12 : ByteArray := { data := #[110, 111, 32, 115, 117, 99, 104, 32, 112, 97, 114, 101, 110, 116] }
abbrev es13 : ByteArray := { data := #[98, 101, 104, 105, 110, 100, 32, 119, 104, 97, 116, 32, 105, 115, 32, 110, 111, 116, 32, 118, 97, 108, 105, 100] }
abbrev es14 : ByteArray := { data := #[97, 32, 116, 105, 109, 101, 32, 116, 104, 97, 116, 32, 105, 115, 32, 116, 111, 111, 32, 101, 97, 114, 108, 121] }
abbrev es15 : ByteArray := { data := #[97, 32, 99, 111, 105, 110, 32, 116, 104, 97, 116, 32, 105, 115, 32, 110, 111, 116, 32, 116, 104, 101, 114, 101] }
abbrev es16 : ByteArray := { data := #[97, 32, 99, 111, 105, 110, 32, 116, 104, 97, 116, 32, 105, 115, 32, 116, 111, 111, 32, 121, 111, 117, 110, 103] }
abbrev es17 : ByteArray := { data := #[116, 111, 111, 32, 101, 97, 114, 108, 121, 32, 116, 111, 32, 98, 101, 32, 116, 97, 107, 101, 110] }
abbrev es18 : ByteArray := { data := #[109, 111, 114, 101, 32, 116, 104, 97, 110, 32, 116, 104, 101, 32, 114, 101, 119, 97, 114, 100] }
abbrev es19 : ByteArray := { data := #[97, 32, 99, 111, 105, 110, 32, 116, 104, 97, 116, 32, 105, 115, 32, 115, 112, 101, 110, 116, 32, 105, 110, 32, 116, 104, 101, 32, 112, 111, 111, 108] }
abbrev es20 : ByteArray := { data := #[116, 111, 111, 32, 109, 97, 110, 121, 32, 116, 104, 97, 116, 32, 104, 97, 110, 103, 32, 116, 111, 103, 101, 116, 104, 101, 114] }
abbrev es21 : ByteArray := { data := #[116, 104, 101, 114, 101, 32, 105, 115, 32, 110, 111, 32, 114, 111, 111, 109] }
abbrev es22 : ByteArray := { data := #[116, 104, 101, 114, 101, 32, 105, 115, 32, 110, 111, 110, 101] }
abbrev es23 : ByteArray := { data := #[110, 111, 32, 115, 117, 99, 104, 32, 119, 111, 114, 100] }
abbrev es24 : ByteArray := { data := #[110, 111, 116, 32, 97, 32, 110, 117, 109, 98, 101, 114] }
def setC (v : Value) : Obj → Obj
  | .cells _ t frozen => .cells #[v] t frozen
  | x => x
noncomputable def laidWorld (os : Os) : World :=
  let w0 := World.holding Tryd.prog os ⟨#[.cells #[.string es0] 223, .cells #[.string es1] 223, .cells #[.string es2] 223, .cells #[.string es3] 223, .cells #[.string es4] 223, .cells #[.string es5] 223, .cells #[.string es6] 223, .cells #[.string es7] 223, .cells #[.string es8] 223, .cells #[.string es9] 223, .cells #[.string es10] 223, .cells #[.string es11] 223, .cells #[.string es12] 223, .cells #[.string es13] 223, .cells #[.string es14] 223, .cells #[.string es15] 223, .cells #[.string es16] 223, .cells #[.string es17] 223, .cells #[.string es18] 223, .cells #[.string es19] 223, .cells #[.string es20] 223, .cells #[.string es21] 223, .cells #[.string es22] 223, .cells #[.string es23] 223, .cells #[.string es24] 223], #[], []⟩
  { w0 with heap := (((((((((((((((((((((((((w0.heap.modify 0 (setC (.iface 206 (.pointer (some ⟨low + 0, 0, none⟩))))).modify 1 (setC (.iface 206 (.pointer (some ⟨low + 1, 0, none⟩))))).modify 2 (setC (.iface 206 (.pointer (some ⟨low + 2, 0, none⟩))))).modify 3 (setC (.iface 206 (.pointer (some ⟨low + 3, 0, none⟩))))).modify 4 (setC (.iface 206 (.pointer (some ⟨low + 4, 0, none⟩))))).modify 5 (setC (.iface 206 (.pointer (some ⟨low + 5, 0, none⟩))))).modify 6 (setC (.iface 206 (.pointer (some ⟨low + 6, 0, none⟩))))).modify 7 (setC (.iface 206 (.pointer (some ⟨low + 7, 0, none⟩))))).modify 8 (setC (.iface 206 (.pointer (some ⟨low + 8, 0, none⟩))))).modify 9 (setC (.iface 206 (.pointer (some ⟨low + 9, 0, none⟩))))).modify 10 (setC (.iface 206 (.pointer (some ⟨low + 10, 0, none⟩))))).modify 11 (setC (.iface 206 (.pointer (some ⟨low + 11, 0, none⟩))))).modify 12 (setC (.iface 206 (.pointer (some ⟨low + 12, 0, none⟩))))).modify 13 (setC (.iface 206 (.pointer (some ⟨low + 13, 0, none⟩))))).modify 14 (setC (.iface 206 (.pointer (some ⟨low + 14, 0, none⟩))))).modify 15 (setC (.iface 206 (.pointer (some ⟨low + 15, 0, none⟩))))).modify 16 (setC (.iface 206 (.pointer (some ⟨low + 16, 0, none⟩))))).modify 17 (setC (.iface 206 (.pointer (some ⟨low + 17, 0, none⟩))))).modify 18 (setC (.iface 206 (.pointer (some ⟨low + 18, 0, none⟩))))).modify 19 (setC (.iface 206 (.pointer (some ⟨low + 19, 0, none⟩))))).modify 20 (setC (.iface 206 (.pointer (some ⟨low + 20, 0, none⟩))))).modify 21 (setC (.iface 206 (.pointer (some ⟨low + 21, 0, none⟩))))).modify 22 (setC (.iface 206 (.pointer (some ⟨low + 22, 0, none⟩))))).modify 23 (setC (.iface 206 (.pointer (some ⟨low + 23, 0, none⟩))))).modify 24 (setC (.iface 206 (.pointer (some ⟨low + 24, 0, none⟩))))) }
theorem starE : "*" ++ "errors.errorString" = "*errors.errorString" := by decide
theorem rowE (u : TypeId) (h : Tryd.prog.typeName? 3 u = some "*errors.errorString") : u = 206 :=
  typeName_ptr_named (nm := "errors.errorString") (by rw [starE]; kernel_rfl) (by kernel_rfl) (by decide) u (by rw [starE]; exact h)
theorem ceE : Tryd.prog.cellsOf 223 = 1 := by kernel_rfl
theorem csE : Tryd.prog.cellsOf 9 = 1 := by kernel_rfl
theorem sent0 {W : World} {l : List (String × DataW Unit)} (h : laidMet Tryd.prog l W) (hm : ("sargasso/api.ErrShape", .iface "*errors.errorString" (.ptr (.agg [.lit (.string [110, 111, 116, 32, 97, 115, 32, 105, 116, 32, 104, 97, 115, 32, 116, 111, 32, 98, 101])]))) ∈ l) : ∃ v, ErS (mem W) v (Er.b 1) :=
  sent_of_laid h hm (by kernel_rfl) (by kernel_rfl) Tryd.underlying34 rowE Tryd.underlying206 Tryd.underlying223 rfl rfl Tryd.underlying9 ceE csE (fun s hs => by unfold errCode; rw [hs]; kernel_rfl)
theorem sent1 {W : World} {l : List (String × DataW Unit)} (h : laidMet Tryd.prog l W) (hm : ("sargasso/api.ErrMany", .iface "*errors.errorString" (.ptr (.agg [.lit (.string [116, 111, 111, 32, 109, 97, 110, 121, 44, 32, 111, 114, 32, 116, 111, 111, 32, 102, 101, 119])]))) ∈ l) : ∃ v, ErS (mem W) v (Er.b 2) :=
  sent_of_laid h hm (by kernel_rfl) (by kernel_rfl) Tryd.underlying34 rowE Tryd.underlying206 Tryd.underlying223 rfl rfl Tryd.underlying9 ceE csE (fun s hs => by unfold errCode; rw [hs]; kernel_rfl)
theorem sent2 {W : World} {l : List (String × DataW Unit)} (h : laidMet Tryd.prog l W) (hm : ("sargasso/api.ErrLong", .iface "*errors.errorString" (.ptr (.agg [.lit (.string [116, 111, 111, 32, 108, 111, 110, 103])]))) ∈ l) : ∃ v, ErS (mem W) v (Er.b 3) :=
  sent_of_laid h hm (by kernel_rfl) (by kernel_rfl) Tryd.underlying34 rowE Tryd.underlying206 Tryd.underlying223 rfl rfl Tryd.underlying9 ceE csE (fun s hs => by unfold errCode; rw [hs]; kernel_rfl)
theorem sent3 {W : World} {l : List (String × DataW Unit)} (h : laidMet Tryd.prog l W) (hm : ("sargasso/api.ErrKey", .iface "*errors.errorString" (.ptr (.agg [.lit (.string [97, 32, 107, 101, 121, 32, 116, 104, 97, 116, 32, 100, 111, 101, 115, 32, 110, 111, 116, 32, 102, 105, 116])]))) ∈ l) : ∃ v, ErS (mem W) v (Er.b 4) :=
  sent_of_laid h hm (by kernel_rfl) (by kernel_rfl) Tryd.underlying34 rowE Tryd.underlying206 Tryd.underlying223 rfl rfl Tryd.underlying9 ceE csE (fun s hs => by unfold errCode; rw [hs]; kernel_rfl)
theorem sent4 {W : World} {l : List (String × DataW Unit)} (h : laidMet Tryd.prog l W) (hm : ("sargasso/api.ErrValue", .iface "*errors.errorString" (.ptr (.agg [.lit (.string [97, 110, 32, 97, 109, 111, 117, 110, 116, 32, 116, 104, 97, 116, 32, 99, 97, 110, 39, 116, 32, 98, 101])]))) ∈ l) : ∃ v, ErS (mem W) v (Er.b 5) :=
  sent_of_laid h hm (by kernel_rfl) (by kernel_rfl) Tryd.underlying34 rowE Tryd.underlying206 Tryd.underlying223 rfl rfl Tryd.underlying9 ceE csE (fun s hs => by unfold errCode; rw [hs]; kernel_rfl)
theorem sent5 {W : World} {l : List (String × DataW Unit)} (h : laidMet Tryd.prog l W) (hm : ("sargasso/api.ErrTwice", .iface "*errors.errorString" (.ptr (.agg [.lit (.string [111, 110, 101, 32, 116, 104, 105, 110, 103, 32, 116, 119, 105, 99, 101])]))) ∈ l) : ∃ v, ErS (mem W) v (Er.b 6) :=
  sent_of_laid h hm (by kernel_rfl) (by kernel_rfl) Tryd.underlying34 rowE Tryd.underlying206 Tryd.underlying223 rfl rfl Tryd.underlying9 ceE csE (fun s hs => by unfold errCode; rw [hs]; kernel_rfl)
theorem sent6 {W : World} {l : List (String × DataW Unit)} (h : laidMet Tryd.prog l W) (hm : ("sargasso/api.ErrRange", .iface "*errors.errorString" (.ptr (.agg [.lit (.string [97, 32, 110, 117, 109, 98, 101, 114, 32, 111, 117, 116, 32, 111, 102, 32, 105, 116, 115, 32, 114, 97, 110, 103, 101])]))) ∈ l) : ∃ v, ErS (mem W) v (Er.b 7) :=
  sent_of_laid h hm (by kernel_rfl) (by kernel_rfl) Tryd.underlying34 rowE Tryd.underlying206 Tryd.underlying223 rfl rfl Tryd.underlying9 ceE csE (fun s hs => by unfold errCode; rw [hs]; kernel_rfl)
theorem sent7 {W : World} {l : List (String × DataW Unit)} (h : laidMet Tryd.prog l W) (hm : ("sargasso/api.ErrLess", .iface "*errors.errorString" (.ptr (.agg [.lit (.string [108, 101, 115, 115, 32, 99, 111, 109, 101, 115, 32, 105, 110, 32, 116, 104, 97, 110, 32, 103, 111, 101, 115, 32, 111, 117, 116])]))) ∈ l) : ∃ v, ErS (mem W) v (Er.b 8) :=
  sent_of_laid h hm (by kernel_rfl) (by kernel_rfl) Tryd.underlying34 rowE Tryd.underlying206 Tryd.underlying223 rfl rfl Tryd.underlying9 ceE csE (fun s hs => by unfold errCode; rw [hs]; kernel_rfl)
theorem sent8 {W : World} {l : List (String × DataW Unit)} (h : laidMet Tryd.prog l W) (hm : ("sargasso/api.ErrEnd", .iface "*errors.errorString" (.ptr (.agg [.lit (.string [105, 116, 32, 101, 110, 100, 115, 32, 116, 111, 111, 32, 101, 97, 114, 108, 121])]))) ∈ l) : ∃ v, ErS (mem W) v (Er.b 9) :=
  sent_of_laid h hm (by kernel_rfl) (by kernel_rfl) Tryd.underlying34 rowE Tryd.underlying206 Tryd.underlying223 rfl rfl Tryd.underlying9 ceE csE (fun s hs => by unfold errCode; rw [hs]; kernel_rfl)
theorem sent9 {W : World} {l : List (String × DataW Unit)} (h : laidMet Tryd.prog l W) (hm : ("sargasso/api.ErrBase", .iface "*errors.errorString" (.ptr (.agg [.lit (.string [110, 111, 32, 102, 105, 114, 115, 116, 32, 116, 114, 97, 110, 115, 97, 99, 116, 105, 111, 110, 32, 119, 104, 101, 114, 101, 32, 116, 104, 101, 114, 101, 32, 104, 97, 115, 32, 116, 111, 32, 98, 101, 32, 111, 110, 101, 44, 32, 111, 114, 32, 111, 110, 101, 32, 119, 104, 101, 114, 101, 32, 116, 104, 101, 114, 101, 32, 109, 97, 121, 32, 98, 101, 32, 110, 111, 110, 101])]))) ∈ l) : ∃ v, ErS (mem W) v (Er.b 10) :=
  sent_of_laid h hm (by kernel_rfl) (by kernel_rfl) Tryd.underlying34 rowE Tryd.underlying206 Tryd.underlying223 rfl rfl Tryd.underlying9 ceE csE (fun s hs => by unfold errCode; rw [hs]; kernel_rfl)
theorem sent10 {W : World} {l : List (String × DataW Unit)} (h : laidMet Tryd.prog l W) (hm : ("sargasso/api.ErrRoot", .iface "*errors.errorString" (.ptr (.agg [.lit (.string [97, 32, 114, 111, 111, 116, 32, 116, 104, 97, 116, 32, 100, 111, 101, 115, 32, 110, 111, 116, 32, 102, 105, 116])]))) ∈ l) : ∃ v, ErS (mem W) v (Er.b 11) :=
  sent_of_laid h hm (by kernel_rfl) (by kernel_rfl) Tryd.underlying34 rowE Tryd.underlying206 Tryd.underlying223 rfl rfl Tryd.underlying9 ceE csE (fun s hs => by unfold errCode; rw [hs]; kernel_rfl)
theorem sent11 {W : World} {l : List (String × DataW Unit)} (h : laidMet Tryd.prog l W) (hm : ("sargasso/api.ErrKnown", .iface "*errors.errorString" (.ptr (.agg [.lit (.string [107, 110, 111, 119, 110, 32, 97, 108, 114, 101, 97, 100, 121])]))) ∈ l) : ∃ v, ErS (mem W) v (Er.b 12) :=
  sent_of_laid h hm (by kernel_rfl) (by kernel_rfl) Tryd.underlying34 rowE Tryd.underlying206 Tryd.underlying223 rfl rfl Tryd.underlying9 ceE csE (fun s hs => by unfold errCode; rw [hs]; kernel_rfl)
theorem sent12 {W : World} {l : List (String × DataW Unit)} (h : laidMet Tryd.prog l W) (hm : ("sargasso/api.ErrParent", .iface "*errors.errorString" (.ptr (.agg [.lit (.string [110, 111, 32, 115, 117, 99, 104, 32, 112, 97, 114, 101, 110, 116])]))) ∈ l) : ∃ v, ErS (mem W) v (Er.b 13) :=
  sent_of_laid h hm (by kernel_rfl) (by kernel_rfl) Tryd.underlying34 rowE Tryd.underlying206 Tryd.underlying223 rfl rfl Tryd.underlying9 ceE csE (fun s hs => by unfold errCode; rw [hs]; kernel_rfl)
theorem sent13 {W : World} {l : List (String × DataW Unit)} (h : laidMet Tryd.prog l W) (hm : ("sargasso/api.ErrInvalid", .iface "*errors.errorString" (.ptr (.agg [.lit (.string [98, 101, 104, 105, 110, 100, 32, 119, 104, 97, 116, 32, 105, 115, 32, 110, 111, 116, 32, 118, 97, 108, 105, 100])]))) ∈ l) : ∃ v, ErS (mem W) v (Er.b 14) :=
  sent_of_laid h hm (by kernel_rfl) (by kernel_rfl) Tryd.underlying34 rowE Tryd.underlying206 Tryd.underlying223 rfl rfl Tryd.underlying9 ceE csE (fun s hs => by unfold errCode; rw [hs]; kernel_rfl)
theorem sent14 {W : World} {l : List (String × DataW Unit)} (h : laidMet Tryd.prog l W) (hm : ("sargasso/api.ErrTime", .iface "*errors.errorString" (.ptr (.agg [.lit (.string [97, 32, 116, 105, 109, 101, 32, 116, 104, 97, 116, 32, 105, 115, 32, 116, 111, 111, 32, 101, 97, 114, 108, 121])]))) ∈ l) : ∃ v, ErS (mem W) v (Er.b 15) :=
  sent_of_laid h hm (by kernel_rfl) (by kernel_rfl) Tryd.underlying34 rowE Tryd.underlying206 Tryd.underlying223 rfl rfl Tryd.underlying9 ceE csE (fun s hs => by unfold errCode; rw [hs]; kernel_rfl)
theorem sent15 {W : World} {l : List (String × DataW Unit)} (h : laidMet Tryd.prog l W) (hm : ("sargasso/api.ErrMissing", .iface "*errors.errorString" (.ptr (.agg [.lit (.string [97, 32, 99, 111, 105, 110, 32, 116, 104, 97, 116, 32, 105, 115, 32, 110, 111, 116, 32, 116, 104, 101, 114, 101])]))) ∈ l) : ∃ v, ErS (mem W) v (Er.b 16) :=
  sent_of_laid h hm (by kernel_rfl) (by kernel_rfl) Tryd.underlying34 rowE Tryd.underlying206 Tryd.underlying223 rfl rfl Tryd.underlying9 ceE csE (fun s hs => by unfold errCode; rw [hs]; kernel_rfl)
theorem sent16 {W : World} {l : List (String × DataW Unit)} (h : laidMet Tryd.prog l W) (hm : ("sargasso/api.ErrYoung", .iface "*errors.errorString" (.ptr (.agg [.lit (.string [97, 32, 99, 111, 105, 110, 32, 116, 104, 97, 116, 32, 105, 115, 32, 116, 111, 111, 32, 121, 111, 117, 110, 103])]))) ∈ l) : ∃ v, ErS (mem W) v (Er.b 17) :=
  sent_of_laid h hm (by kernel_rfl) (by kernel_rfl) Tryd.underlying34 rowE Tryd.underlying206 Tryd.underlying223 rfl rfl Tryd.underlying9 ceE csE (fun s hs => by unfold errCode; rw [hs]; kernel_rfl)
theorem sent17 {W : World} {l : List (String × DataW Unit)} (h : laidMet Tryd.prog l W) (hm : ("sargasso/api.ErrEarly", .iface "*errors.errorString" (.ptr (.agg [.lit (.string [116, 111, 111, 32, 101, 97, 114, 108, 121, 32, 116, 111, 32, 98, 101, 32, 116, 97, 107, 101, 110])]))) ∈ l) : ∃ v, ErS (mem W) v (Er.b 18) :=
  sent_of_laid h hm (by kernel_rfl) (by kernel_rfl) Tryd.underlying34 rowE Tryd.underlying206 Tryd.underlying223 rfl rfl Tryd.underlying9 ceE csE (fun s hs => by unfold errCode; rw [hs]; kernel_rfl)
theorem sent18 {W : World} {l : List (String × DataW Unit)} (h : laidMet Tryd.prog l W) (hm : ("sargasso/api.ErrReward", .iface "*errors.errorString" (.ptr (.agg [.lit (.string [109, 111, 114, 101, 32, 116, 104, 97, 110, 32, 116, 104, 101, 32, 114, 101, 119, 97, 114, 100])]))) ∈ l) : ∃ v, ErS (mem W) v (Er.b 19) :=
  sent_of_laid h hm (by kernel_rfl) (by kernel_rfl) Tryd.underlying34 rowE Tryd.underlying206 Tryd.underlying223 rfl rfl Tryd.underlying9 ceE csE (fun s hs => by unfold errCode; rw [hs]; kernel_rfl)
theorem sent19 {W : World} {l : List (String × DataW Unit)} (h : laidMet Tryd.prog l W) (hm : ("sargasso/api.ErrClash", .iface "*errors.errorString" (.ptr (.agg [.lit (.string [97, 32, 99, 111, 105, 110, 32, 116, 104, 97, 116, 32, 105, 115, 32, 115, 112, 101, 110, 116, 32, 105, 110, 32, 116, 104, 101, 32, 112, 111, 111, 108])]))) ∈ l) : ∃ v, ErS (mem W) v (Er.b 20) :=
  sent_of_laid h hm (by kernel_rfl) (by kernel_rfl) Tryd.underlying34 rowE Tryd.underlying206 Tryd.underlying223 rfl rfl Tryd.underlying9 ceE csE (fun s hs => by unfold errCode; rw [hs]; kernel_rfl)
theorem sent20 {W : World} {l : List (String × DataW Unit)} (h : laidMet Tryd.prog l W) (hm : ("sargasso/api.ErrLimit", .iface "*errors.errorString" (.ptr (.agg [.lit (.string [116, 111, 111, 32, 109, 97, 110, 121, 32, 116, 104, 97, 116, 32, 104, 97, 110, 103, 32, 116, 111, 103, 101, 116, 104, 101, 114])]))) ∈ l) : ∃ v, ErS (mem W) v (Er.b 21) :=
  sent_of_laid h hm (by kernel_rfl) (by kernel_rfl) Tryd.underlying34 rowE Tryd.underlying206 Tryd.underlying223 rfl rfl Tryd.underlying9 ceE csE (fun s hs => by unfold errCode; rw [hs]; kernel_rfl)
theorem sent21 {W : World} {l : List (String × DataW Unit)} (h : laidMet Tryd.prog l W) (hm : ("sargasso/api.ErrFull", .iface "*errors.errorString" (.ptr (.agg [.lit (.string [116, 104, 101, 114, 101, 32, 105, 115, 32, 110, 111, 32, 114, 111, 111, 109])]))) ∈ l) : ∃ v, ErS (mem W) v (Er.b 22) :=
  sent_of_laid h hm (by kernel_rfl) (by kernel_rfl) Tryd.underlying34 rowE Tryd.underlying206 Tryd.underlying223 rfl rfl Tryd.underlying9 ceE csE (fun s hs => by unfold errCode; rw [hs]; kernel_rfl)
theorem sent22 {W : World} {l : List (String × DataW Unit)} (h : laidMet Tryd.prog l W) (hm : ("sargasso/api.ErrNone", .iface "*errors.errorString" (.ptr (.agg [.lit (.string [116, 104, 101, 114, 101, 32, 105, 115, 32, 110, 111, 110, 101])]))) ∈ l) : ∃ v, ErS (mem W) v (Er.b 23) :=
  sent_of_laid h hm (by kernel_rfl) (by kernel_rfl) Tryd.underlying34 rowE Tryd.underlying206 Tryd.underlying223 rfl rfl Tryd.underlying9 ceE csE (fun s hs => by unfold errCode; rw [hs]; kernel_rfl)
theorem sent23 {W : World} {l : List (String × DataW Unit)} (h : laidMet Tryd.prog l W) (hm : ("sargasso/api.ErrWord", .iface "*errors.errorString" (.ptr (.agg [.lit (.string [110, 111, 32, 115, 117, 99, 104, 32, 119, 111, 114, 100])]))) ∈ l) : ∃ v, ErS (mem W) v (Er.b 24) :=
  sent_of_laid h hm (by kernel_rfl) (by kernel_rfl) Tryd.underlying34 rowE Tryd.underlying206 Tryd.underlying223 rfl rfl Tryd.underlying9 ceE csE (fun s hs => by unfold errCode; rw [hs]; kernel_rfl)
theorem sent24 {W : World} {l : List (String × DataW Unit)} (h : laidMet Tryd.prog l W) (hm : ("sargasso/api.ErrNumber", .iface "*errors.errorString" (.ptr (.agg [.lit (.string [110, 111, 116, 32, 97, 32, 110, 117, 109, 98, 101, 114])]))) ∈ l) : ∃ v, ErS (mem W) v (Er.b 25) :=
  sent_of_laid h hm (by kernel_rfl) (by kernel_rfl) Tryd.underlying34 rowE Tryd.underlying206 Tryd.underlying223 rfl rfl Tryd.underlying9 ceE csE (fun s hs => by unfold errCode; rw [hs]; kernel_rfl)
end Go.Proofs.YtpeelghbhihgkaaDoor.T
namespace Go.Proofs.YtpeelghbhihgkaaDoor.T
open Go Go.Proofs Go.Proofs.YtpeelghbhihgkaaDoor.K
set_option linter.unusedVariables false
set_option linter.unusedSimpArgs false
theorem laid : laidOutB Tryd.prog = true := by kernel_rfl
theorem rr3 : Tryd.prog.readableRec 3 = true := by kernel_rfl
theorem tr3 : 3 < Tryd.prog.types.size := of_decide_eq_true (by kernel_rfl)
theorem cl5 : Tryd.prog.cellsOf 5 = 1 := by kernel_rfl
theorem cl39 : Tryd.prog.cellsOf 39 = 1 := by kernel_rfl
theorem cl55 : Tryd.prog.cellsOf 55 = 32 := by kernel_rfl
theorem cl87 : Tryd.prog.cellsOf 87 = 68 := by kernel_rfl
theorem rr87 : Tryd.prog.readableRec 87 = true := by kernel_rfl
theorem tr87 : 87 < Tryd.prog.types.size := of_decide_eq_true (by kernel_rfl)
section
variable {H : Type} {enc : TypeId × Value → H} {w : World} {base : Nat} {spare : Nat → Bool} {held : Bool}
theorem rd39 : Rd enc Tryd.prog w base spare held 39 (fun c => ∃ n, RI .u32 n c) := rd_int Tryd.underlying39
theorem rd55 : Rd enc Tryd.prog w base spare held 55 (fun c => ∃ xs, RA .u8 32 xs c) := rd_array Tryd.underlying55 Tryd.underlying5 cl5 cl55
theorem rd87 : Rd enc Tryd.prog w base spare held 87 (fun c => ∃ x, RHead (mem w) x c) := by
  intro fuel cs x h
  obtain ⟨hl, hf⟩ := rd_struct Tryd.underlying87 h
  rw [cl87] at hl
  obtain ⟨n0, y0, h0⟩ := hf 0 _ rfl
  obtain ⟨x0, e0, w0⟩ := rd39 _ _ _ h0
  have e0 : (cs.drop 0).take (Tryd.prog.cellsOf 39) = _ := e0
  rw [cl39] at e0
  have c0 := chop cs 0 1 1 rfl
  rw [e0] at c0
  obtain ⟨n1, y1, h1⟩ := hf 1 _ rfl
  obtain ⟨x1, e1, w1⟩ := rd55 _ _ _ h1
  have e1 : (cs.drop 1).take (Tryd.prog.cellsOf 55) = _ := e1
  rw [cl55] at e1
  have c1 := chop cs 1 32 33 rfl
  rw [e1] at c1
  obtain ⟨n2, y2, h2⟩ := hf 2 _ rfl
  obtain ⟨x2, e2, w2⟩ := rd55 _ _ _ h2
  have e2 : (cs.drop 33).take (Tryd.prog.cellsOf 55) = _ := e2
  rw [cl55] at e2
  have c2 := chop cs 33 32 65 rfl
  rw [e2] at c2
  obtain ⟨n3, y3, h3⟩ := hf 3 _ rfl
  obtain ⟨x3, e3, w3⟩ := rd39 _ _ _ h3
  have e3 : (cs.drop 65).take (Tryd.prog.cellsOf 39) = _ := e3
  rw [cl39] at e3
  have c3 := chop cs 65 1 66 rfl
  rw [e3] at c3
  obtain ⟨n4, y4, h4⟩ := hf 4 _ rfl
  obtain ⟨x4, e4, w4⟩ := rd39 _ _ _ h4
  have e4 : (cs.drop 66).take (Tryd.prog.cellsOf 39) = _ := e4
  rw [cl39] at e4
  have c4 := chop cs 66 1 67 rfl
  rw [e4] at c4
  obtain ⟨n5, y5, h5⟩ := hf 5 _ rfl
  obtain ⟨x5, e5, w5⟩ := rd39 _ _ _ h5
  have e5 : (cs.drop 67).take (Tryd.prog.cellsOf 39) = _ := e5
  rw [cl39] at e5
  have c5 := chop cs 67 1 68 rfl
  rw [e5] at c5
  rw [List.drop_eq_nil_of_le (i := 68) (by omega)] at c5
  rw [c5] at c4
  rw [c4] at c3
  rw [c3] at c2
  rw [c2] at c1
  rw [c1] at c0
  rw [List.drop_zero] at c0
  exact ⟨⟨x0, x1, x2, x3, x4, x5⟩,  by rw [c0]; simp [HeadC], ⟨w0, w1, w2, w3, w4, w5⟩⟩
end
end Go.Proofs.YtpeelghbhihgkaaDoor.T
namespace Go.Proofs.YtpeelghbhihgkaaDoor.J
open Go Go.Proofs
theorem words_cons : ∀ (w r : List Char), w.all (· != ' ') = true → wordsSigns (w ++ ' ' :: r) = w :: wordsSigns r
  | [], r, _ => rfl
  | c :: w, r, h => by
    simp only [List.all_cons, Bool.and_eq_true, bne_iff_ne, ne_eq] at h
    have ih := words_cons w r h.2
    rw [List.cons_append, wordsSigns, ih]
    exact fun e => h.1 e
set_option maxRecDepth 100000
def w0 : List Char := ['h', 'a', 'r', 'n', 'e', 's', 's']
def w1 : List Char := ['4', '4', 'c', '8', '7', '2', '5', '3', 'b', '6', 'd', '1', 'd', '6', '4', '9', 'e', 'a', '9', 'f', '3', '2', '0', '8', '1', 'a', '4', 'd', 'd', '5', 'f', 'b', 'f', 'f', '2', '1', '7', 'a', 'e', 'd', '9', 'a', 'b', '5', 'f', '6', '6', 'e', '5', 'b', '0', '9', '9', '1', 'c', '7', '7', 'e', 'b', '1', '8', 'b', '9', '7']
def w2 : List Char := ['c', 'u', 't']
def w3 : List Char := ['a', 't', ' ', 's', 'a', 'r', 'g', 'a', 's', 's', 'o', '/', 's', 'a', 'r', 'g', 'a', 's', 's', 'o', 'l', 'a', 'w', '2', '.', 'C', 'o', 'm', 'p', 'a', 'c', 't', 'B', 'a', 'c', 'k', ' ', 's', 'a', 'r', 'g', 'a', 's', 's', 'o', '/', 's', 'a', 'r', 'g', 'a', 's', 's', 'o', 'l', 'a', 'w', '2', '.', 'C', 'o', 'm', 'p', 'a', 'c', 't', 'F', 'e', 'w', 'e', 's', 't', ' ', 's', 'a', 'r', 'g', 'a', 's', 's', 'o', '/', 's', 'a', 'r', 'g', 'a', 's', 's', 'o', 'l', 'a', 'w', '2', '.', 'C', 'o', 'm', 'p', 'a', 'c', 't', 'R', 'o', 'w', 's', ' ', 's', 'a', 'r', 'g', 'a', 's', 's', 'o', '/', 's', 'a', 'r', 'g', 'a', 's', 's', 'o', 'l', 'a', 'w', '2', '.', 'C', 'o', 'm', 'p', 'a', 'c', 't', 'R', 'e', 'a', 'd', 's', ' ', 's', 'a', 'r', 'g', 'a', 's', 's', 'o', '/', 's', 'a', 'r', 'g', 'a', 's', 's', 'o', 'l', 'a', 'w', '2', '.', 'C', 'o', 'm', 'p', 'a', 'c', 't', 'S', 't', 'o', 'p', 's', ' ', 's', 'a', 'r', 'g', 'a', 's', 's', 'o', '/', 's', 'a', 'r', 'g', 'a', 's', 's', 'o', 'l', 'a', 'w', '4', '.', 'T', 'x', 'B', 'o', 'u', 'n', 'd', 's', ' ', 's', 'a', 'r', 'g', 'a', 's', 's', 'o', '/', 's', 'a', 'r', 'g', 'a', 's', 's', 'o', 'l', 'a', 'w', '4', '.', 'T', 'x', 'B', 'a', 's', 'e', 's', ' ', 's', 'a', 'r', 'g', 'a', 's', 's', 'o', '/', 's', 'a', 'r', 'g', 'a', 's', 's', 'o', 'l', 'a', 'w', '4', '.', 'T', 'x', 'B', 'a', 'c', 'k', ' ', 's', 'a', 'r', 'g', 'a', 's', 's', 'o', '/', 's', 'a', 'r', 'g', 'a', 's', 's', 'o', 'l', 'a', 'w', '4', '.', 'T', 'x', 'S', 'i', 'z', 'e', 's', ' ', 's', 'a', 'r', 'g', 'a', 's', 's', 'o', '/', 's', 'a', 'r', 'g', 'a', 's', 's', 'o', 'l', 'a', 'w', '4', '.', 'T', 'x', 'T', 'u', 'r', 'n', 'e', 'd', ' ', 's', 'a', 'r', 'g', 'a', 's', 's', 'o', '/', 's', 'a', 'r', 'g', 'a', 's', 's', 'o', 'l', 'a', 'w', '4', '.', 'T', 'x', 'S', 'a', 'y', 's', ' ', 's', 'a', 'r', 'g', 'a', 's', 's', 'o', '/', 's', 'a', 'r', 'g', 'a', 's', 's', 'o', 'l', 'a', 'w', '5', '.', 'H', 'e', 'a', 'd', 'W', 'o', 'r', 'k', ' ', 's', 'a', 'r', 'g', 'a', 's', 's', 'o', '/', 's', 'a', 'r', 'g', 'a', 's', 's', 'o', 'l', 'a', 'w', '5', '.', 'H', 'e', 'a', 'd', 'B', 'a', 'c', 'k', ' ', 's', 'a', 'r', 'g', 'a', 's', 's', 'o', '/', 's', 'a', 'r', 'g', 'a', 's', 's', 'o', 'l', 'a', 'w', '1', '5', '.', 'V', 'a', 'l', 'u', 'e', 'R', 'u', 'l', 'e', 's', ' ', 's', 'a', 'r', 'g', 'a', 's', 's', 'o', '/', 's', 'a', 'r', 'g', 'a', 's', 's', 'o', 'l', 'a', 'w', '1', '5', '.', 'V', 'a', 'l', 'u', 'e', 'K', 'e', 'e', 'p', 's', ' ', 's', 'a', 'r', 'g', 'a', 's', 's', 'o', '/', 's', 'a', 'r', 'g', 'a', 's', 's', 'o', 'l', 'a', 'w', '1', '5', '.', 'V', 'a', 'l', 'u', 'e', 'S', 'a', 'y', 's', ' ', 's', 'a', 'r', 'g', 'a', 's', 's', 'o', '/', 's', 'a', 'r', 'g', 'a', 's', 's', 'o', 'l', 'a', 'w', '2', '0', '.', 'N', 'o', 't', 'e', 's', 'C', 'a', 'p', ' ', 's', 'a', 'r', 'g', 'a', 's', 's', 'o', '/', 's', 'a', 'r', 'g', 'a', 's', 's', 'o', 'l', 'a', 'w', '2', '0', '.', 'N', 'o', 't', 'e', 's', 'P', 'l', 'a', 'y', ' ', 's', 'a', 'r', 'g', 'a', 's', 's', 'o', '/', 's', 'a', 'r', 'g', 'a', 's', 's', 'o', 'l', 'a', 'w', '2', '0', '.', 'N', 'o', 't', 'e', 's', 'O', 'p', 's']
theorem io0 : Tryd.prog.initOrder = String.ofList (w0 ++ ' ' :: (w1 ++ ' ' :: (w2 ++ ' ' :: w3))) := by kernel_rfl
theorem io : Tryd.prog.initOrder.toList = w0 ++ ' ' :: (w1 ++ ' ' :: (w2 ++ ' ' :: w3)) := (congrArg String.toList io0).trans String.toList_ofList
theorem ws : wordsSigns Tryd.prog.initOrder.toList = w0 :: w1 :: w2 :: wordsSigns w3 := by
  rw [io, words_cons _ _ (by kernel_rfl), words_cons _ _ (by kernel_rfl), words_cons _ _ (by kernel_rfl)]
theorem bm (R : List (List Char)) : behindMainWord (w0 :: w1 :: w2 :: R) = w2 :: R := by kernel_rfl
theorem main_of {P : Program} {R : List (List Char)} (h : wordsSigns P.initOrder.toList = w0 :: w1 :: R) : P.mainIs = some (true, w1) := by
  unfold Program.mainIs
  rw [h]
  kernel_rfl
theorem mainIs : Tryd.prog.mainIs = some (true, w1) := main_of ws
theorem bw : behindMainWord (wordsSigns Tryd.prog.initOrder.toList) = w2 :: wordsSigns w3 := by rw [ws, bm]
theorem st (R : List (List Char)) : stripLifts liftWords (w2 :: R) = ([], w2 :: R) := by kernel_rfl
theorem make_of {P : Program} {R : List (List Char)} (h : behindMainWord (wordsSigns P.initOrder.toList) = w2 :: R) : P.make = some .cut := by
  unfold Program.make
  rw [h]
  kernel_rfl
theorem head_of {P : Program} {R : List (List Char)} (h : behindMainWord (wordsSigns P.initOrder.toList) = w2 :: R) : P.headLifts = [] := by
  unfold Program.headLifts
  rw [h, st]
  kernel_rfl
theorem lifts_of {P : Program} {R : List (List Char)} (h : behindMainWord (wordsSigns P.initOrder.toList) = w2 :: R) : P.liftsFinal = false := by
  unfold Program.liftsFinal
  rw [h, head_of h]
  kernel_rfl
theorem may_of {P : Program} {R : List (List Char)} (h : behindMainWord (wordsSigns P.initOrder.toList) = w2 :: R) (h1 : P.laysLater = false) (h2 : P.bearsReflect = false) (h3 : P.doorFits [] = true) : P.mayEnter = true := by
  unfold Program.mayEnter
  rw [h]
  simp only [st, h1, h2, h3]
  kernel_rfl
theorem later : Tryd.prog.laysLater = false := by kernel_rfl
theorem reflect : Tryd.prog.bearsReflect = false := by kernel_rfl
theorem door : Tryd.prog.doorFits [] = true := by kernel_rfl
theorem make : Tryd.prog.make = some .cut := make_of bw
theorem lifts : Tryd.prog.liftsFinal = false := lifts_of bw
theorem may : Tryd.prog.mayEnter = true := may_of bw later reflect door
end Go.Proofs.YtpeelghbhihgkaaDoor.J
namespace Go.Proofs.YtpeelghbhihgkaaDoor.zHeadBack
open Go Go.Proofs Go.Proofs.YtpeelghbhihgkaaDoor.K Go.Proofs.YtpeelghbhihgkaaDoor.T
open Go.ChangeShapes Go.WideShapes Go.ChangeAt Go.RowKit
set_option linter.unusedVariables false
theorem met (os : Os) (args : Array Value) : laidMetH Tryd.prog Rows.headBackRow.laid ((laidWorld os).forCall (fun _ _ => 0) ⟨#[], args, []⟩).memory :=
  laidMetH_of_parts (laidMet_of_run' 8 (by kernel_rfl) (by kernel_rfl)) (by kernel_rfl)
set_option maxRecDepth 100000 in
theorem lifted (os : Os) (started : os.Started) (H : Type) (enc : TypeId × Value → H) :
    ReturnsInHanded {} Tryd.checked os 15 .any (fun w args => (Rows.headBackSpec.pre enc Tryd.prog Tryd.f15 [] false w args ∧ laidMetH Tryd.prog Rows.headBackRow.laid w) ∧ sizedMet enc Tryd.prog Tryd.f15 (OpenSpec.ofChange Rows.headBackSpec) false w args) (Rows.headBackSpec.post enc Tryd.prog Tryd.f15 false true false false) := by
  refine returnsInHanded_of_change_and (C := Tryd.checked) (X := fun w _ => laidMetH Tryd.prog Rows.headBackRow.laid w) (fun _ _ _ hh h => h.of_heap hh) own started (by kernel_rfl) Tryd.func15
    (ChangeSpec.witness_at (enc := enc) (C := Tryd.checked) (os := os) (X := fun w _ => laidMetH Tryd.prog Rows.headBackRow.laid w) false (laidWorld os) #[.agg #[.int .u32 0, .int .u8 0, .int .u8 0, .int .u8 0, .int .u8 0, .int .u8 0, .int .u8 0, .int .u8 0, .int .u8 0, .int .u8 0, .int .u8 0, .int .u8 0, .int .u8 0, .int .u8 0, .int .u8 0, .int .u8 0, .int .u8 0, .int .u8 0, .int .u8 0, .int .u8 0, .int .u8 0, .int .u8 0, .int .u8 0, .int .u8 0, .int .u8 0, .int .u8 0, .int .u8 0, .int .u8 0, .int .u8 0, .int .u8 0, .int .u8 0, .int .u8 0, .int .u8 0, .int .u8 0, .int .u8 0, .int .u8 0, .int .u8 0, .int .u8 0, .int .u8 0, .int .u8 0, .int .u8 0, .int .u8 0, .int .u8 0, .int .u8 0, .int .u8 0, .int .u8 0, .int .u8 0, .int .u8 0, .int .u8 0, .int .u8 0, .int .u8 0, .int .u8 0, .int .u8 0, .int .u8 0, .int .u8 0, .int .u8 0, .int .u8 0, .int .u8 0, .int .u8 0, .int .u8 0, .int .u8 0, .int .u8 0, .int .u8 0, .int .u8 0, .int .u8 0, .int .u32 0, .int .u32 0, .int .u32 0], .int .i64 0, .int .i64 0] 8 rfl (by kernel_rfl) (by kernel_rfl) (by kernel_rfl) (by kernel_rfl) (by kernel_rfl) (met os _)) ?_
  intro W base args ds gs before hval0 hW hcnd hsz0 hL _
  have hL : laidMet Tryd.prog Rows.headBackRow.laid W := hL
  have hG : Gl (mem W) := ⟨sent0 hL (List.mem_of_getElem? (i := 1) rfl), sent1 hL (List.mem_of_getElem? (i := 3) rfl), sent2 hL (List.mem_of_getElem? (i := 2) rfl), sent3 hL (List.mem_of_getElem? (i := 13) rfl), sent4 hL (List.mem_of_getElem? (i := 4) rfl), sent5 hL (List.mem_of_getElem? (i := 5) rfl), sent6 hL (List.mem_of_getElem? (i := 21) rfl), sent7 hL (List.mem_of_getElem? (i := 16) rfl), sent8 hL (List.mem_of_getElem? (i := 0) rfl), sent9 hL (List.mem_of_getElem? (i := 6) rfl), sent10 hL (List.mem_of_getElem? (i := 7) rfl), sent11 hL (List.mem_of_getElem? (i := 8) rfl), sent12 hL (List.mem_of_getElem? (i := 9) rfl), sent13 hL (List.mem_of_getElem? (i := 10) rfl), sent14 hL (List.mem_of_getElem? (i := 11) rfl), sent15 hL (List.mem_of_getElem? (i := 12) rfl), sent16 hL (List.mem_of_getElem? (i := 14) rfl), sent17 hL (List.mem_of_getElem? (i := 15) rfl), sent18 hL (List.mem_of_getElem? (i := 17) rfl), sent19 hL (List.mem_of_getElem? (i := 18) rfl), sent20 hL (List.mem_of_getElem? (i := 19) rfl), sent21 hL (List.mem_of_getElem? (i := 20) rfl), sent22 hL (List.mem_of_getElem? (i := 22) rfl), sent23 hL (List.mem_of_getElem? (i := 23) rfl), sent24 hL (List.mem_of_getElem? (i := 24) rfl)⟩
  have hW' := hW
  obtain ⟨p, q, hA0, hV, rfl, hfz, hnd⟩ := hW
  have hA : DataW.TrodAll enc Tryd.prog W 0 (fun _ => true) true Tryd.f15.params.toList args.toList ds p := hA0
  have hval : ∀ (j : Nat) t v, Tryd.f15.params[j]? = some t → args[j]? = some v → Value.okWide Tryd.prog W .any base t v := hval0
  rw [Tryd.params15] at hA hval
  obtain ⟨v0, vs0, d0, ds0, p0, q0, hargs, rfl, rfl, h0, r0⟩ := trodAll_cons hA
  obtain ⟨v1, vs1, d1, ds1, p1, q1, rfl, rfl, rfl, h1, r1⟩ := trodAll_cons r0
  obtain ⟨v2, vs2, d2, ds2, p2, q2, rfl, rfl, rfl, h2, r2⟩ := trodAll_cons r1
  obtain ⟨rfl, rfl, rfl⟩ := trodAll_nil r2
  obtain rfl : args = #[v0, v1, v2] := by cases args; simp_all
  obtain ⟨rfl, rfl⟩ := trodVars_none hV
  obtain ⟨c0, rfl, x0, rfl, w0⟩ := at_agg (agg_struct Tryd.underlying87 (hval 0 87 v0 rfl rfl)) rd87 h0
  obtain ⟨x1, rfl, _, _, w1⟩ := open_int Tryd.underlying3 (hval 1 3 v1 rfl rfl) h1
  obtain ⟨x2, rfl, _, _, w2⟩ := open_int Tryd.underlying3 (hval 2 3 v2 rfl rfl) h2
  have hμ : Agr (mem W) W := agr_mem W
  have hm := sargassolaw5_HeadBack.m (mem W) x0 w0 x1 (wf_in w1) x2 (wf_in w2)
  refine (sargassolaw5_HeadBack.c (mem W) W hμ x0 w0 x1 (wf_in w1) x2 (wf_in w2) hG true hm).mono fun e W' ⟨v, he, hv, _, hI⟩ => ?_
  subst hv
  subst he
  have bel : Below W.heap.size W W' := hI.below
  exact ⟨_, rfl, _, _, _, [], _, [], hW', trodAll_mk1 (shut_bool Tryd.underlying4 _), (trodAll_cons_mk (again laid rr87 tr87 h0 bel) (trodAll_cons_mk (again laid rr3 tr3 h1 bel) (trodAll_cons_mk (again laid rr3 tr3 h2 bel) trodAll_mk0))), rfl, bel.frame _, fun h => by cases h⟩
theorem closed : joinedFacts Tryd.prog 15 Tryd.f15 Rows.headBackSpec Rows.headBackRow = true := by
  unfold joinedFacts
  rw [J.may, J.lifts, J.make]
  kernel_rfl
theorem over : Rows.headBackRow.holds Tryd.pinned (OpenSpec.ofChange Rows.headBackSpec) :=
  OpenClaim.holds_of_wide 15 Tryd.f15 rfl rfl rfl rfl rfl rfl rfl ⟨rfl, rfl, rfl, rfl, rfl⟩ rfl rfl rfl rfl rfl (by kernel_rfl) Tryd.func15 closed
    (of_decide_eq_true (by kernel_rfl)) (by unfold Func.isWrapper; first | (rw [if_pos (by decide +kernel)]; kernel_rfl) | (rw [if_neg (by decide +kernel)]; exact ⟨rfl, rfl⟩))
    (fun os started H enc _ => lifted os started H enc)
theorem card : Rows.HeadBackCardSaid :=
  Claim7.holds_tied_plain_at .later [] [.sentinel, .sentinel, .sentinel, .sentinel, .sentinel, .sentinel, .sentinel, .sentinel, .sentinel, .sentinel, .sentinel, .sentinel, .sentinel, .sentinel, .sentinel, .sentinel, .sentinel, .sentinel, .sentinel, .sentinel, .sentinel, .sentinel, .sentinel, .sentinel, .sentinel] true (true, "44c87253b6d1d649ea9f32081a4dd5fbff217aed9ab5f66e5b0991c77eb18b97") true
    over (fun _ h => by cases h) (by kernel_rfl) (fun _ h => by cases h) headBack_row_tie rfl ⟨rfl, rfl⟩ (J.mainIs.trans (congrArg (fun s => some (true, s)) (by kernel_rfl))) rfl
    (fun f fn hf hfn => by
      obtain rfl : f = 15 := Option.some.inj ((show Tryd.prog.funcNamed "sargasso/sargassolaw5.HeadBack" = some 15 by kernel_rfl).symm.trans hf) |>.symm
      obtain rfl : fn = Tryd.f15 := (Option.some.inj (Tryd.func15.symm.trans hfn)).symm
      exact ⟨by kernel_rfl, fun j t ht => by
        rw [Tryd.params15] at ht
        rcases j with _ | _ | _ | j
        · obtain rfl : (87 : TypeId) = t := by simpa using ht
          exact (show Tryd.prog.wantsStandIn 87 = false by kernel_rfl)
        · obtain rfl : (3 : TypeId) = t := by simpa using ht
          exact (show Tryd.prog.wantsStandIn 3 = false by kernel_rfl)
        · obtain rfl : (3 : TypeId) = t := by simpa using ht
          exact (show Tryd.prog.wantsStandIn 3 = false by kernel_rfl)
        · simp at ht⟩)
    (by kernel_rfl)
end Go.Proofs.YtpeelghbhihgkaaDoor.zHeadBack
namespace Go.Proofs.YtpeelghbhihgkaaDoor
theorem headBack_holds : Rows.HeadBackCardSaid := zHeadBack.card
#print axioms headBack_holds
end Go.Proofs.YtpeelghbhihgkaaDoor
