/- A helper of this seat's claims. It proves no statement by itself. -/
import Derived.Test.YtnbnnphlffhgiaaM0
import Derived.Test.YtnbnnphlffhgiaaMK
/-! Numbers' bytes and the eighty bytes of a head. -/
namespace Go.Proofs.Ytnbnnphlffhgiaa.T
open Go Go.Proofs Go.Proofs.Ytnbnnphlffhgiaa.K
set_option linter.unusedVariables false
set_option linter.unusedSimpArgs false
theorem u8e (x : Int) : IntKind.u8.wrap x = x % 256 := by simp [IntKind.wrap, IntKind.signed, IntKind.bits]
/-- A number's bytes, the least first. -/
def lb (a m : Nat) : List Int := (List.range m).map fun j => ((a / 2 ^ (8 * j) % 256 : Nat) : Int)
theorem lb_len (a m : Nat) : (lb a m).length = m := by simp [lb]
theorem sR_div (k : IntKind) {a n : Nat} (hn : n ≤ k.bits) : sR k (a : Int) (n : Int) = ((a / 2 ^ n : Nat) : Int) := by
  rw [sR_nat k hn, Nat.shiftRight_eq_div_pow]
theorem number_eq' (r : List Int) (a k : Nat) (hk : k ≤ 100) (hl : r.length + k ≤ 140737488355328) : compact_number.f r (a : Int) (k : Int) = some (r ++ lb a k) := by
  simp only [compact_number.f]
  have h : loopO (compact_number.s0 (k : Int)) (r, (a : Int), 0) = some (r ++ lb a k, ((a / 2 ^ (8 * k) : Nat) : Int)) := by
    refine loop_run (fun j => (r ++ lb a j, ((a / 2 ^ (8 * j) : Nat) : Int), (j : Int))) k (by simp [lb]) (fun j hj => ?_) ?_
    · simp only [compact_number.s0]
      have e1 : IntKind.u8.wrap ((a / 2 ^ (8 * j) : Nat) : Int) = ((a / 2 ^ (8 * j) % 256 : Nat) : Int) := by rw [u8e]; generalize a / 2 ^ (8 * j) = q; omega
      have e2 : sR .u64 ((a / 2 ^ (8 * j) : Nat) : Int) 8 = ((a / 2 ^ (8 * (j + 1)) : Nat) : Int) := by
        have := sR_div .u64 (a := a / 2 ^ (8 * j)) (n := 8) (by decide)
        rw [Nat.div_div_eq_div_mul, ← Nat.pow_add] at this
        exact this
      rw [if_pos (by omega), if_pos (by simp [lb_len]; omega), e1, e2, winc j (by omega), List.append_assoc]
      have : lb a j ++ [((a / 2 ^ (8 * j) % 256 : Nat) : Int)] = lb a (j + 1) := by
        unfold lb; rw [range_map_succ]
      rw [this]
    · simp only [compact_number.s0]
      rw [if_neg (by omega)]
  rw [h, Option.bind_some]
theorem four_eq (b : List Int) (a : Nat) (ha : a < 4294967296) (hl : b.length + 4 ≤ 140737488355328) : compact_Four.f b (a : Int) = some (b ++ lb a 4) := by
  have := number_eq' b a 4 (by omega) hl
  simp only [compact_Four.f, bytes_Clone.f]
  rw [wu64 (by omega) (by omega), if_pos (by omega), Option.bind_some]
  rw [show ((4 : Nat) : Int) = 4 from rfl] at this
  rw [this, Option.bind_some]
theorem lb4_inj {a b : Nat} (ha : a < 4294967296) (hb : b < 4294967296) : lb a 4 = lb b 4 ↔ a = b := by
  constructor
  · intro h
    simp [lb, List.range_succ] at h
    omega
  · rintro rfl; rfl
/-- A head's numbers, not negative. -/
structure HN where
  v : Nat
  p : List Int
  r : List Int
  t : Nat
  w : Nat
  n : Nat
deriving DecidableEq
structure HN.Ok (h : HN) : Prop where
  v : h.v < 4294967296
  p : h.p.length = 32
  r : h.r.length = 32
  t : h.t < 4294967296
  w : h.w < 4294967296
  n : h.n < 4294967296
def HN.h (h : HN) : Head := ⟨h.v, h.p, h.r, h.t, h.w, h.n⟩
theorem hn_of {μ : Store} {x : Head} (h : HeadW μ x) : ∃ y : HN, x = y.h ∧ y.Ok := by
  obtain ⟨a, b, c, d, e, f⟩ := h
  obtain ⟨v, ev, hv⟩ := nat_of (k := .u32) rfl a
  obtain ⟨t, et, ht⟩ := nat_of (k := .u32) rfl d
  obtain ⟨w, ew, hw⟩ := nat_of (k := .u32) rfl e
  obtain ⟨n, en, hn⟩ := nat_of (k := .u32) rfl f
  refine ⟨⟨v, x.Prev, x.Root, t, w, n⟩, ?_, ⟨hv, b.1, c.1, ht, hw, hn⟩⟩
  obtain ⟨x1, x2, x3, x4, x5, x6⟩ := x
  simp only at ev et ew en
  subst ev et ew en
  rfl
/-- The eighty bytes. -/
def hb (h : HN) : List Int := lb h.v 4 ++ (h.p ++ (h.r ++ (lb h.t 4 ++ (lb h.w 4 ++ lb h.n 4))))
theorem hb_len {h : HN} (o : h.Ok) : (hb h).length = 80 := by simp [hb, lb_len, o.p, o.r]
theorem hbytes_eq {h : HN} (o : h.Ok) : head_Bytes.f h.h = some (hb h) := by
  simp only [head_Bytes.f, HN.h]
  have hv := o.v
  have ht := o.t
  have hw := o.w
  have hn := o.n
  rw [four_eq [] h.v hv (by simp), Option.bind_some, concat_eq _ (by simp) (by simp [lb_len, o.p, o.r]), Option.bind_some, four_eq _ h.t ht (by simp [lb_len, o.p, o.r]), Option.bind_some, four_eq _ h.w hw (by simp [lb_len, o.p, o.r]), Option.bind_some, four_eq _ h.n hn (by simp [lb_len, o.p, o.r]), Option.bind_some]
  simp [hb]
theorem hb_inj {a b : HN} (oa : a.Ok) (ob : b.Ok) : hb a = hb b ↔ a = b := by
  constructor
  · intro h
    unfold hb at h
    obtain ⟨e1, h⟩ := List.append_inj h (by rw [lb_len, lb_len])
    obtain ⟨e2, h⟩ := List.append_inj h (by rw [oa.p, ob.p])
    obtain ⟨e3, h⟩ := List.append_inj h (by rw [oa.r, ob.r])
    obtain ⟨e4, h⟩ := List.append_inj h (by rw [lb_len, lb_len])
    obtain ⟨e5, h⟩ := List.append_inj h (by rw [lb_len, lb_len])
    have f1 := (lb4_inj oa.v ob.v).1 e1
    have f4 := (lb4_inj oa.t ob.t).1 e4
    have f5 := (lb4_inj oa.w ob.w).1 e5
    have f6 := (lb4_inj oa.n ob.n).1 h
    clear e1 e4 e5 h oa ob
    obtain ⟨a1, a2, a3, a4, a5, a6⟩ := a
    obtain ⟨b1, b2, b3, b4, b5, b6⟩ := b
    simp only at f1 e2 e3 f4 f5 f6
    rw [f1, e2, e3, f4, f5, f6]
  · rintro rfl; rfl
theorem same_eq {a b : HN} (oa : a.Ok) (ob : b.Ok) : sargassoref_SameHead.f a.h b.h = some (decide (hb a = hb b)) := by
  have e : decide (hb a = hb b) = decide (a = b) := decide_eq_decide.2 (hb_inj oa ob)
  rw [e]
  simp only [sargassoref_SameHead.f, HN.h]
  rw [samehash_eq _ _ oa.p ob.p, samehash_eq _ _ oa.r ob.r]
  obtain ⟨a1, a2, a3, a4, a5, a6⟩ := a
  obtain ⟨b1, b2, b3, b4, b5, b6⟩ := b
  simp only [Option.bind_some, HN.mk.injEq, decide_eq_true_eq, Int.natCast_inj]
  by_cases c1 : a1 = b1
  · by_cases c2 : a2 = b2
    · by_cases c3 : a3 = b3
      · by_cases c4 : a4 = b4
        · by_cases c5 : a5 = b5
          · simp [c1, c2, c3, c4, c5]
          · simp [c1, c2, c3, c4, c5]
        · simp [c1, c2, c3, c4]
      · simp [c1, c2, c3]
    · simp [c1, c2]
  · simp [c1]
/-- A head's name. -/
theorem hid_eq {h : HN} (o : h.Ok) : head_ID.f h.h = some (sha (sha (hb h))) := by
  simp only [head_ID.f]
  rw [hbytes_eq o, Option.bind_some, twice_eq _ (by rw [hb_len o]; decide)]
  rfl
theorem first5 : sargassolaw5_first.f = some true := by
  simp only [sargassolaw5_first.f]
  have := hbytes_eq (h := ⟨0, List.replicate 32 0, List.replicate 32 0, 0, 0, 0⟩) ⟨by decide, by simp, by simp, by decide, by decide, by decide⟩
  rw [show (⟨0, List.replicate 32 0, List.replicate 32 0, 0, 0, 0⟩ : Head) = HN.h ⟨0, List.replicate 32 0, List.replicate 32 0, 0, 0, 0⟩ from rfl, this, Option.bind_some, hb_len ⟨by decide, by simp, by simp, by decide, by decide, by decide⟩]
  rfl
end Go.Proofs.Ytnbnnphlffhgiaa.T
