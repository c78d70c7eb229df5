/- A helper of this seat's claims. It proves no statement by itself. -/
import Derived.Test.YtnbnnphlffhgiaaMHd
import Derived.Test.YtnbnnphlffhgiaaGHeadFields
namespace Go.Proofs.Ytnbnnphlffhgiaa.T
open Go Go.Proofs Go.Proofs.Ytnbnnphlffhgiaa.K
set_option linter.unusedVariables false
set_option linter.unusedSimpArgs false
/-- One field of the other. -/
def pick (a b : HN) : Nat → HN
  | 0 => ⟨b.v, a.p, a.r, a.t, a.w, a.n⟩
  | 1 => ⟨a.v, b.p, a.r, a.t, a.w, a.n⟩
  | 2 => ⟨a.v, a.p, b.r, a.t, a.w, a.n⟩
  | 3 => ⟨a.v, a.p, a.r, b.t, a.w, a.n⟩
  | 4 => ⟨a.v, a.p, a.r, a.t, b.w, a.n⟩
  | _ => ⟨a.v, a.p, a.r, a.t, a.w, b.n⟩
theorem pick_ok {a b : HN} (oa : a.Ok) (ob : b.Ok) (i : Nat) : (pick a b i).Ok := by
  match i with
  | 0 => exact ⟨ob.v, oa.p, oa.r, oa.t, oa.w, oa.n⟩
  | 1 => exact ⟨oa.v, ob.p, oa.r, oa.t, oa.w, oa.n⟩
  | 2 => exact ⟨oa.v, oa.p, ob.r, oa.t, oa.w, oa.n⟩
  | 3 => exact ⟨oa.v, oa.p, oa.r, ob.t, oa.w, oa.n⟩
  | 4 => exact ⟨oa.v, oa.p, oa.r, oa.t, ob.w, oa.n⟩
  | _ + 5 => exact ⟨oa.v, oa.p, oa.r, oa.t, oa.w, ob.n⟩
def frm (i : Nat) : Nat := [0, 4, 36, 68, 72, 76].getD i 0
def til (i : Nat) : Nat := [4, 36, 68, 72, 76, 80].getD i 0
/-- What is before a field and what is behind it. -/
theorem around {P m n S : List Int} {f t : Nat} (hf : P.length = f) (hm : P.length + m.length = t) (hn : n.length = m.length) :
    (P ++ (n ++ S)).take f = (P ++ (m ++ S)).take f ∧ (P ++ (n ++ S)).drop t = (P ++ (m ++ S)).drop t := by
  constructor
  · rw [List.take_left' hf, List.take_left' hf]
  · rw [← List.append_assoc, ← List.append_assoc, List.drop_left' (by rw [List.length_append]; omega), List.drop_left' (by rw [List.length_append]; omega)]
theorem pick_around {a b : HN} (oa : a.Ok) (ob : b.Ok) (i : Nat) (hi : i < 6) : (hb (pick a b i)).take (frm i) = (hb a).take (frm i) ∧ (hb (pick a b i)).drop (til i) = (hb a).drop (til i) := by
  match i, hi with
  | 0, _ => exact around (P := []) (m := lb a.v 4) (n := lb b.v 4) rfl (by simp [lb_len, til]) (by simp [lb_len])
  | 1, _ => exact around (P := lb a.v 4) (m := a.p) (n := b.p) (by simp [lb_len, frm]) (by simp [lb_len, til, oa.p]) (by rw [oa.p, ob.p])
  | 2, _ =>
    have := around (P := lb a.v 4 ++ a.p) (m := a.r) (n := b.r) (S := lb a.t 4 ++ (lb a.w 4 ++ lb a.n 4)) (f := 36) (t := 68) (by simp [lb_len, oa.p]) (by simp [lb_len, oa.p, oa.r]) (by rw [oa.r, ob.r])
    simpa [hb, pick, frm, til] using this
  | 3, _ =>
    have := around (P := lb a.v 4 ++ (a.p ++ a.r)) (m := lb a.t 4) (n := lb b.t 4) (S := (lb a.w 4 ++ lb a.n 4)) (f := 68) (t := 72) (by simp [lb_len, oa.p, oa.r]) (by simp [lb_len, oa.p, oa.r]) (by simp [lb_len])
    simpa [hb, pick, frm, til] using this
  | 4, _ =>
    have := around (P := lb a.v 4 ++ (a.p ++ (a.r ++ lb a.t 4))) (m := lb a.w 4) (n := lb b.w 4) (S := lb a.n 4) (f := 72) (t := 76) (by simp [lb_len, oa.p, oa.r]) (by simp [lb_len, oa.p, oa.r]) (by simp [lb_len])
    simpa [hb, pick, frm, til] using this
  | 5, _ =>
    have := around (P := lb a.v 4 ++ (a.p ++ (a.r ++ (lb a.t 4 ++ lb a.w 4)))) (m := lb a.n 4) (n := lb b.n 4) (S := []) (f := 76) (t := 80) (by simp [lb_len, oa.p, oa.r]) (by simp [lb_len, oa.p, oa.r]) (by simp [lb_len])
    simpa [hb, pick, frm, til] using this
theorem hf_pick (a b : HN) (i : Nat) (hi : i < 6) : (if (i : Int) = 0 then some (b.h.Version, a.h.Prev, a.h.Root, a.h.Time, a.h.Work, a.h.Nonce) else (if (i : Int) = 1 then some (a.h.Version, b.h.Prev, a.h.Root, a.h.Time, a.h.Work, a.h.Nonce) else (if (i : Int) = 2 then some (a.h.Version, a.h.Prev, b.h.Root, a.h.Time, a.h.Work, a.h.Nonce) else (if (i : Int) = 3 then some (a.h.Version, a.h.Prev, a.h.Root, b.h.Time, a.h.Work, a.h.Nonce) else (if (i : Int) = 4 then some (a.h.Version, a.h.Prev, a.h.Root, a.h.Time, b.h.Work, a.h.Nonce) else some (a.h.Version, a.h.Prev, a.h.Root, a.h.Time, a.h.Work, b.h.Nonce)))))) = some ((pick a b i).h.Version, (pick a b i).h.Prev, (pick a b i).h.Root, (pick a b i).h.Time, (pick a b i).h.Work, (pick a b i).h.Nonce) := by
  match i, hi with
  | 0, _ => rfl
  | 1, _ => rfl
  | 2, _ => rfl
  | 3, _ => rfl
  | 4, _ => rfl
  | 5, _ => rfl
theorem frm_at (i : Nat) (hi : i < 6) : ([0, 4, 36, 68, 72, 76] : List Int).getD i 0 = (frm i : Int) ∧ ([4, 36, 68, 72, 76, 80] : List Int).getD i 0 = (til i : Int) ∧ frm i ≤ 80 ∧ til i ≤ 80 := by
  match i, hi with
  | 0, _ => decide
  | 1, _ => decide
  | 2, _ => decide
  | 3, _ => decide
  | 4, _ => decide
  | 5, _ => decide
theorem hf_step {a b : HN} (oa : a.Ok) (ob : b.Ok) (i : Nat) (hi : i < 6) : sargassolaw5_HeadFields.s0 a.h b.h true (hb a, (i : Int)) = some (.inl (hb a, ((i + 1 : Nat) : Int))) := by
  simp only [sargassolaw5_HeadFields.s0]
  have oy := pick_ok oa ob i
  obtain ⟨ar1, ar2⟩ := pick_around oa ob i hi
  obtain ⟨f1, f2, f3, f4⟩ := frm_at i hi
  rw [if_pos (by omega), hf_pick a b i hi, Option.bind_some]
  simp only
  generalize pick a b i = y at oy ar1 ar2 ⊢
  rw [show (⟨y.h.Version, y.h.Prev, y.h.Root, y.h.Time, y.h.Work, y.h.Nonce⟩ : Head) = y.h from rfl, hbytes_eq oy, Option.bind_some, hb_len oy, if_neg (by decide), Int.toNat_natCast, f1, f2]
  have la := hb_len oa
  have ly := hb_len oy
  have t80 : ∀ z : List Int, z.length = 80 → z.take ((80 : Nat) : Int).toNat = z := fun z hz => by rw [Int.toNat_natCast, ← hz, List.take_length]
  have z : Int.toNat 0 = 0 := rfl
  rw [la, if_pos (by simp; omega), if_pos (by omega), if_pos (by omega), t80 _ la, t80 _ ly, Int.toNat_natCast, Int.toNat_natCast, z, List.drop_zero, List.drop_zero, ar1, samebytes_eq _ (by rw [List.length_take]; omega), Option.bind_some, if_pos rfl, if_pos (by simp; omega), if_pos (by omega), if_pos (by omega), ar2, samebytes_eq _ (by rw [List.length_drop]; omega), Option.bind_some, if_pos rfl, samebytes_eq' _ _ (by omega), Option.bind_some, same_eq oy oa, Option.bind_some, if_neg (by simp), hid_eq oy, hid_eq oa]
  have p1 : (sha (sha (hb y))).length = 32 := sha_len _
  have p2 : (sha (sha (hb a))).length = 32 := sha_len _
  generalize sha (sha (hb y)) = P at p1 ⊢
  generalize sha (sha (hb a)) = Q at p2 ⊢
  simp only [Option.bind_some]
  rw [samehash_eq P Q p1 p2, samehash_eq Q P p2 p1, Option.bind_some, Option.bind_some, Option.bind_some]
  rw [show decide (P = Q) = decide (Q = P) from decide_eq_decide.2 ⟨Eq.symm, Eq.symm⟩, decide_eq_false (fun h => h rfl)]
  show (if false = true then _ else some (Sum.inl (hb a, IntKind.i64.wrap ((i : Int) + 1)))) = _
  rw [if_neg Bool.false_ne_true, winc i (by omega)]
theorem hb_at {h : HN} (o : h.Ok) : (hb h).getD 68 0 = ((h.t % 256 : Nat) : Int) ∧ (hb h).getD 71 0 = ((h.t / 16777216 % 256 : Nat) : Int) ∧ (hb h).getD 0 0 = ((h.v % 256 : Nat) : Int) := by
  have e : hb h = (lb h.v 4 ++ (h.p ++ h.r)) ++ (lb h.t 4 ++ (lb h.w 4 ++ lb h.n 4)) := by simp [hb]
  have l : (lb h.v 4 ++ (h.p ++ h.r)).length = 68 := by simp [lb_len, o.p, o.r]
  refine ⟨?_, ?_, ?_⟩
  · rw [e, List.getD, List.getElem?_append_right (by omega), l]; simp [lb, List.range_succ]
  · rw [e, List.getD, List.getElem?_append_right (by omega), l]; simp [lb, List.range_succ]
  · simp [hb, lb, List.range_succ]
theorem sargassolaw5_HeadFields.m (μ : Store) (x0 : Head) (h0 : HeadW μ x0) (x1 : Head) (h1 : HeadW μ x1) : sargassolaw5_HeadFields.f x0 x1 = some true := by
  obtain ⟨a, rfl, oa⟩ := hn_of h0
  obtain ⟨b, rfl, ob⟩ := hn_of h1
  simp only [sargassolaw5_HeadFields.f, first5, Option.bind_some, if_true, hbytes_eq oa]
  have la := hb_len oa
  obtain ⟨e1, e2, e3⟩ := hb_at oa
  rw [if_neg (by omega)]
  refine loop_run (fun i => (hb a, (i : Int))) 6 rfl (fun i hi => hf_step oa ob i hi) ?_
  simp only [sargassolaw5_HeadFields.s0]
  have u1 : IntKind.u8.wrap a.h.Time = ((a.t % 256 : Nat) : Int) := by rw [u8e]; show (a.t : Int) % 256 = _; omega
  have u2 : IntKind.u8.wrap (sR .u32 a.h.Time 24) = ((a.t / 16777216 % 256 : Nat) : Int) := by
    have := sR_div .u32 (a := a.t) (n := 24) (by decide)
    rw [show sR .u32 a.h.Time 24 = _ from this, u8e]; omega
  have u3 : IntKind.u8.wrap a.h.Version = ((a.v % 256 : Nat) : Int) := by rw [u8e]; show (a.v : Int) % 256 = _; omega
  rw [if_neg (by decide), u1, u2, u3, show Int.toNat 68 = 68 from rfl, show Int.toNat 71 = 71 from rfl, show Int.toNat 0 = 0 from rfl, e1, e2, e3, la]
  simp
end Go.Proofs.Ytnbnnphlffhgiaa.T
