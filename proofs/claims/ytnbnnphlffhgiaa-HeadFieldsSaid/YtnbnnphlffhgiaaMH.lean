/- A helper of this seat's claims. It proves no statement by itself. -/
import Derived.Test.YtnbnnphlffhgiaaMD3
/-! Hex texts, plainly. -/
namespace Go.Proofs.Ytnbnnphlffhgiaa.T
open Go Go.Proofs Go.Proofs.Ytnbnnphlffhgiaa.K
set_option linter.unusedVariables false
set_option linter.unusedSimpArgs false

def dgs : ByteArray := ⟨#[48, 49, 50, 51, 52, 53, 54, 55, 56, 57, 97, 98, 99, 100, 101, 102]⟩
def dgU (n : Nat) : UInt8 := dgs.data.toList.getD n 0
theorem dgU_lt : ∀ a b : Nat, a < 16 → b < 16 → (dgU a < dgU b ↔ a < b) := by
  have h : ∀ a b : Fin 16, (dgU a.1 < dgU b.1 ↔ a.1 < b.1) := by decide
  intro a b ha hb
  exact h ⟨a, ha⟩ ⟨b, hb⟩
theorem dgU_inj : ∀ a b : Nat, a < 16 → b < 16 → (dgU a = dgU b ↔ a = b) := by
  have h : ∀ a b : Fin 16, (dgU a.1 = dgU b.1 ↔ a.1 = b.1) := by decide
  intro a b ha hb
  exact h ⟨a, ha⟩ ⟨b, hb⟩
def hx2 (x : Int) : List UInt8 := [dgU (x.toNat / 16), dgU (x.toNat % 16)]
def hexU (xs : List Int) : List UInt8 := xs.flatMap hx2
def hexB (xs : List Int) : ByteArray := ⟨(hexU xs).toArray⟩
theorem hexU_len (xs : List Int) : (hexU xs).length = 2 * xs.length := by
  induction xs with
  | nil => rfl
  | cons x xs ih => simp only [hexU, List.flatMap_cons, List.length_append] at ih ⊢; rw [ih]; simp [hx2]; omega
theorem byte_hi {x : Int} (h : InR .u8 x) : sR .u8 x 4 = ((x.toNat / 16 : Nat) : Int) ∧ x.toNat / 16 < 16 := by
  obtain ⟨h0, h1⟩ := h
  have := sR_nat .u8 (a := x.toNat) (n := 4) (by decide)
  rw [Int.toNat_of_nonneg h0, Nat.shiftRight_eq_div_pow] at this
  exact ⟨this, by omega⟩
theorem byte_lo {x : Int} (h : InR .u8 x) : bAnd .u8 x 15 = ((x.toNat % 16 : Nat) : Int) ∧ x.toNat % 16 < 16 := by
  obtain ⟨h0, h1⟩ := h
  have := bAnd_nat .u8 rfl (a := x.toNat) (b := 15) (by simp [IntKind.bits]; omega) (by simp [IntKind.bits])
  rw [Int.toNat_of_nonneg h0, show ((15 : Nat) : Int) = 15 from rfl, show x.toNat &&& 15 = x.toNat % 16 from and_low _ 4] at this
  exact ⟨this, by omega⟩
theorem bStr_list (xs : List Int) : (bStr xs).data.toList = xs.map fun n => UInt8.ofNat n.toNat := by
  have h : ∀ (xs : List Int) (acc : ByteArray), (xs.foldl (fun r n => r.push (UInt8.ofNat n.toNat)) acc).data.toList = acc.data.toList ++ xs.map fun n => UInt8.ofNat n.toNat := by
    intro xs
    induction xs with
    | nil => intro acc; simp
    | cons x xs ih => intro acc; rw [List.foldl_cons, ih]; simp [ByteArray.push]
  exact h xs .empty
theorem ba_ext {a b : ByteArray} (h : a.data.toList = b.data.toList) : a = b := ByteArray.ext (Array.toList_inj.1 h)
theorem hx2_bytes {x : Int} (h : InR .u8 x) : [bAt dgs (sR .u8 x 4).toNat, bAt dgs (bAnd .u8 x 15).toNat].map (fun n => UInt8.ofNat n.toNat) = hx2 x := by
  rw [(byte_hi h).1, (byte_lo h).1, Int.toNat_natCast, Int.toNat_natCast]
  simp only [List.map_cons, List.map_nil, bAt, hx2, dgU, Int.toNat_natCast, UInt8.ofNat_toNat]
theorem take_hex (xs : List Int) (i : Nat) (h : i < xs.length) : hexU (xs.take (i + 1)) = hexU (xs.take i) ++ hx2 (xs.getD i 0) := by
  rw [← take_next xs i 0 h, hexU, List.flatMap_append]
  simp [hexU]
theorem hex_eq (xs : List Int) (h : Arr .u8 32 xs) : digest_Hex.f xs = some (hexB xs) := by
  obtain ⟨hl, hb⟩ := h
  have hloop : loopO (digest_Hex.s0 xs) ([], 0) = some ((xs.take 32).flatMap fun x => [bAt dgs (sR .u8 x 4).toNat, bAt dgs (bAnd .u8 x 15).toNat]) := by
    refine loop_run (fun i => ((xs.take i).flatMap (fun x => [bAt dgs (sR .u8 x 4).toNat, bAt dgs (bAnd .u8 x 15).toNat]), (i : Int))) 32 (by simp) (fun i hi => ?_) ?_
    · have hin := getD_in hb i
      have h1 := byte_hi hin
      have h2 := byte_lo hin
      have hfl : ∀ l : List Int, (l.flatMap (fun x => [bAt dgs (sR .u8 x 4).toNat, bAt dgs (bAnd .u8 x 15).toNat])).length = 2 * l.length := fun l => by
        induction l with
        | nil => rfl
        | cons y l ih => rw [List.flatMap_cons, List.length_append, ih]; simp; omega
      have hlen : ((xs.take i).flatMap (fun x => [bAt dgs (sR .u8 x 4).toNat, bAt dgs (bAnd .u8 x 15).toNat])).length = 2 * i := by
        rw [hfl, List.length_take]; omega
      simp only [digest_Hex.s0, Int.toNat_natCast]
      rw [if_pos (by omega), if_pos (by omega), if_pos ⟨by omega, by rw [h1.1]; show _ < ((16 : Nat) : Int); omega⟩, if_pos ⟨by omega, by rw [h2.1]; show _ < ((16 : Nat) : Int); omega⟩, if_pos (by omega), winc i (by omega)]
      have e : (xs.take (i + 1)).flatMap (fun x => [bAt dgs (sR .u8 x 4).toNat, bAt dgs (bAnd .u8 x 15).toNat]) = (xs.take i).flatMap (fun x => [bAt dgs (sR .u8 x 4).toNat, bAt dgs (bAnd .u8 x 15).toNat]) ++ [bAt dgs (sR .u8 (xs.getD i 0) 4).toNat, bAt dgs (bAnd .u8 (xs.getD i 0) 15).toNat] := by
        rw [← take_next xs i 0 (by omega), List.flatMap_append]
        simp
      rw [e]
      rfl
    · simp only [digest_Hex.s0]
      rw [if_neg (by decide)]
  simp only [digest_Hex.f, hloop, Option.bind_some]
  congr 1
  apply ba_ext
  rw [bStr_list, List.take_of_length_le (by omega)]
  show _ = hexU xs
  clear hloop hl
  induction xs with
  | nil => rfl
  | cons x xs ih =>
    rw [List.flatMap_cons, List.map_append, ih (fun y hy => hb y (by simp [hy])), hx2_bytes (hb x (by simp))]
    rfl
theorem ext1 (a : Nat) (h : a < 16) : (dgs.extract a (a + 1)).data.toList = [dgU a] := by
  have h : ∀ a : Fin 16, (dgs.extract a.1 (a.1 + 1)).data.toList = [dgU a.1] := by decide
  exact h ⟨a, by assumption⟩
theorem hex1_eq (xs : List Int) (h : Arr .u8 32 xs) : sargassoref1_Hex.f xs = some (hexB xs) := by
  obtain ⟨hl, hb⟩ := h
  have hsz : ∀ l : List UInt8, (ByteArray.mk l.toArray).size = l.length := fun l => by simp [ByteArray.size]
  have hloop : loopO (sargassoref1_Hex.s0 xs) ((⟨#[]⟩ : ByteArray), 0) = some (hexB (xs.take 32)) := by
    refine loop_run (fun i => (hexB (xs.take i), (i : Int))) 32 (by simp [hexB, hexU]) (fun i hi => ?_) ?_
    · have hin := getD_in hb i
      obtain ⟨h1, h1'⟩ := byte_hi hin
      obtain ⟨h2, h2'⟩ := byte_lo hin
      simp only [sargassoref1_Hex.s0, Int.toNat_natCast]
      have w1 : IntKind.u8.wrap (sR .u8 (xs.getD i 0) 4 + 1) = (((xs.getD i 0).toNat / 16 + 1 : Nat) : Int) := by rw [h1, wu8 (by omega) (by omega)]; omega
      have w2 : IntKind.u8.wrap (bAnd .u8 (xs.getD i 0) 15 + 1) = (((xs.getD i 0).toNat % 16 + 1 : Nat) : Int) := by rw [h2, wu8 (by omega) (by omega)]; omega
      rw [w1, w2, h1, h2, Int.toNat_natCast, Int.toNat_natCast, Int.toNat_natCast, Int.toNat_natCast]
      have s1 : (dgs.extract ((xs.getD i 0).toNat / 16) ((xs.getD i 0).toNat / 16 + 1)).size = 1 := by
        exact (Array.length_toList (xs := (dgs.extract ((xs.getD i 0).toNat / 16) ((xs.getD i 0).toNat / 16 + 1)).data)).symm.trans (congrArg List.length (ext1 _ h1'))
      have s2 : (dgs.extract ((xs.getD i 0).toNat % 16) ((xs.getD i 0).toNat % 16 + 1)).size = 1 := by
        exact (Array.length_toList (xs := (dgs.extract ((xs.getD i 0).toNat % 16) ((xs.getD i 0).toNat % 16 + 1)).data)).symm.trans (congrArg List.length (ext1 _ h2'))
      have s0 : (hexB (xs.take i)).size = 2 * i := by
        show (ByteArray.mk _).size = _
        rw [hsz, hexU_len]; simp; omega
      have hd : ((⟨#[48, 49, 50, 51, 52, 53, 54, 55, 56, 57, 97, 98, 99, 100, 101, 102]⟩ : ByteArray)) = dgs := rfl
      have hds : (dgs.size : Int) = 16 := rfl
      rw [hd, hds, if_pos (by omega), if_pos (by omega), if_pos (by omega), if_pos (by omega), if_pos (by omega), if_pos ?_, winc i (by omega)]
      · congr 3
        apply ba_ext
        rw [ByteArray.data_append, ByteArray.data_append, Array.toList_append, Array.toList_append, ext1 _ h1', ext1 _ h2']
        show hexU (xs.take i) ++ _ ++ _ = hexU (xs.take (i + 1))
        rw [take_hex xs i (by omega), List.append_assoc]
        rfl
      · rw [ByteArray.size_append]; omega
    · simp only [sargassoref1_Hex.s0]
      rw [if_neg (by decide)]
  simp only [sargassoref1_Hex.f, hloop, Option.bind_some]
  rw [List.take_of_length_le (by omega)]
theorem hexB_size (xs : List Int) : (hexB xs).size = 2 * xs.length := by
  rw [← hexU_len]
  simp [hexB, ByteArray.size]
theorem hx2_inj {x y : Int} (hx : InR .u8 x) (hy : InR .u8 y) (h : hx2 x = hx2 y) : x = y := by
  obtain ⟨hx0, hx1⟩ := hx
  obtain ⟨hy0, hy1⟩ := hy
  simp only [hx2, List.cons.injEq, and_true] at h
  have h1 := (dgU_inj _ _ (by omega) (by omega)).1 h.1
  have h2 := (dgU_inj _ _ (by omega) (by omega)).1 h.2
  omega
theorem hexU_inj : ∀ {xs ys : List Int}, (∀ x ∈ xs, InR .u8 x) → (∀ y ∈ ys, InR .u8 y) → hexU xs = hexU ys → xs = ys
  | [], [], _, _, _ => rfl
  | [], y :: ys, _, _, h => by simp [hexU, hx2] at h
  | x :: xs, [], _, _, h => by simp [hexU, hx2] at h
  | x :: xs, y :: ys, hx, hy, h => by
    simp only [hexU, List.flatMap_cons] at h
    have := List.append_inj h rfl
    rw [hx2_inj (hx x (by simp)) (hy y (by simp)) this.1, hexU_inj (fun z hz => hx z (by simp [hz])) (fun z hz => hy z (by simp [hz])) this.2]
theorem hexB_inj {xs ys : List Int} (hx : ∀ x ∈ xs, InR .u8 x) (hy : ∀ y ∈ ys, InR .u8 y) : hexB xs = hexB ys ↔ xs = ys :=
  ⟨fun h => hexU_inj hx hy (by simpa [hexB] using h), fun h => by rw [h]⟩
theorem bl_cons {a b : UInt8} {x y : List UInt8} : Op.bytesLess (a :: x) (b :: y) = (a < b || (a == b && Op.bytesLess x y)) := rfl
theorem hexU_less : ∀ {xs ys : List Int}, (∀ x ∈ xs, InR .u8 x) → (∀ y ∈ ys, InR .u8 y) → xs.length = ys.length → (Op.bytesLess (hexU xs) (hexU ys) = true ↔ cmpI xs ys < 0)
  | [], [], _, _, _ => by simp [hexU, Op.bytesLess, cmpI]
  | [], y :: ys, _, _, h => by simp at h
  | x :: xs, [], _, _, h => by simp at h
  | x :: xs, y :: ys, hx, hy, h => by
    have ih := hexU_less (xs := xs) (ys := ys) (fun z hz => hx z (by simp [hz])) (fun z hz => hy z (by simp [hz])) (by simpa using h)
    obtain ⟨hx0, hx1⟩ := hx x (by simp)
    obtain ⟨hy0, hy1⟩ := hy y (by simp)
    have l1 := dgU_lt (x.toNat / 16) (y.toNat / 16) (by omega) (by omega)
    have l2 := dgU_lt (x.toNat % 16) (y.toNat % 16) (by omega) (by omega)
    have i1 := dgU_inj (x.toNat / 16) (y.toNat / 16) (by omega) (by omega)
    have i2 := dgU_inj (x.toNat % 16) (y.toNat % 16) (by omega) (by omega)
    have e : Op.bytesLess (hexU (x :: xs)) (hexU (y :: ys)) = true ↔ (x.toNat / 16 < y.toNat / 16 ∨ (x.toNat / 16 = y.toNat / 16 ∧ (x.toNat % 16 < y.toNat % 16 ∨ (x.toNat % 16 = y.toNat % 16 ∧ cmpI xs ys < 0)))) := by
      simp only [hexU, List.flatMap_cons, hx2, List.cons_append, List.nil_append, bl_cons, Bool.or_eq_true, Bool.and_eq_true, decide_eq_true_eq, beq_iff_eq, l1, l2, i1, i2]
      rw [← ih]
      rfl
    rw [e]
    simp only [cmpI]
    by_cases c1 : x < y
    · rw [if_pos c1]
      refine ⟨fun _ => by omega, fun _ => ?_⟩
      omega
    · rw [if_neg c1]
      by_cases c2 : y < x
      · rw [if_pos c2]
        refine ⟨fun hh => ?_, fun hh => by omega⟩
        omega
      · rw [if_neg c2]
        have : x = y := by omega
        subst this
        simp
theorem hexB_less {xs ys : List Int} (hx : Arr .u8 32 xs) (hy : Arr .u8 32 ys) : bLess (hexB xs) (hexB ys) = decide (cmpI xs ys < 0) := by
  have h := hexU_less hx.2 hy.2 (by rw [hx.1, hy.1])
  have e : ∀ zs, (hexB zs).toList = hexU zs := fun zs => by rw [ByteArray.toList_eq]; rfl
  unfold bLess
  rw [e, e]
  by_cases c : cmpI xs ys < 0
  · rw [decide_eq_true c, h.2 c]
  · rw [decide_eq_false c]
    cases hb : Op.bytesLess (hexU xs) (hexU ys) with
    | false => rfl
    | true => exact absurd (h.1 hb) c
theorem short_eq (xs : List Int) (h : Arr .u8 32 xs) : digest_Short.f xs = some ((hexB xs).extract 0 8) := by
  simp only [digest_Short.f, hex_eq xs h, Option.bind_some]
  rw [if_pos ⟨by decide, by rw [hexB_size, h.1]; decide⟩]
  rfl
theorem less_eq (a b : List Int) : digest_Less.f a b = some (decide (cmpI a b < 0)) := by
  simp only [digest_Less.f, digest_Compare.f, bytes_Compare.f, Option.bind_some]
end Go.Proofs.Ytnbnnphlffhgiaa.T
