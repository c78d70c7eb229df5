/- A helper of this seat's claims. It proves no statement by itself. -/
import Derived.Test.YtnbnnphlffhgiaaMH
import Derived.Test.YtnbnnphlffhgiaaFH
/-! Rows of digests, plainly. -/
namespace Go.Proofs.Ytnbnnphlffhgiaa.T
open Go Go.Proofs Go.Proofs.Ytnbnnphlffhgiaa.K
set_option linter.unusedVariables false
set_option linter.unusedSimpArgs false

/-- All have thirty-two bytes. -/
def Hs (l : List (List Int)) : Prop := ∀ x ∈ l, x.length = 32
theorem hs_of {μ : Store} {v : Value} {sz : Nat} {xs : List (List Int)} (h : Slc (RA .u8 32) sz μ v xs) : Hs xs := fun x hx => (slc_arrs h x hx).1
theorem Hs.at {l : List (List Int)} (h : Hs l) {i : Nat} (hi : i < l.length) : (l.getD i []).length = 32 := by
  have e : l.getD i [] = l[i] := by simp [List.getD, hi]
  rw [e]; exact h _ (List.getElem_mem hi)
def lens (l : List (List Int)) : Nat := (l.map List.length).sum
theorem concat_eq (l : List (List Int)) (hn : l.length ≤ 1000) (hl : ∀ x ∈ l, x.length ≤ 1000) : slices_Concat_byte_byte.f l = some l.flatten := by
  have hpre : ∀ i, i ≤ l.length → ((l.take i).flatten.length ≤ 1000 * i) := by
    intro i
    induction i with
    | zero => intro _; simp
    | succ i ih =>
      intro hi
      have h1 := ih (by omega)
      have h2 : (l.getD i []).length ≤ 1000 := by
        have e : l.getD i [] = l[i] := by simp [List.getD, show i < l.length by omega]
        rw [e]; exact hl _ (List.getElem_mem _)
      rw [← take_next l i [] (by omega), List.flatten_append, List.length_append]
      simp only [List.flatten_cons, List.flatten_nil, List.append_nil]
      omega
  have hel : ∀ i, i < l.length → (l.getD i []).length ≤ 1000 := fun i hi => by
    have e : l.getD i [] = l[i] := by simp [List.getD, hi]
    rw [e]; exact hl _ (List.getElem_mem _)
  have hnext : ∀ i, i < l.length → (l.take (i + 1)).flatten = (l.take i).flatten ++ l.getD i [] := fun i hi => by
    rw [← take_next l i [] hi, List.flatten_append]; simp
  have h0 : loopO (slices_Concat_byte_byte.s0 l) (0, 0) = some ((l.flatten.length : Int)) := by
    refine loop_run (fun i => (((l.take i).flatten.length : Int), (i : Int))) l.length (by simp) (fun i hi => ?_) ?_
    · have a := hpre i (by omega)
      have b := hel i hi
      simp only [slices_Concat_byte_byte.s0, Int.toNat_natCast]
      rw [if_pos (by omega), if_pos (by omega), w64 (x := ((l.take i).flatten.length : Int) + ((l.getD i []).length : Int)) (by omega) (by omega), if_neg (by omega), Option.bind_some, winc i (by omega), hnext i hi, List.length_append]
      push_cast
      rfl
    · simp only [slices_Concat_byte_byte.s0]
      rw [if_neg (by omega), List.take_length]
  have h1 : loopO (slices_Concat_byte_byte.s1 l) ([], 0) = some l.flatten := by
    refine loop_run (fun i => ((l.take i).flatten, (i : Int))) l.length (by simp) (fun i hi => ?_) ?_
    · have a := hpre i (by omega)
      have b := hel i hi
      simp only [slices_Concat_byte_byte.s1, Int.toNat_natCast]
      rw [if_pos (by omega), if_pos (by omega), if_pos (by omega), winc i (by omega), hnext i hi]
    · simp only [slices_Concat_byte_byte.s1]
      rw [if_neg (by omega), List.take_length]
  have a := hpre l.length (by omega)
  rw [List.take_length] at a
  simp only [slices_Concat_byte_byte.f, slices_Grow_byte_byte.f, h0, Option.bind_some]
  rw [if_pos (by omega), Option.bind_some, h1, Option.bind_some]
/-- Of two digests one. -/
def pr (a b : List Int) : List Int := sha (sha (a ++ b))
theorem pr_len (a b : List Int) : (pr a b).length = 32 := sha_len _
theorem pair_eq (a b : List Int) (ha : a.length = 32) (hb : b.length = 32) : merkle_pair.f a b = some (pr a b) := by
  simp only [merkle_pair.f]
  rw [concat_eq [a, b] (by simp) (by simp [ha, hb]), Option.bind_some]
  simp only [List.flatten_cons, List.flatten_nil, List.append_nil]
  rw [twice_eq _ (by simp [ha, hb])]
  rfl
theorem pair1_eq (a b : List Int) (ha : a.length = 32) (hb : b.length = 32) : sargassoref1_pair.f a b = some (pr a b) := by
  simp only [sargassoref1_pair.f]
  rw [bytes_eq _ (by omega), Option.bind_some, if_pos (by omega), ref_twice_eq _ (by simp [ha, hb])]
  rfl
theorem xor1 (a : Nat) : a ^^^ 1 = if a % 2 = 0 then a + 1 else a - 1 := by
  have h1 : (a ^^^ 1) / 2 = a / 2 := by rw [Nat.xor_div_two]; simp
  have h2 : (a ^^^ 1) % 2 = (a + 1) % 2 := by
    have := Nat.xor_mod_two_pow (a := a) (b := 1) (n := 1)
    rw [show 2 ^ 1 = 2 from rfl] at this
    rw [this]
    have d0 : 0 ^^^ 1 % 2 = 1 := by decide
    have d1 : 1 ^^^ 1 % 2 = 0 := by decide
    rcases Nat.mod_two_eq_zero_or_one a with e | e <;> rw [e] <;> simp only [d0, d1] <;> omega
  split <;> omega
theorem xor64 (a : Nat) (h : a < 1000000) : bXor .i64 (a : Int) 1 = ((a ^^^ 1 : Nat) : Int) := by
  unfold bXor
  have e1 : (BitVec.ofInt IntKind.i64.bits (a : Int)).toNat = a := bv_nat _ _ (by simp [IntKind.bits]; omega)
  have e2 : (BitVec.ofInt IntKind.i64.bits (1 : Int)).toNat = 1 := bv_nat IntKind.i64.bits 1 (by simp [IntKind.bits])
  rw [BitVec.toNat_xor, e1, e2]
  have := xor1 a
  exact w64 (by omega) (by split at this <;> omega)
theorem iMin_nat (a b : Nat) : iMin (a : Int) (b : Int) = ((min a b : Nat) : Int) := by unfold iMin; split <;> omega
/-- The one beside it. -/
def oth (i : Nat) (l : List (List Int)) : List Int := l.getD (min (i ^^^ 1) (l.length - 1)) []
theorem oth_eq (i : Nat) (l : List (List Int)) (h0 : 0 < l.length) (hi : i < 1000000) (hl : l.length < 1000000) : merkle_other.f (i : Int) l = some (oth i l) := by
  simp only [merkle_other.f]
  have e : IntKind.i64.wrap ((l.length : Int) - 1) = ((l.length - 1 : Nat) : Int) := by rw [w64 (by omega) (by omega)]; omega
  rw [xor64 i hi, e, iMin_nat, if_pos (by omega), Int.toNat_natCast]
  rfl
theorem oth_len {i : Nat} {l : List (List Int)} (h : Hs l) (h0 : 0 < l.length) : (oth i l).length = 32 := h.at (by omega)
def upG (l : List (List Int)) (j : Nat) : List Int := pr (l.getD (2 * j) []) (oth (2 * j) l)
def upL (l : List (List Int)) : List (List Int) := (List.range ((l.length + 1) / 2)).map (upG l)
theorem upL_len (l : List (List Int)) : (upL l).length = (l.length + 1) / 2 := by simp [upL]
theorem upL_hs (l : List (List Int)) : Hs (upL l) := fun x hx => by
  simp only [upL, List.mem_map] at hx
  obtain ⟨j, _, rfl⟩ := hx
  exact pr_len _ _
theorem upL_at (l : List (List Int)) (j : Nat) (h : j < (l.length + 1) / 2) : (upL l).getD j [] = upG l j := by
  simp [upL, List.getD, h]
theorem up_eq (l : List (List Int)) (h : Hs l) (hl : l.length < 100000) : merkle_up.f l = some (upL l) := by
  simp only [merkle_up.f]
  have e : loopO (merkle_up.s0 l) ([], 0) = some (upL l) := by
    refine loop_run (fun j => ((List.range j).map (upG l), ((2 * j : Nat) : Int))) ((l.length + 1) / 2) rfl (fun j hj => ?_) ?_
    · simp only [merkle_up.s0, Int.toNat_natCast]
      rw [if_pos (by omega), if_pos (by omega), oth_eq _ _ (by omega) (by omega) (by omega), Option.bind_some, pair_eq _ _ (h.at (by omega)) (oth_len h (by omega)), Option.bind_some, if_pos (by simp; omega), range_map_succ, w64 (by omega) (by omega)]
      congr 3
    · simp only [merkle_up.s0]
      rw [if_neg (by omega)]
      rfl
  rw [e, Option.bind_some]
theorem row_eq (l : List (List Int)) (h : Hs l) (hl : l.length < 100000) : sargassoref1_row.f l = some (upL l) := by
  simp only [sargassoref1_row.f]
  have e : loopO (sargassoref1_row.s0 l) ([], 0) = some (upL l) := by
    refine loop_run (fun j => ((List.range j).map (upG l), ((2 * j : Nat) : Int))) ((l.length + 1) / 2) rfl (fun j hj => ?_) ?_
    · simp only [sargassoref1_row.s0, Int.toNat_natCast]
      have e1 : IntKind.i64.wrap ((l.length : Int) - 1) = ((l.length - 1 : Nat) : Int) := by rw [w64 (by omega) (by omega)]; omega
      have e2 : IntKind.i64.wrap (((2 * j : Nat) : Int) + 1) = ((2 * j + 1 : Nat) : Int) := by rw [w64 (by omega) (by omega)]; omega
      have e3 : oth (2 * j) l = l.getD (min (2 * j + 1) (l.length - 1)) [] := by
        unfold oth
        rw [xor1, if_pos (by omega)]
      rw [e1, e2, iMin_nat, if_pos (by omega), if_pos (by omega), if_pos (by omega), Int.toNat_natCast, ← e3, pair1_eq _ _ (h.at (by omega)) (oth_len h (by omega)), Option.bind_some, if_pos (by simp; omega), range_map_succ, w64 (by omega) (by omega)]
      congr 3
    · simp only [sargassoref1_row.s0]
      rw [if_neg (by omega)]
      rfl
  rw [e, Option.bind_some]
/-- The last row. -/
def topR : Nat → List (List Int) → List (List Int)
  | 0, l => l
  | f + 1, l => if 1 < l.length then topR f (upL l) else l
theorem top_stop {f : Nat} {l : List (List Int)} (h : l.length ≤ 1) : topR f l = l := by
  cases f with
  | zero => rfl
  | succ f => rw [topR, if_neg (by omega)]
theorem top_more : ∀ (f : Nat) (l : List (List Int)), l.length ≤ f → topR (f + 1) l = topR f l
  | 0, l, h => by rw [top_stop (by omega), top_stop (by omega)]
  | f + 1, l, h => by
    by_cases c : 1 < l.length
    · rw [topR, if_pos c, top_more f (upL l) (by rw [upL_len]; omega), topR, if_pos c]
    · rw [top_stop (by omega), top_stop (by omega)]
theorem top_any : ∀ (d f : Nat) (l : List (List Int)), l.length ≤ f → topR (f + d) l = topR f l
  | 0, f, l, h => rfl
  | d + 1, f, l, h => by rw [← Nat.add_assoc, top_more _ _ (by omega), top_any d f l h]
def rootL (l : List (List Int)) : List Int := if l.length = 0 then List.replicate 32 0 else (topR l.length l).getD 0 []
theorem top_pos : ∀ (f : Nat) (l : List (List Int)), 0 < l.length → l.length ≤ f → (topR f l).length = 1
  | 0, l, h, h' => by omega
  | f + 1, l, h, h' => by
    by_cases c : 1 < l.length
    · rw [topR, if_pos c]
      exact top_pos f _ (by rw [upL_len]; omega) (by rw [upL_len]; omega)
    · rw [top_stop (by omega)]; omega
theorem top_hs : ∀ (f : Nat) (l : List (List Int)), Hs l → Hs (topR f l)
  | 0, l, h => h
  | f + 1, l, h => by
    by_cases c : 1 < l.length
    · rw [topR, if_pos c]; exact top_hs f _ (upL_hs l)
    · rw [topR, if_neg c]; exact h
theorem root_loop : ∀ (f : Nat) (l : List (List Int)), Hs l → l.length ≤ f → l.length < 100000 → loopO merkle_Root.s0 l = some (topR f l)
  | 0, l, h, hf, hl => loopO_inr (by simp only [merkle_Root.s0]; rw [if_neg (by omega)]; rfl)
  | f + 1, l, h, hf, hl => by
    by_cases c : 1 < l.length
    · rw [loopO_inl (s' := upL l) (by simp only [merkle_Root.s0]; rw [if_pos (by omega), up_eq l h hl]; rfl), topR, if_pos c]
      exact root_loop f _ (upL_hs l) (by rw [upL_len]; omega) (by rw [upL_len]; omega)
    · rw [loopO_inr (r := l) (by simp only [merkle_Root.s0]; rw [if_neg (by omega)]), top_stop (by omega)]
theorem root1_loop : ∀ (f : Nat) (l : List (List Int)), Hs l → l.length ≤ f → l.length < 100000 → loopO sargassoref1_Root.s0 l = some (topR f l)
  | 0, l, h, hf, hl => loopO_inr (by simp only [sargassoref1_Root.s0]; rw [if_neg (by omega)]; rfl)
  | f + 1, l, h, hf, hl => by
    by_cases c : 1 < l.length
    · rw [loopO_inl (s' := upL l) (by simp only [sargassoref1_Root.s0]; rw [if_pos (by omega), row_eq l h hl]; rfl), topR, if_pos c]
      exact root1_loop f _ (upL_hs l) (by rw [upL_len]; omega) (by rw [upL_len]; omega)
    · rw [loopO_inr (r := l) (by simp only [sargassoref1_Root.s0]; rw [if_neg (by omega)]), top_stop (by omega)]
theorem root_eq (l : List (List Int)) (h : Hs l) (hl : l.length < 100000) : merkle_Root.f l = some (rootL l) := by
  simp only [merkle_Root.f, rootL]
  by_cases c : l.length = 0
  · rw [if_pos (by omega), if_pos c]; rfl
  · rw [if_neg (by omega), if_neg c, root_loop _ l h (Nat.le_refl _) hl, Option.bind_some, if_pos (by rw [top_pos _ _ (by omega) (Nat.le_refl _)]; decide)]
    rfl
theorem root1_eq (l : List (List Int)) (h : Hs l) (hl : l.length < 100000) : sargassoref1_Root.f l = some (rootL l) := by
  simp only [sargassoref1_Root.f, rootL]
  by_cases c : l.length = 0
  · rw [if_pos (by omega), if_pos c]; rfl
  · rw [if_neg (by omega), if_neg c, root1_loop _ l h (Nat.le_refl _) hl, Option.bind_some, if_pos (by rw [top_pos _ _ (by omega) (Nat.le_refl _)]; decide)]
    rfl
theorem rootL_len (l : List (List Int)) (h : Hs l) : (rootL l).length = 32 := by
  unfold rootL
  split
  · simp
  · exact (top_hs _ _ h).at (by rw [top_pos _ _ (by omega) (Nat.le_refl _)]; omega)
/-- The way of one. -/
def pathR : Nat → Nat → List (List Int) → List (List Int)
  | 0, _, _ => []
  | f + 1, i, l => if 1 < l.length then oth i l :: pathR f (i / 2) (upL l) else []
theorem tdiv2 (i : Nat) (hi : i < 100000000) : IntKind.i64.wrap (Int.tdiv (i : Int) 2) = ((i / 2 : Nat) : Int) := by
  rw [Int.tdiv_eq_ediv_of_nonneg (by omega), w64 (by omega) (by omega)]; omega
theorem path_loop : ∀ (f i : Nat) (acc l : List (List Int)), Hs l → l.length ≤ f → l.length < 100000 → i < 100000 → acc.length + f < 1000000 →
    ∃ i', loopO merkle_Path.s0 ((i : Int), acc, l) = some (i', acc ++ pathR f i l)
  | 0, i, acc, l, h, hf, hl, hi, ha => ⟨_, loopO_inr (by simp only [merkle_Path.s0]; rw [if_neg (by omega), pathR, List.append_nil])⟩
  | f + 1, i, acc, l, h, hf, hl, hi, ha => by
    by_cases c : 1 < l.length
    · obtain ⟨i', e⟩ := path_loop f (i / 2) (acc ++ [oth i l]) (upL l) (upL_hs l) (by rw [upL_len]; omega) (by rw [upL_len]; omega) (by omega) (by simp; omega)
      refine ⟨i', ?_⟩
      rw [loopO_inl (s' := (((i / 2 : Nat) : Int), acc ++ [oth i l], upL l)) (by simp only [merkle_Path.s0]; rw [if_pos (by omega), oth_eq _ _ (by omega) (by omega) (by omega), Option.bind_some, if_pos (by omega), up_eq l h hl, Option.bind_some, tdiv2 i (by omega)]), e, pathR, if_pos c, List.append_assoc]
      rfl
    · exact ⟨_, loopO_inr (by simp only [merkle_Path.s0]; rw [if_neg (by omega), pathR, if_neg c, List.append_nil])⟩
theorem path1_loop : ∀ (f i : Nat) (acc l : List (List Int)), Hs l → l.length ≤ f → l.length < 100000 → i < l.length → acc.length + f < 1000000 →
    ∃ i' l', loopO sargassoref1_Path.s0 ((i : Int), l, acc) = some (i', l', acc ++ pathR f i l)
  | 0, i, acc, l, h, hf, hl, hi, ha => by omega
  | f + 1, i, acc, l, h, hf, hl, hi, ha => by
    by_cases c : 1 < l.length
    · obtain ⟨i', l', e⟩ := path1_loop f (i / 2) (acc ++ [oth i l]) (upL l) (upL_hs l) (by rw [upL_len]; omega) (by rw [upL_len]; omega) (by rw [upL_len]; omega) (by simp; omega)
      refine ⟨i', l', ?_⟩
      have hx := xor1 i
      have ho : ∀ k : Nat, k = min (i ^^^ 1) (l.length - 1) → l.getD k [] = oth i l := fun k hk => by rw [hk]; rfl
      rw [loopO_inl (s' := (((i / 2 : Nat) : Int), upL l, acc ++ [oth i l])), e, pathR, if_pos c, List.append_assoc]
      · rfl
      · simp only [sargassoref1_Path.s0]
        rw [if_pos (by omega), xor64 i (by omega)]
        by_cases c2 : l.length ≤ i ^^^ 1
        · rw [if_pos (by omega), Option.bind_some, if_pos (by omega), if_pos (by omega), row_eq l h hl, Option.bind_some, tdiv2 i (by omega), Int.toNat_natCast, ho i (by split at hx <;> omega)]
        · rw [if_neg (by omega), Option.bind_some, if_pos (by omega), if_pos (by omega), row_eq l h hl, Option.bind_some, tdiv2 i (by omega), Int.toNat_natCast, ho (i ^^^ 1) (by omega)]
    · exact ⟨_, _, loopO_inr (by simp only [sargassoref1_Path.s0]; rw [if_neg (by omega), pathR, if_neg c, List.append_nil])⟩
theorem path_eq (i : Nat) (l : List (List Int)) (h : Hs l) (hl : l.length < 100000) (hi : i < l.length) : merkle_Path.f (i : Int) l = some (pathR l.length i l, true) := by
  simp only [merkle_Path.f]
  obtain ⟨i', e⟩ := path_loop l.length i [] l h (Nat.le_refl _) hl (by omega) (by simp; omega)
  rw [if_neg (by omega), Option.bind_some, if_neg (by simp; omega), e]
  rfl
theorem path1_eq (i : Nat) (l : List (List Int)) (h : Hs l) (hl : l.length < 100000) (hi : i < l.length) : sargassoref1_Path.f (i : Int) l = some (pathR l.length i l, true) := by
  simp only [sargassoref1_Path.f]
  obtain ⟨i', l', e⟩ := path1_loop l.length i [] l h (Nat.le_refl _) hl hi (by simp; omega)
  rw [if_neg (by omega), Option.bind_some, if_neg (by simp; omega), e]
  rfl
/-- How many rows there are above so many. -/
def cntR : Nat → Nat → Nat
  | 0, _ => 0
  | f + 1, n => if 1 < n then cntR f ((n + 1) / 2) + 1 else 0
theorem path_len : ∀ (f i : Nat) (l : List (List Int)), (pathR f i l).length = cntR f l.length
  | 0, i, l => rfl
  | f + 1, i, l => by
    rw [pathR, cntR]
    by_cases c : 1 < l.length
    · rw [if_pos c, if_pos c, List.length_cons, path_len f, upL_len]
    · rw [if_neg c, if_neg c]; rfl
theorem cnt_loop (step : Int × Int → Option ((Int × Int) ⊕ Int)) (hs : ∀ a b, step (a, b) = (if 1 < b then some (.inl (IntKind.i64.wrap (a + 1), IntKind.i64.wrap (Int.tdiv (IntKind.i64.wrap (b + 1)) 2))) else some (.inr a))) :
    ∀ (f n a : Nat), n ≤ f → n < 10000000 → a + f < 100000000 → loopO step ((a : Int), (n : Int)) = some ((a + cntR f n : Nat) : Int)
  | 0, n, a, h, hn, ha => loopO_inr (by rw [hs, if_neg (by omega)]; rfl)
  | f + 1, n, a, h, hn, ha => by
    by_cases c : 1 < n
    · rw [loopO_inl (s' := (((a + 1 : Nat) : Int), (((n + 1) / 2 : Nat) : Int)))]
      · rw [cnt_loop step hs f _ _ (by omega) (by omega) (by omega), cntR, if_pos c]
        congr 2
        omega
      · rw [hs, if_pos (by omega), winc a (by omega), winc n (by omega), Int.tdiv_eq_ediv_of_nonneg (by omega), w64 (by omega) (by omega)]
        congr 3
    · rw [loopO_inr (r := (a : Int)) (by rw [hs, if_neg (by omega)]), cntR, if_neg c]
      rfl
theorem cnt_more : ∀ (f n : Nat), n ≤ f → cntR (f + 1) n = cntR f n
  | 0, n, h => by
    show (if 1 < n then _ else 0) = 0
    rw [if_neg (by omega)]
  | f + 1, n, h => by
    by_cases c : 1 < n
    · rw [cntR, if_pos c, cnt_more f _ (by omega), cntR, if_pos c]
    · rw [cntR, if_neg c, cntR, if_neg c]
def climbR : Nat → List Int → List (List Int) → List Int
  | _, x, [] => x
  | i, x, y :: p => climbR (i / 2) (if i % 2 = 0 then pr x y else pr y x) p
theorem climbR_len : ∀ (p : List (List Int)) (i : Nat) (x : List Int), x.length = 32 → (climbR i x p).length = 32
  | [], i, x, h => h
  | y :: p, i, x, h => climbR_len p _ _ (by split <;> exact pr_len _ _)
theorem climbR_snoc : ∀ (p : List (List Int)) (i : Nat) (x y : List Int), climbR i x (p ++ [y]) = (if (i / 2 ^ p.length) % 2 = 0 then pr (climbR i x p) y else pr y (climbR i x p))
  | [], i, x, y => by simp [climbR]
  | z :: p, i, x, y => by
    rw [List.cons_append, climbR, climbR_snoc p, List.length_cons, climbR, Nat.div_div_eq_div_mul, Nat.pow_succ, Nat.mul_comm 2]
theorem climb_at : ∀ (f i : Nat) (l : List (List Int)), l.length ≤ f → i < l.length → climbR i (l.getD i []) (pathR f i l) = (topR f l).getD 0 []
  | 0, i, l, h, hi => by omega
  | f + 1, i, l, h, hi => by
    by_cases c : 1 < l.length
    · rw [pathR, if_pos c, topR, if_pos c, climbR, ← climb_at f (i / 2) (upL l) (by rw [upL_len]; omega) (by rw [upL_len]; omega), upL_at _ _ (by omega)]
      congr 1
      unfold upG
      have hx := xor1 i
      have hx2 := xor1 (2 * (i / 2))
      by_cases c2 : i % 2 = 0
      · have : 2 * (i / 2) = i := by omega
        rw [if_pos c2, this]
      · rw [if_neg c2] at hx ⊢
        rw [if_pos (by omega)] at hx2
        have e1 : oth i l = l.getD (2 * (i / 2)) [] := by
          unfold oth; rw [hx]; congr 1; omega
        have e2 : oth (2 * (i / 2)) l = l.getD i [] := by
          unfold oth; rw [hx2]; congr 1; omega
        rw [e1, e2]
    · rw [pathR, if_neg c, top_stop (by omega), climbR]
      congr 1
      omega
def zeroH : List Int := [0, 0, 0, 0, 0, 0, 0, 0, 0, 0, 0, 0, 0, 0, 0, 0, 0, 0, 0, 0, 0, 0, 0, 0, 0, 0, 0, 0, 0, 0, 0, 0]
theorem climb_take (x : List Int) (i : Nat) (p : List (List Int)) (k : Nat) (h : k < p.length) : climbR i x (p.take (k + 1)) = (if (i / 2 ^ k) % 2 = 0 then pr (climbR i x (p.take k)) (p.getD k []) else pr (p.getD k []) (climbR i x (p.take k))) := by
  rw [← take_next p k [] h, climbR_snoc, List.length_take, Nat.min_eq_left (by omega)]
theorem climb_run (x : List Int) (hx : x.length = 32) (i : Nat) (hi : i < 10000000) (p : List (List Int)) (hp : Hs p) (hpl : p.length < 100000) : ∃ j, loopO (merkle_Climb.s1 p) ((i : Int), 0, x) = some (j, climbR i x p) := by
  refine ⟨((i / 2 ^ p.length : Nat) : Int), loop_run (fun k => (((i / 2 ^ k : Nat) : Int), (k : Int), climbR i x (p.take k))) p.length (by simp [climbR]) (fun k hk => ?_) ?_⟩
  · have hd : i / 2 ^ k ≤ i := Nat.div_le_self _ _
    have hl := climbR_len (p.take k) i x hx
    have hq : i / 2 ^ (k + 1) = i / 2 ^ k / 2 := by rw [Nat.pow_succ, Nat.div_div_eq_div_mul]
    rw [climb_take x i p k hk, hq]
    generalize i / 2 ^ k = q at hd ⊢
    have hm : Int.tmod (q : Int) 2 = 0 ↔ q % 2 = 0 := by rw [Int.tmod_eq_emod_of_nonneg (by omega)]; omega
    simp only [merkle_Climb.s1, Int.toNat_natCast]
    rw [if_pos (by omega), if_pos (by omega)]
    by_cases c : q % 2 = 0
    · rw [if_pos (hm.2 c), pair_eq _ _ hl (hp.at hk), if_pos c]
      simp only [Option.bind_some]
      rw [tdiv2 q (by omega), winc k (by omega)]
    · rw [if_neg (fun h => c (hm.1 h)), pair_eq _ _ (hp.at hk) hl, if_neg c]
      simp only [Option.bind_some]
      rw [tdiv2 q (by omega), winc k (by omega)]
  · simp only [merkle_Climb.s1]
    rw [if_neg (by omega), List.take_length]
theorem climb1_run (x : List Int) (hx : x.length = 32) (i : Nat) (hi : i < 10000000) (p : List (List Int)) (hp : Hs p) (hpl : p.length < 100000) : ∃ j, loopO (sargassoref1_Climb.s1 p (p.length : Int)) ((i : Int), 0, x) = some (j, climbR i x p) := by
  refine ⟨((i / 2 ^ p.length : Nat) : Int), loop_run (fun k => (((i / 2 ^ k : Nat) : Int), (k : Int), climbR i x (p.take k))) p.length (by simp [climbR]) (fun k hk => ?_) ?_⟩
  · have hd : i / 2 ^ k ≤ i := Nat.div_le_self _ _
    have hl := climbR_len (p.take k) i x hx
    have hq : i / 2 ^ (k + 1) = i / 2 ^ k / 2 := by rw [Nat.pow_succ, Nat.div_div_eq_div_mul]
    rw [climb_take x i p k hk, hq]
    generalize i / 2 ^ k = q at hd ⊢
    have hm : Int.tmod (q : Int) 2 = 0 ↔ q % 2 = 0 := by rw [Int.tmod_eq_emod_of_nonneg (by omega)]; omega
    simp only [sargassoref1_Climb.s1, Int.toNat_natCast]
    rw [if_pos (by omega)]
    by_cases c : q % 2 = 0
    · rw [if_pos (hm.2 c), if_pos (by omega), pair1_eq _ _ hl (hp.at hk), if_pos c]
      simp only [Option.bind_some]
      rw [tdiv2 q (by omega), winc k (by omega)]
    · rw [if_neg (fun h => c (hm.1 h)), if_pos (by omega), pair1_eq _ _ (hp.at hk) hl, if_neg c]
      simp only [Option.bind_some]
      rw [tdiv2 q (by omega), winc k (by omega)]
  · simp only [sargassoref1_Climb.s1]
    rw [if_neg (by omega), List.take_length]
/-- What climbing comes to. -/
def climbL (x : List Int) (i n : Int) (p : List (List Int)) : List Int × Bool :=
  if n < 1 ∨ 1048576 < n ∨ i < 0 ∨ n ≤ i then (zeroH, false) else if p.length ≠ cntR n.toNat n.toNat then (zeroH, false) else (climbR i.toNat x p, true)
theorem climb_eq (x : List Int) (hx : x.length = 32) (i n : Int) (p : List (List Int)) (hp : Hs p) (hpl : p.length < 100000) : merkle_Climb.f x i n p = some (climbL x i n p) := by
  simp only [merkle_Climb.f, climbL]
  by_cases c1 : n < 1
  · rw [if_pos c1, if_pos (.inl c1)]; rfl
  · by_cases c2 : 1048576 < n
    · rw [if_neg c1, if_pos c2, if_pos (.inr (.inl c2))]; rfl
    · by_cases c3 : i < 0
      · rw [if_neg c1, if_neg c2, if_pos c3, if_pos (.inr (.inr (.inl c3)))]; rfl
      · by_cases c4 : n ≤ i
        · rw [if_neg c1, if_neg c2, if_neg c3, if_pos (.inr (.inr (.inr c4))), Option.bind_some, if_pos (by simpa using c4)]; rfl
        · rw [if_neg c1, if_neg c2, if_neg c3, Option.bind_some, if_neg (by simpa using c4), if_neg (by omega)]
          obtain ⟨m, rfl⟩ : ∃ m : Nat, n = m := ⟨n.toNat, by omega⟩
          obtain ⟨k, rfl⟩ : ∃ k : Nat, i = k := ⟨i.toNat, by omega⟩
          have hc := cnt_loop merkle_Climb.s0 (fun a b => rfl) m m 0 (Nat.le_refl _) (by omega) (by omega)
          rw [show ((0 : Nat) : Int) = 0 from rfl, Nat.zero_add] at hc
          rw [hc, Option.bind_some, Int.toNat_natCast, Int.toNat_natCast]
          by_cases c5 : p.length = cntR m m
          · rw [if_neg (by omega), if_neg (by omega)]
            obtain ⟨j, e⟩ := climb_run x hx k (by omega) p hp hpl
            rw [e]; rfl
          · rw [if_pos (by omega), if_pos c5]; rfl
theorem climb1_eq (x : List Int) (hx : x.length = 32) (i n : Int) (p : List (List Int)) (hp : Hs p) (hpl : p.length < 100000) : sargassoref1_Climb.f x i n p = some (climbL x i n p) := by
  simp only [sargassoref1_Climb.f, climbL]
  by_cases c1 : n < 1
  · rw [if_pos c1, if_pos (.inl c1)]; rfl
  · by_cases c2 : 1048576 < n
    · rw [if_neg c1, if_pos c2, if_pos (.inr (.inl c2))]; rfl
    · by_cases c3 : i < 0
      · rw [if_neg c1, if_neg c2, if_pos c3, if_pos (.inr (.inr (.inl c3)))]; rfl
      · by_cases c4 : n ≤ i
        · rw [if_neg c1, if_neg c2, if_neg c3, if_pos (.inr (.inr (.inr c4))), Option.bind_some, if_pos (by simpa using c4)]; rfl
        · rw [if_neg c1, if_neg c2, if_neg c3, Option.bind_some, if_neg (by simpa using c4), if_neg (by omega)]
          obtain ⟨m, rfl⟩ : ∃ m : Nat, n = m := ⟨n.toNat, by omega⟩
          obtain ⟨k, rfl⟩ : ∃ k : Nat, i = k := ⟨i.toNat, by omega⟩
          have hc := cnt_loop sargassoref1_Climb.s0 (fun a b => rfl) m m 0 (Nat.le_refl _) (by omega) (by omega)
          rw [show ((0 : Nat) : Int) = 0 from rfl, Nat.zero_add] at hc
          rw [hc, Option.bind_some, Int.toNat_natCast, Int.toNat_natCast]
          by_cases c5 : p.length = cntR m m
          · rw [if_neg (by omega), if_neg (by omega), ← c5]
            obtain ⟨j, e⟩ := climb1_run x hx k (by omega) p hp hpl
            rw [e]; rfl
          · rw [if_pos (by omega), if_pos c5]; rfl
theorem first6 : sargassolaw6_first.f = some true := by
  simp only [sargassolaw6_first.f]
  rw [root_eq _ (by simp [Hs]) (by simp), Option.bind_some, samehash_eq _ _ (rootL_len _ (by simp [Hs])) (by rfl), Option.bind_some]
  rfl
end Go.Proofs.Ytnbnnphlffhgiaa.T
