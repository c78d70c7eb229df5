/- Proved: the statement BlockFirst, as given (its conditions are those of the given row, and card where there is one; no others): the call ends, with true, and the input reads as it did. This file is one of its parts. -/
import Derived.Test.YtlpggofilkfbnaaDoorPBlockFirst5
import Derived.OpenShut
import Derived.ChangeArms
import Derived.DataReads
import Derived.WideShapes
import Derived.Below
import Derived.Carry
import Derived.ChangeOld
import Derived.LaidLaws
import Derived.Stop.ErrReads
import Derived.ChangeVars
import Derived.Test.YtlpggofilkfbnaaDoorRows
import Derived.Test.YtlpggofilkfbnaaDoorProg
import Derived.JoinedOf
import Derived.ProofKit
import Derived.WalkKit
import Derived.ShutString
import Derived.SizedLaws
import Derived.LaidHandle
import Derived.Handed
import Derived.SevenTiedAt
import Derived.Test.YtlpggofilkfbnaaDoorCards
import Derived.Test.YtlpggofilkfbnaaDoorTie
namespace Go.Proofs.YtlpggofilkfbnaaDoor.T
open Go Go.Proofs Go.Proofs.YtlpggofilkfbnaaDoor.K
set_option linter.unusedVariables false
set_option linter.unusedSimpArgs false
theorem tbytes1_eq {t : Tx} (h : TxOk t) (hf : Few 100 1000 t) : sargassoref1_TxBytes.f t = some (tb t) := by
  obtain ⟨v1, v2⟩ := nat4 h.v
  obtain ⟨t1, t2⟩ := nat4 h.t
  have hi := hf.ins
  have ho := hf.outs
  have hil : ∀ i ∈ t.Ins, (ib i).length ≤ 2000 := fun i hi => by
    rw [ib_len (h.ins i hi)]
    have := (ln_le i.Key.length).2
    have := hf.key i hi
    omega
  have hol : ∀ o ∈ t.Outs, (ob o).length ≤ 40 := fun o ho => by rw [ob_len (h.outs o ho)]; omega
  have lp := (ln_le t.Ins.length).2
  have lq := (ln_le t.Outs.length).2
  have L1 : ∀ P : List Int, P.length ≤ 100 → loopO (sargassoref1_TxBytes.s0 t) (P, 0) = some (P ++ (t.Ins.map ib).flatten) := fun P hP => by
    refine loop_run (fun i => (P ++ ((t.Ins.take i).map ib).flatten, (i : Int))) t.Ins.length (by simp) (fun i hi => ?_) ?_
    · have hm := getD_mem (l := t.Ins) (d := default) hi
      have ok := h.ins _ hm
      have hk := hf.key _ hm
      have hb := take_few ib 2000 t.Ins hil i (by omega)
      rw [flat_next ib t.Ins default i hi]
      simp only [sargassoref1_TxBytes.s0, Int.toNat_natCast]
      generalize t.Ins.getD i default = x at *
      obtain ⟨n1, n2⟩ := nat4 ok.n
      obtain ⟨s1, s2⟩ := nat4 ok.seq
      have ltx := ok.tx
      have lk := (ln_le x.Key.length).2
      have hf4 := four1_eq (P ++ ((t.Ins.take i).map ib).flatten ++ x.From.Tx) x.From.N.toNat n2 (by simp only [List.length_append]; omega)
      have hp := put1_eq (P ++ ((t.Ins.take i).map ib).flatten ++ x.From.Tx ++ lb x.From.N.toNat 4) x.Key.length (by omega) (by simp only [List.length_append, lb_len]; omega)
      have hf5 := four1_eq (P ++ ((t.Ins.take i).map ib).flatten ++ x.From.Tx ++ lb x.From.N.toNat 4 ++ pt x.Key.length ++ x.Key) x.Seq.toNat s2 (by simp only [List.length_append, lb_len, pt_len]; omega)
      rw [← n1] at hf4
      rw [← s1] at hf5
      rw [if_pos (by omega), if_pos (by omega), if_pos (by simp only [List.length_append]; omega), hf4, Option.bind_some, wu64 (by omega) (by omega), hp, Option.bind_some, if_pos (by simp only [List.length_append, lb_len, pt_len]; omega), hf5, Option.bind_some, winc i (by omega)]
      simp only [ib, List.append_assoc]
    · simp only [sargassoref1_TxBytes.s0]
      rw [if_neg (by omega), List.take_length]
  have L2 : ∀ P : List Int, P.length ≤ 300000 → loopO (sargassoref1_TxBytes.s1 t) (P, 0) = some (P ++ (t.Outs.map ob).flatten) := fun P hP => by
    refine loop_run (fun i => (P ++ ((t.Outs.take i).map ob).flatten, (i : Int))) t.Outs.length (by simp) (fun i hi => ?_) ?_
    · have hm := getD_mem (l := t.Outs) (d := default) hi
      have ok := h.outs _ hm
      have hb := take_few ob 40 t.Outs hol i (by omega)
      rw [flat_next ob t.Outs default i hi]
      simp only [sargassoref1_TxBytes.s1, Int.toNat_natCast]
      generalize t.Outs.getD i default = x at *
      obtain ⟨n1, n2⟩ := nat8 ok.val
      have ltx := ok.lock
      have h8 := eight1_eq (P ++ ((t.Outs.take i).map ob).flatten) x.Value.toNat (by simp only [List.length_append]; omega)
      rw [← n1] at h8
      rw [show Int.toNat 32 = 32 from rfl, show Int.toNat 0 = 0 from rfl, List.take_of_length_le (l := x.Lock) (by omega), List.drop_zero, if_pos (by omega), if_pos (by omega), h8, Option.bind_some, if_pos (by simp only [List.length_append, lb_len]; omega), winc i (by omega)]
      simp only [ob, List.append_assoc]
    · simp only [sargassoref1_TxBytes.s1]
      rw [if_neg (by omega), List.take_length]
  have hI := flat_le ib 2000 t.Ins hil
  have hO := flat_le ob 40 t.Outs hol
  have f1 := four1_eq [] t.Version.toNat v2 (by simp)
  rw [← v1] at f1
  have p1 := put1_eq (lb t.Version.toNat 4) t.Ins.length (by omega) (by rw [lb_len]; omega)
  have p2 := put1_eq (lb t.Version.toNat 4 ++ pt t.Ins.length ++ (t.Ins.map ib).flatten) t.Outs.length (by omega) (by simp only [List.length_append, lb_len, pt_len]; omega)
  have f2 := four1_eq (lb t.Version.toNat 4 ++ pt t.Ins.length ++ (t.Ins.map ib).flatten ++ pt t.Outs.length ++ (t.Outs.map ob).flatten) t.Time.toNat t2 (by simp only [List.length_append, lb_len, pt_len]; omega)
  rw [← t1] at f2
  simp only [sargassoref1_TxBytes.f]
  rw [f1, Option.bind_some, List.nil_append, wu64 (x := (t.Ins.length : Int)) (by omega) (by omega), p1, Option.bind_some, L1 _ (by simp only [List.length_append, lb_len, pt_len]; omega), Option.bind_some, wu64 (x := (t.Outs.length : Int)) (by omega) (by omega), p2, Option.bind_some, L2 _ (by simp only [List.length_append, lb_len, pt_len]; omega), Option.bind_some, f2, Option.bind_some]
  simp only [tb, List.append_assoc]
end Go.Proofs.YtlpggofilkfbnaaDoor.T
namespace Go.Proofs.YtlpggofilkfbnaaDoor.T
open Go Go.Proofs Go.Proofs.YtlpggofilkfbnaaDoor.K
set_option linter.unusedVariables false
set_option linter.unusedSimpArgs false
def idt (t : Tx) : List Int := sha (sha (tb t))
theorem idt_len (t : Tx) : (idt t).length = 32 := sha_len _
def T1 (h : Nat) (v : Int) (l e : List Int) : Tx := ⟨1, [⟨nullP, lb h 4 ++ e, 4294967295⟩], [⟨v, l⟩], 0⟩
theorem zB : Bs (List.replicate 32 0) := fun x hx => by
  obtain rfl : x = 0 := List.eq_of_mem_replicate hx
  simp [InR]
theorem T1_ok {h : Nat} {v : Int} {l e : List Int} (hv : InR .u64 v) (hl : l.length = 32) (lb_ : Bs l) (he : Bs e) : TxOk (T1 h v l e) := by
  refine ⟨by simp [T1, InR], fun i hi => ?_, fun o ho => ?_, by simp [T1, InR]⟩
  · obtain rfl := List.mem_singleton.1 hi
    exact ⟨by simp [nullP], zB, by simp [nullP, InR], (bs_lb _ _).app he, by simp [InR]⟩
  · obtain rfl := List.mem_singleton.1 ho
    exact ⟨hv, hl, lb_⟩
theorem T1_few {h : Nat} {v : Int} {l e : List Int} (he : e.length ≤ 90) : Few 60 100 (T1 h v l e) := by
  refine ⟨by simp [T1], by simp [T1], fun i hi => ?_⟩
  obtain rfl := List.mem_singleton.1 hi
  simp only [List.length_append, lb_len]; omega
theorem u32_nat (x : Int) : IntKind.u32.wrap x = (((IntKind.u32.wrap x).toNat : Nat) : Int) ∧ (IntKind.u32.wrap x).toNat < 4294967296 := nat4 (wrap_in _ _)
theorem first_eq (x0 x1 : Int) (x2 x3 : List Int) (h3 : x3.length ≤ 90) : block_First.f x0 x1 x2 x3 = some (T1 (IntKind.u32.wrap x0).toNat x1 x2 x3) := by
  obtain ⟨e, hl⟩ := u32_nat x0
  have h := four_eq [] _ hl (by simp)
  rw [← e] at h
  simp only [block_First.f]
  rw [h, Option.bind_some, concat_eq _ (by simp) (fun x hx => by
    have : x = [] ++ lb (IntKind.u32.wrap x0).toNat 4 ∨ x = x3 := by simpa using hx
    rcases this with rfl | rfl
    · simp [lb_len]
    · omega), Option.bind_some]
  simp [spend_Null.f, T1, nullP]
theorem first1_eq (x0 x1 : Int) (x2 x3 : List Int) (h3 : x3.length ≤ 90) : sargassoref1_First.f x0 x1 x2 x3 = some (T1 (IntKind.u32.wrap x0).toNat x1 x2 x3) := by
  obtain ⟨e, hl⟩ := u32_nat x0
  have h := four1_eq [] _ hl (by simp)
  rw [← e] at h
  simp only [sargassoref1_First.f]
  rw [h, Option.bind_some, if_pos (by simp [lb_len]; omega)]
  simp [sargassoref1_Null.f, T1, nullP]
theorem id_eq {t : Tx} (h : TxOk t) (hf : Few 60 100 t) : tx_ID.f t = some (idt t) := by
  have n0 := tb_le h (hf.mono (by omega) (by omega))
  simp only [tx_ID.f]
  rw [tbytes_eq h (hf.mono (by omega) (by omega)), Option.bind_some, twice_eq _ (by omega), Option.bind_some]
  rfl
theorem id1_eq {t : Tx} (h : TxOk t) (hf : Few 60 100 t) : sargassoref1_ID.f t = some (idt t) := by
  have n0 := tb_le h (hf.mono (by omega) (by omega))
  simp only [sargassoref1_ID.f]
  rw [tbytes1_eq h (hf.mono (by omega) (by omega)), Option.bind_some, ref_twice_eq _ (by omega), Option.bind_some]
  rfl
structure TsOk (l : List Tx) : Prop where
  n : l.length ≤ 1000
  ok : ∀ t ∈ l, TxOk t
  few : ∀ t ∈ l, Few 60 100 t
theorem ids_eq {b : Block} (h : TsOk b.Txs) : block_IDs.f b = some (b.Txs.map idt) := by
  have hn := h.n
  simp only [block_IDs.f]
  rw [show loopO (block_IDs.s0 b) ([], 0) = _ from loop_run (step := block_IDs.s0 b) (fun i => ((b.Txs.take i).map idt, (i : Int))) b.Txs.length (r := b.Txs.map idt) rfl (fun i hi => by
    have hm := getD_mem (l := b.Txs) (d := default) hi
    simp only [block_IDs.s0, Int.toNat_natCast]
    rw [if_pos (by omega), if_pos (by omega), id_eq (h.ok _ hm) (h.few _ hm), Option.bind_some, if_pos (by simp; omega), winc i (by omega), ← take_next b.Txs i default hi]
    simp) (by simp only [block_IDs.s0]; rw [if_neg (by omega), List.take_length])]
  rfl
theorem ids1_eq {l : List Tx} (h : TsOk l) : sargassoref1_IDs.f l = some (l.map idt) := by
  have hn := h.n
  simp only [sargassoref1_IDs.f]
  rw [show loopO (sargassoref1_IDs.s0 l) ([], 0) = _ from loop_run (step := sargassoref1_IDs.s0 l) (fun i => ((l.take i).map idt, (i : Int))) l.length (r := l.map idt) rfl (fun i hi => by
    have hm := getD_mem (l := l) (d := default) hi
    simp only [sargassoref1_IDs.s0, Int.toNat_natCast]
    rw [if_pos (by omega), if_pos (by omega), id1_eq (h.ok _ hm) (h.few _ hm), Option.bind_some, if_pos (by simp; omega), winc i (by omega), ← take_next l i default hi]
    simp) (by simp only [sargassoref1_IDs.s0]; rw [if_neg (by omega), List.take_length])]
  rfl
theorem ids_hs (l : List Tx) : Hs (l.map idt) := fun x hx => by
  obtain ⟨t, _, rfl⟩ := List.mem_map.1 hx
  exact idt_len t
def rt (l : List Tx) : List Int := rootL (l.map idt)
theorem rt_len (l : List Tx) : (rt l).length = 32 := rootL_len _ (ids_hs l)
theorem broot_eq {b : Block} (h : TsOk b.Txs) : block_Root.f b = some (rt b.Txs) := by
  have hn := h.n
  simp only [block_Root.f]
  rw [ids_eq h, Option.bind_some, root_eq _ (ids_hs _) (by simp; omega), Option.bind_some]
  rfl
def tbs (l : List Tx) : List Int := (l.map tb).flatten
def bb (h : HN) (l : List Tx) : List Int := hb h ++ (pt l.length ++ tbs l)
theorem bbytes_eq {h : HN} (o : h.Ok) {l : List Tx} (k : TsOk l) : block_Bytes.f ⟨h.h, l⟩ = some (bb h l) := by
  have hn := k.n
  have hl := hb_len o
  have lp := (ln_le l.length).2
  have ht : ∀ t ∈ l, (tb t).length ≤ 210000 := fun t ht => tb_le (k.ok t ht) ((k.few t ht).mono (by omega) (by omega))
  simp only [block_Bytes.f]
  rw [hbytes_eq o, Option.bind_some, wu64 (by omega) (by omega), put_eq _ _ (by omega) (by omega), Option.bind_some, show loopO (block_Bytes.s0 ⟨h.h, l⟩) (hb h ++ pt l.length, 0) = _ from loop_run (step := block_Bytes.s0 ⟨h.h, l⟩) (fun i => (hb h ++ pt l.length ++ ((l.take i).map tb).flatten, (i : Int))) l.length (r := hb h ++ pt l.length ++ tbs l) (by simp) (fun i hi => by
    have hm := getD_mem (l := l) (d := default) hi
    have hb_ := take_few tb 210000 l ht i (by omega)
    have h2 := ht _ hm
    rw [flat_next tb l default i hi]
    simp only [block_Bytes.s0, Int.toNat_natCast]
    rw [if_pos (by omega), if_pos (by omega), tbytes_eq (k.ok _ hm) ((k.few _ hm).mono (by omega) (by omega)), Option.bind_some, if_pos (by simp only [List.length_append, pt_len]; omega), winc i (by omega)]
    simp only [List.append_assoc]) (by simp only [block_Bytes.s0]; rw [if_neg (by omega), List.take_length]; rfl), Option.bind_some]
  simp only [bb, List.append_assoc]
theorem bsize_eq {h : HN} (o : h.Ok) {l : List Tx} (k : TsOk l) : block_Size.f ⟨h.h, l⟩ = some ((bb h l).length : Int) := by
  simp only [block_Size.f]
  rw [bbytes_eq o k, Option.bind_some]
theorem hcheck_eq (h : HN) : head_Check.f h.h = some (if h.w = 0 ∨ 16777216 < h.w then xErrRange else .b 0) := by
  have hw : h.h.Work = (h.w : Int) := rfl
  simp only [head_Check.f]
  by_cases c1 : h.w = 0
  · rw [if_pos (show h.h.Work = 0 by omega), Option.bind_some, if_pos rfl, if_pos (.inl c1)]
  · rw [if_neg (show ¬ h.h.Work = 0 by omega), Option.bind_some]
    by_cases c2 : 16777216 < h.w
    · rw [if_pos (decide_eq_true (by omega)), if_pos (.inr c2)]
    · rw [if_neg (by simp only [decide_eq_true_eq]; omega), if_neg (by omega)]
theorem parts_ok {b : Block} (h : TsOk b.Txs) (h1 : ∀ i, i < b.Txs.length → ck (b.Txs.getD i default) = .b 0) (h2 : ∀ i, i < b.Txs.length → (isBase (b.Txs.getD i default) ↔ i = 0)) : block_parts.f b = some (.b 0) := by
  have hn := h.n
  simp only [block_parts.f]
  have e1 : loopO (block_parts.s1 b) 0 = some (.inr (.b 0)) := loop_run (step := block_parts.s1 b) (fun i => (i : Int)) b.Txs.length rfl (fun i hi => by
    simp only [block_parts.s1, Int.toNat_natCast]
    rw [if_pos (by omega), if_pos (by omega), base_eq, Option.bind_some, if_neg (fun h => h (decide_eq_decide.2 ((h2 i hi).trans (by omega)))), winc i (by omega)]) (by simp only [block_parts.s1]; rw [if_neg (by omega)])
  refine loop_run (step := block_parts.s0 b) (fun i => (i : Int)) b.Txs.length rfl (fun i hi => ?_) ?_
  · have hm := getD_mem (l := b.Txs) (d := default) hi
    simp only [block_parts.s0, Int.toNat_natCast]
    rw [if_pos (by omega), if_pos (by omega), check_eq (h.ok _ hm) (h.few _ hm), h1 i hi, Option.bind_some, if_neg (fun h => h rfl), winc i (by omega)]
  · simp only [block_parts.s0]
    rw [if_neg (by omega), e1]
theorem twice_one {b : Block} {t : Tx} (h : TsOk b.Txs) (e : b.Txs = [t]) (ht : t.Ins.length = 1) : block_twice.f b = some false := by
  simp only [block_twice.f]
  rw [ids_eq h, Option.bind_some, e]
  have hg : b.Txs.getD 0 default = t := by rw [e]; rfl
  have e1 : loopO (block_twice.s1 b [idt t] 0 []) (0, []) = some (.inl (1, mput [] (t.Ins.getD 0 default).From true, mput [] (idt t) true)) := by
    rw [loopO_inl (s' := (1, mput [] (t.Ins.getD 0 default).From true)) (by
      simp only [block_twice.s1]
      rw [show (0 : Int).toNat = 0 from rfl, hg, ht, if_pos (by omega), if_pos (by omega), if_neg (by simp [mget])]
      rfl), loopO_inr (by
      simp only [block_twice.s1]
      rw [show (0 : Int).toNat = 0 from rfl, hg, ht, if_neg (by omega)])]
    rfl
  show loopO (block_twice.s0 b [idt t]) (0, [], []) = some false
  rw [loopO_inl (s' := (1, mput [] (t.Ins.getD 0 default).From true, mput [] (idt t) true)) (by
    simp only [block_twice.s0]
    rw [if_pos (by simp), if_pos (by simp), if_neg (by simp [mget]), if_pos (by rw [e]; simp), e1]), loopO_inr (by
    simp only [block_twice.s0]
    rw [if_neg (by simp)])]
def T0 : Tx := T1 0 0 (sha []) []
def H0 : HN := ⟨1, List.replicate 32 0, rt [T0], 1000, 1, 0⟩
theorem sha_bs (m : List Int) : Bs (sha m) := (sha_arr m).2
theorem T0_ok : TxOk T0 := T1_ok (by simp [InR]) (sha_len _) (sha_bs _) bs_nil
theorem T0_few : Few 60 100 T0 := T1_few (by simp)
theorem Ts0 : TsOk [T0] := ⟨by simp, fun t ht => by obtain rfl := List.mem_singleton.1 ht; exact T0_ok, fun t ht => by obtain rfl := List.mem_singleton.1 ht; exact T0_few⟩
theorem H0_ok : H0.Ok := ⟨by decide, by simp [H0], show (rt [T0]).length = 32 from rt_len _, by decide, by decide, by decide⟩
theorem start_eq : block_Start.f = some ⟨H0.h, [T0]⟩ := by
  simp only [block_Start.f, spend_Lock.f]
  rw [sha_eq _ (by simp), Option.bind_some, Option.bind_some, first_eq _ _ _ _ (by simp), Option.bind_some, show T1 (IntKind.u32.wrap 0).toNat 0 (sha []) [] = T0 from rfl, broot_eq (b := ⟨⟨1, List.replicate 32 0, List.replicate 32 0, 1000, 1, 0⟩, [T0]⟩) Ts0, Option.bind_some]
  rfl
theorem start1_eq : sargassoref1_Start.f = some ⟨H0.h, [T0]⟩ := by
  simp only [sargassoref1_Start.f, sargassoref1_Rooted.f]
  rw [ref_sha_eq _ (by simp), Option.bind_some, first1_eq _ _ _ _ (by simp), Option.bind_some, show T1 (IntKind.u32.wrap 0).toNat 0 (sha []) [] = T0 from rfl, ids1_eq Ts0, Option.bind_some, root1_eq _ (ids_hs _) (by simp), Option.bind_some, Option.bind_some]
  rfl
theorem T1_base (h : Nat) (v : Int) (l e : List Int) : isBase (T1 h v l e) := ⟨rfl, rfl⟩
theorem T1_tb {h : Nat} {v : Int} {l e : List Int} (ok : TxOk (T1 h v l e)) (he : e.length ≤ 76) : (tb (T1 h v l e)).length ≤ 4000 := tb_small ok (by simp [T1]) (by simp [T1]) fun i hi => by
  obtain rfl := List.mem_singleton.1 hi
  simp only [List.length_append, lb_len]; omega
theorem ck_T0 : ck T0 = .b 0 := by
  rw [ck_of (t := T0) (fun h => by
    have : T0.Ins.length = 0 ∨ 50 < T0.Ins.length ∨ T0.Outs.length = 0 ∨ 50 < T0.Outs.length := h
    simp [T0, T1] at this) (T1_tb T0_ok (by simp)) (fun i hi => by
    obtain rfl := List.mem_singleton.1 hi
    simp [lb_len]) (by simp [vs, T0, T1, goSum]) (by simp [frs, T0, T1])]
  unfold bs
  rw [if_pos (show isBase T0 from T1_base _ _ _ _), if_neg (by simp [T0, T1, lb_len])]
theorem bb0_len : (bb H0 [T0]).length ≤ 5000 := by
  have h1 := T1_tb T0_ok (by simp)
  have h2 : (tb T0).length ≤ 4000 := h1
  simp only [bb, tbs, List.length_append, hb_len H0_ok, pt_len, List.map_cons, List.map_nil, List.flatten_cons, List.flatten_nil, List.length_nil]
  have := (ln_le [T0].length).2
  omega
theorem check0 : block_Check.f ⟨H0.h, [T0]⟩ = some (.b 0) := by
  simp only [block_Check.f]
  rw [hcheck_eq, if_neg (by decide), Option.bind_some, if_neg (fun h => h rfl), if_neg (by simp), Option.bind_some, if_neg (by simp), bsize_eq H0_ok Ts0, Option.bind_some, if_neg (by have := bb0_len; omega), parts_ok (b := ⟨H0.h, [T0]⟩) Ts0 (fun i hi => by
    have hi : i < 1 := hi
    obtain rfl : i = 0 := by omega
    exact ck_T0) (fun i hi => by
    have hi : i < 1 := hi
    obtain rfl : i = 0 := by omega
    exact ⟨fun _ => rfl, fun _ => T1_base _ _ _ _⟩), Option.bind_some, if_neg (fun h => h rfl), twice_one (b := ⟨H0.h, [T0]⟩) Ts0 rfl rfl, Option.bind_some, if_neg (by decide), broot_eq (b := ⟨H0.h, [T0]⟩) Ts0, Option.bind_some, if_neg (fun h => h rfl)]
theorem first7 : sargassolaw7_first.f = some true := by
  simp only [sargassolaw7_first.f]
  rw [start_eq, Option.bind_some, check0, Option.bind_some, if_pos rfl, Option.bind_some, ids_eq (b := ⟨H0.h, [T0]⟩) Ts0]
  rfl
theorem sametxs_eq {xs ys : List Tx} (h : TsOk xs) (k : ∀ t ∈ ys, TxOk t) : sargassoref_SameTxs.f xs ys = some (decide (xs = ys)) := by
  have hn := h.n
  simp only [sargassoref_SameTxs.f]
  by_cases c : xs.length = ys.length
  · rw [if_neg (by omega), all_run xs.length (fun i => xs.getD i default = ys.getD i default) (by omega) (fun i hi => by
      have hm := getD_mem (l := xs) (d := default) hi
      have hf := h.few _ hm
      have a1 := hf.ins
      have a2 := hf.outs
      simp only [sargassoref_SameTxs.s0, Int.toNat_natCast]
      rw [if_pos (by omega), if_pos (by omega), if_pos (by omega), sametx_eq (h.ok _ hm) (k _ (getD_mem (show i < ys.length by omega))) (by omega) (by omega) (fun j hj => by have := hf.key j hj; omega), Option.bind_some]
      by_cases e : xs.getD i default = ys.getD i default
      · rw [if_pos e, if_pos (decide_eq_true e)]
      · rw [if_neg e, if_neg (by simp only [decide_eq_true_eq]; exact e)]) (by simp [sargassoref_SameTxs.s0])]
    exact congrArg some (decide_eq_decide.2 (ext_iff xs ys default c))
  · rw [if_pos (by omega), decide_eq_false (fun e => c (by rw [e]))]
theorem sameblock_self {h : HN} (o : h.Ok) {l : List Tx} (k : TsOk l) : sargassoref_SameBlock.f ⟨h.h, l⟩ ⟨h.h, l⟩ = some true := by
  simp only [sargassoref_SameBlock.f]
  rw [same_eq o o, decide_eq_true rfl, Option.bind_some, if_pos rfl, sametxs_eq k k.ok, decide_eq_true rfl]
  rfl
end Go.Proofs.YtlpggofilkfbnaaDoor.T
namespace Go.Proofs.YtlpggofilkfbnaaDoor.T
open Go Go.Proofs Go.Proofs.YtlpggofilkfbnaaDoor.K
set_option linter.unusedVariables false
set_option linter.unusedSimpArgs false
theorem sargassolaw7_BlockFirst.m (μ : Store) (x0 : Int) (h0 : InR .i64 x0) (x1 : Int) (h1 : InR .u64 x1) (x2 : List Int) (h2 : Arr .u8 32 x2) (x3 : List Int) (u3 : Value) (h3 : Slc (RI .u8) 1 μ u3 x3) : sargassolaw7_BlockFirst.f x0 x1 x2 x3 = some true := by
  simp only [sargassolaw7_BlockFirst.f]
  rw [first7, Option.bind_some, if_pos rfl]
  by_cases c : 60 < x3.length
  · rw [if_pos (by omega)]
  have ok : TxOk (T1 (IntKind.u32.wrap x0).toNat x1 x2 x3) := T1_ok h1 h2.1 h2.2 (fun x hx => slc_ints h3 x hx)
  have hf : Few 60 100 (T1 (IntKind.u32.wrap x0).toNat x1 x2 x3) := T1_few (by omega)
  have a1 := hf.ins
  have a2 := hf.outs
  rw [if_neg (by omega), if_pos rfl, first_eq _ _ _ _ (by omega), Option.bind_some, first1_eq _ _ _ _ (by omega), Option.bind_some, sametx_eq ok ok (by omega) (by omega) (fun i hi => by have := hf.key i hi; omega), decide_eq_true rfl, Option.bind_some, if_pos rfl, start_eq, Option.bind_some, start1_eq, Option.bind_some, sameblock_self H0_ok Ts0]
  rfl
end Go.Proofs.YtlpggofilkfbnaaDoor.T
namespace Go.Proofs.YtlpggofilkfbnaaDoor.K
open Go Go.Proofs Go.ChangeShapes Go.WideShapes Go.RowKit
def mem (w : World) : Store := fun k => w.heap[k]?
theorem agr_mem (w : World) : Agr (mem w) w := fun _ _ h => h
theorem mem_cell {w : World} {g i : Nat} {v : Value} (h : w.cell? ⟨g, i, none⟩ = some v) : (mem w).cell g i = some v := by
  unfold World.cell? at h
  unfold Store.cell mem
  cases hm : w.heap[g]? with
  | none => simp [hm] at h
  | some o => cases o <;> simp_all
theorem wf_in {k : IntKind} {n : Int} (h : (Lit.int k n).wf = true) : InR k n := by
  cases k <;> simp [Lit.wf, IntKind.min, IntKind.max, IntKind.signed, IntKind.bits] at h <;> simp [InR] <;> omega
section
variable {H : Type} {enc : TypeId × Value → H} {P : Program} {w : World} {base : Nat} {spare : Nat → Bool} {held : Bool} {t e : TypeId}
def Rd (enc : TypeId × Value → H) (P : Program) (w : World) (base : Nat) (spare : Nat → Bool) (held : Bool) (t : TypeId) (R : List Value → Prop) : Prop :=
  ∀ fuel cs x, DataW.trod enc P w base spare held fuel t cs = some x → R cs
theorem rd_int {k : IntKind} (ht : P.underlying t = some (.int k)) : Rd enc P w base spare held t (fun c => ∃ n, RI k n c) := by
  intro fuel cs x h
  obtain ⟨n, rfl, _, hw⟩ := DataW.trod_int ht h
  exact ⟨n, rfl, wf_in hw⟩
theorem rd_array {k : IntKind} {n : Nat} (ht : P.underlying t = some (.array n e)) (he : P.underlying e = some (.int k)) (hc : P.cellsOf e = 1) (hn : P.cellsOf t = n) :
    Rd enc P w base spare held t (fun c => ∃ xs, RA k n xs c) := by
  intro fuel cs x h
  obtain ⟨xs, m, _, _, hl, hx, hf⟩ := DataW.trod_array ht h
  rw [hn] at hl
  have each : ∀ i, i < n → ∃ z, cs[i]? = some (.int k z) ∧ InR k z := by
    intro i hi
    have h1 := hf i hi
    rw [hc, Nat.mul_one, List.getElem?_eq_getElem (by omega)] at h1
    obtain ⟨z, hz, _, hw⟩ := DataW.trod_int he h1
    refine ⟨z, ?_, wf_in hw⟩
    have := congrArg (·[0]?) hz
    simpa using this
  refine ⟨cs.map fun v => match v with | .int _ z => z | _ => 0, ?_, ?_, ?_⟩
  · simp only [List.flatten_cons, List.flatten_nil, List.append_nil]
    apply List.ext_getElem?
    intro i
    by_cases hi : i < n
    · obtain ⟨z, hz, _⟩ := each i hi
      rw [av_get _ _ _ hi, hz]
      simp [List.getD, hz]
    · rw [List.getElem?_eq_none (by omega), List.getElem?_eq_none (by rw [av_len]; omega)]
  · simpa using hl
  · intro y hy
    obtain ⟨v, hv, rfl⟩ := List.mem_map.1 hy
    obtain ⟨i, hi, rfl⟩ := List.getElem_of_mem hv
    obtain ⟨z, hz, hr⟩ := each i (by omega)
    rw [List.getElem?_eq_getElem hi] at hz
    rw [Option.some.inj hz]
    exact hr
theorem els_of {α : Type} {RE : α → List Value → Prop} {sz : Nat} : ∀ {n : Nat} {Q : Nat → Value → Prop}, (∀ i, i < n → ∃ x c, RE x c ∧ c.length = sz ∧ ∀ j v, c[j]? = some v → Q (i * sz + j) v) →
    ∃ xs cs, xs.length = n ∧ Els RE sz xs cs ∧ ∀ j v, cs[j]? = some v → Q j v
  | 0, _, _ => ⟨[], [], rfl, .nil, fun j v h => by simp at h⟩
  | n + 1, Q, f => by
    obtain ⟨x, c, h1, h2, h3⟩ := f 0 (by omega)
    obtain ⟨xs, cs, e1, e2, e3⟩ := els_of (n := n) (Q := fun m v => Q (sz + m) v) (fun i hi => by
      obtain ⟨x, c, h1, h2, h3⟩ := f (i + 1) (by omega)
      refine ⟨x, c, h1, h2, fun j v hj => ?_⟩
      have := h3 j v hj
      rwa [Nat.add_mul, Nat.one_mul, Nat.add_comm (i * sz), Nat.add_assoc] at this)
    refine ⟨x :: xs, c ++ cs, by simp [e1], .cons h1 h2 e2, fun j v hj => ?_⟩
    rcases Nat.lt_or_ge j c.length with h | h
    · rw [List.getElem?_append_left h] at hj
      simpa using h3 j v hj
    · rw [List.getElem?_append_right h] at hj
      have := e3 _ _ hj
      rwa [h2, Nat.add_sub_cancel' (by omega)] at this
theorem rd_slice {α : Type} {RE : α → List Value → Prop} {sz : Nat} (ht : P.underlying t = some (.slice e)) (hc : P.cellsOf e = sz) (h0 : 0 < sz) (hr : Rd enc P w base spare held e (fun c => ∃ x, RE x c)) :
    Rd enc P w base spare held t (fun c => ∃ v xs, c = [v] ∧ Slc RE sz (mem w) v xs) := by
  intro fuel cs x h
  rcases DataW.trod_slice ht h with ⟨rfl, _⟩ | ⟨a, len, cap, elems, rest, n, _, rfl, _, _, hl, hm, hlen, hel, _, _⟩
  · exact ⟨_, [], rfl, [], .nil, none, 0, rfl, Nat.le_refl _, Nat.zero_le _, fun h => absurd rfl h, fun h => absurd rfl h⟩
  have each0 : ∀ i, i < len → ∃ x c, RE x c ∧ c.length = sz ∧ ∀ j, j < sz → w.cell? ((a.add (i * sz)).add j) = c[j]? := by
    intro i hi
    have h1 := hel i hi
    rw [List.getElem?_eq_getElem (by omega), hc] at h1
    obtain ⟨c, hc1, hc2⟩ := Option.bind_eq_some_iff.1 h1
    obtain ⟨_, l1, l2⟩ := World.cells?_some hc1
    obtain ⟨x, hx⟩ := hr _ _ _ hc2
    exact ⟨x, c, hx, l1, l2⟩
  have hs : 0 < len → a.spot = none := by
    intro hp
    obtain ⟨x, c, _, l1, l2⟩ := each0 0 hp
    have h2 := (l2 0 h0).trans (List.getElem?_eq_getElem (by omega))
    simpa [Addr.add] using World.cell?_spot h2
  obtain ⟨b, off, spot⟩ := a
  simp only at hs
  have each : ∀ i, i < len → ∃ x c, RE x c ∧ c.length = sz ∧ ∀ j v, c[j]? = some v → (fun m v => w.cell? ⟨b, off + m, none⟩ = some v) (i * sz + j) v := by
    intro i hi
    obtain ⟨x, c, hx, l1, l2⟩ := each0 i hi
    refine ⟨x, c, hx, l1, fun j v hj => ?_⟩
    have hjl : j < sz := by
      have := (List.getElem?_eq_some_iff.1 hj).1
      omega
    have h2 := (l2 j hjl).trans hj
    rw [hs (by omega), add_plain, add_plain] at h2
    simpa [Nat.add_assoc] using h2
  obtain ⟨xs, cs, e1, e2, e3⟩ := els_of (RE := RE) (sz := sz) (Q := fun m v => w.cell? ⟨b, off + m, none⟩ = some v) each
  refine ⟨_, xs, rfl, cs, e2, some ⟨b, off, spot⟩, cap, by rw [e1], by omega, hm, fun hn => by rw [hs (by omega)]; rfl, fun hn j v hj => mem_cell (e3 j v hj)⟩
theorem rd_at {R : List Value → Prop} {v : Value} {d : DataW H} {ps : List MemPlace} (hr : Rd enc P w base spare held t R) (h : DataW.Trod enc P w base spare held t v d ps) : R v.cells.toList := by
  obtain ⟨fuel, hf⟩ := h
  exact hr _ _ _ hf
theorem at_slice {α : Type} {RE : α → List Value → Prop} {sz : Nat} {r : Reach} {b0 : Nat} {v : Value} {d : DataW H} {ps : List MemPlace} (ht : P.underlying t = some (.slice e)) (hval : Value.okWide P w r b0 t v)
    (hr : Rd enc P w base spare held t (fun c => ∃ v xs, c = [v] ∧ Slc RE sz (mem w) v xs)) (h : DataW.Trod enc P w base spare held t v d ps) : ∃ xs, Slc RE sz (mem w) v xs := by
  obtain ⟨a, len, cap, rfl⟩ := okWide_slice ht hval
  obtain ⟨u, xs, e1, h2⟩ := rd_at hr h
  simp [Value.cells] at e1
  subst e1
  exact ⟨xs, h2⟩
theorem at_agg {R : List Value → Prop} {v : Value} {d : DataW H} {ps : List MemPlace} (hv : ∃ cs, v = .agg cs) (hr : Rd enc P w base spare held t R) (h : DataW.Trod enc P w base spare held t v d ps) : ∃ cs : List Value, v = .agg cs.toArray ∧ R cs := by
  obtain ⟨cs, rfl⟩ := hv
  exact ⟨cs.toList, by simp, rd_at hr h⟩
theorem agg_array {n : Nat} {r : Reach} {b0 : Nat} {v : Value} (ht : P.underlying t = some (.array n e)) (hval : Value.okWide P w r b0 t v) : ∃ cs, v = .agg cs := by
  unfold Value.okWide at hval
  rw [ht] at hval
  obtain ⟨cs, h, _⟩ := hval
  exact ⟨cs, h⟩
theorem again {W W' : World} {v : Value} {d : DataW H} {ps : List MemPlace} (hl : laidOutB P = true) (hr : P.readableRec t = true) (hrow : t < P.types.size) (h : DataW.Trod enc P W 0 (fun _ => true) true t v d ps) (hb : Below W.heap.size W W') :
    DataW.Trod enc P W' 0 (fun b => decide (b < W.heap.size)) true t v d ps :=
  Below.trod hl hr hrow h hb (fun p hp => let ⟨n, hn⟩ := h; DataW.trod_lt n _ _ _ hn p hp)
end
end Go.Proofs.YtlpggofilkfbnaaDoor.K
namespace Go.Proofs.YtlpggofilkfbnaaDoor.K
open Go Go.Proofs
set_option linter.unusedVariables false
theorem laid_each {P : Program} {W : World} : ∀ {l : List (String × DataW Unit)} {ps : List MemPlace}, DataW.LaidVars P W l ps → ∀ {n : String} {d : DataW Unit}, (n, d) ∈ l →
    ∃ g t cs fuel p, P.globalNamed n = some g ∧ (P.globals[g]?).map (·.type) = some t ∧ W.var? P n = some cs ∧ DataW.trod (fun _ => ()) P W 0 (fun _ => true) false fuel t cs.toList = some (d, p) ∧ ∀ x ∈ MemPlace.row ⟨g, 0, none⟩ cs.size ++ p, x ∈ ps
  | [], ps, h, n, d, hm => by cases hm
  | (m, e) :: r, ps, h, n, d, hm => by
    obtain ⟨g, t, cs, fuel, p, q, hg, ht, hv, hd, hr, rfl⟩ := h
    rcases List.mem_cons.1 hm with e1 | hm
    · cases e1
      exact ⟨g, t, cs, fuel, p, hg, ht, hv, hd, fun x hx => List.mem_append_left _ hx⟩
    · obtain ⟨g', t', cs', fuel', p', a1, a2, a3, a4, a5⟩ := laid_each hr hm
      exact ⟨g', t', cs', fuel', p', a1, a2, a3, a4, fun x hx => List.mem_append_right _ (a5 x hx)⟩
theorem sent_of_laid {P : Program} {W : World} {laid : List (String × DataW Unit)} {code : ByteArray → Nat} {n : String} {text : List UInt8} {g : Nat} {ti tp ta te ts : TypeId} {ms : Array (String × TypeId)} {f : Field}
    (h : laidMet P laid W) (hm : (n, .iface "*errors.errorString" (.ptr (.agg [.lit (.string text)]))) ∈ laid) (hg : P.globalNamed n = some g) (ht : (P.globals[g]?).map (·.type) = some ti)
    (hi : P.underlying ti = some (.interface ms)) (hrow : ∀ u, P.typeName? 3 u = some "*errors.errorString" → u = tp) (hp : P.underlying tp = some (.pointer te)) (he : P.underlying te = some (.struct #[f])) (hft : f.type = ts) (hfo : f.offset = 0) (hs : P.underlying ts = some .string) (hc : P.cellsOf te = 1) (hcs : P.cellsOf ts = 1)
    (hcode : ∀ s : ByteArray, s.data.toList = text → code s = g + 1) : ∃ v, ErV tp ta code (mem W) (.b (g + 1)) v := by
  obtain ⟨ps, hl, hnd, hrows⟩ := h
  obtain ⟨g', t', cs, fuel, p, a1, a2, a3, a4, a5⟩ := laid_each hl hm
  obtain rfl := Option.some.inj (hg.symm.trans a1)
  obtain rfl := Option.some.inj (ht.symm.trans a2)
  obtain ⟨l⟩ := cs
  have ok : ∀ u v, l = [.iface u v] → Value.okWide P W .any 0 u v := fun u v e => by
    subst e
    exact (hrows g 0 (a5 _ (by simp [MemPlace.row]))).2 u v (by simpa using World.var?_cell hg a3 0)
  obtain ⟨a, s, rfl, hcell, hst, hz, rfl⟩ := errorString_of_trod hi hrow hp he hft hfo hs hc hcs a4 ok
  obtain ⟨c, t, hb⟩ := (hrows a.block a.off (a5 _ (by simp [MemPlace.row]))).1
  refine ⟨.iface tp (.pointer (some a)), .inr ⟨by omega, mem_cell (by simpa using World.var?_cell hg a3 0), a, s, c, t, rfl, hb, hcode s hst, fun w hw => ?_⟩⟩
  have e : w.heap[a.block]? = W.heap[a.block]? := (hw _ _ hb).trans hb.symm
  unfold World.cell? at hcell ⊢
  rw [e]
  exact hcell
end Go.Proofs.YtlpggofilkfbnaaDoor.K
namespace Go.Proofs.YtlpggofilkfbnaaDoor.T
open Go Go.Proofs Go.Proofs.YtlpggofilkfbnaaDoor.K
set_option linter.unusedVariables false
set_option linter.unusedSimpArgs false
set_option maxRecDepth 100000
theorem own : ownKnob Tryd.prog.godebug = none := by kernel_rfl
noncomputable def low : Nat := (World.holding Tryd.prog default ⟨#[], #[], []⟩).heap.size
abbrev es0 : ByteArray := { data := #[116, 111, 111, 32, 109, 97, 110, 121, 44, 32, 111, 114, 32, 116, 111, 111, 32, 102, 101, 119] }
abbrev es1 : ByteArray := { data := #[116, 111, 111, 32, 108, 111, 110, 103] }
abbrev es2 : ByteArray := { data := #[111, 110, 101, 32, 116, 104, 105, 110, 103, 32, 116, 119, 105, 99, 101] }
abbrev es3 : ByteArray := { data := #[97, 32, 114, 111, 111, 116, 32, 116, 104, 97, 116, 32, 100, 111, 101, 115, 32, 110, 111, 116, 32, 102, 105, 116] }
abbrev es4 : ByteArray := { data := #[110, 111, 116, 32, 97, 115, 32, 105, 116, 32, 104, 97, 115, 32, 116, 111, 32, 98, 101] }
abbrev es5 : ByteArray := { data := #[97, 32, 110, 117, 109, 98, 101, 114, 32, 111, 117, 116, 32, 111, 102, 32, 105, 116, 115, 32, 114, 97, 110, 103, 101] }
abbrev es6 : ByteArray := { data := #[110, 111, 32, 102, 105, 114, 115, 116, 32, 116, 114, 97, 110, 115, 97, 99, 116, 105, 111, 110, 32, 119, 104, 101, 114, 101, 32, 116, 104, 101, 114, 101, 32, 104, 97, 115, 32, 116, 111, 32, 98, 101, 32, 111, 110, 101, 44, 32, 111, 114, 32, 111, 110, 101, 32, 119, 104, 101, 114, 101, 32, 116, 104, 101, 114, 101, 32, 109, 97, 121, 32, 98, 101, 32, 110, 111, 110, 101] }
abbrev es7 : ByteArray := { data := #[97, 32, 107, 101, 121, 32, 116, 104, 97, 116, 32, 100, 111, 101, 115, 32, 110, 111, 116, 32, 102, 105, 116] }
abbrev es8 : ByteArray := { data := #[97, 110, 32, 97, 109, 111, 117, 110, 116, 32, 116, 104, 97, 116, 32, 99, 97, 110, 39, 116, 32, 98, 101] }
abbrev es9 : ByteArray := { data := #[105, 116, 32, 101, 110, 100, 115, 32, 116, 111, 111, 32, 101, 97, 114, 108, 121] }
abbrev es10 : ByteArray := { data := #[107, 110, 111, 119, 110, 32, 97, 108, 114, 101, 97, 100, 121] }
abbrev es11 : ByteArray := { data := #[110, 111, 32, 115, 117, 99, 104, 32, 112, 97, 114, 101, 110, 116] }
abbrev es12 : ByteArray := { data := #[98, 101, 104, 105, 110, 100, 32, 119, 104, 97, 116, 32, 105, 115, 32, 110, 111, 116, 32, 118, 97, 108, 105, 100] }
abbrev es13 : ByteArray := { data := #[97, 32, 116, 105, 109, 101, 32, 116, 104, 97, 116, 32, 105, 115, 32, 116, 111, 111, 32, 101, 97, 114, 108, 121] }
abbrev es14 : ByteArray := { data := #[97, 32, 99, 111, 105, 110, 32, 116, 104, 97, 116, 32, 105, 115, 32, 110, 111, 116, 32, 116, 104, 101, 114, 101] }
abbrev es15 : ByteArray := { data := #[97, 32, 99, 111, 105, 110, 32, 116, 104, 97, 116, 32, 105, 115, 32, 116, 111, 111, 32, 121, 111, 117, 110, 103] }
abbrev es16 : ByteArray := { data := #[116, 111, 111, 32, 101, 97, 114, 108, 121, 32, 116, 111, 32, 98, 101, 32, 116, 97, 107, 101, 110] }
abbrev es17 : ByteArray := { data := #[108, 101, 115, 115, 32, 99, 111, 109, 101, 115, 32, 105, 110, 32, 116, 104, 97, 110, 32, 103, 111, 101, 115, 32, 111, 117, 116] }
abbrev es18 : ByteArray := { data := #[109, 111, 114, 101, 32, 116, 104, 97, 110, 32, 116, 104, 101, 32, 114, 101, 119, 97, 114, 100] }
abbrev es19 : ByteArray := { data := #[97, 32, 99, 111, 105, 110, 32, 116, 104, 97, 116, 32, 105, 115, 32, 115, 112, 101, 110, 116, 32, 105, 110, 32, 116, 104, 101, 32, 112, 111, 111, 108] }
abbrev es20 : ByteArray := { data := #[116, 111, 111, 32, 109, 97, 110, 121, 32, 116, 104, 97, 116, 32, 104, 97, 110, 103, 32, 116, 111, 103, 101, 116, 104, 101, 114] }
abbrev es21 : ByteArray := { data := #[116, 104, 101, 114, 101, 32, 105, 115, 32, 110, 111, 32, 114, 111, 111, 109] }
abbrev es22 : ByteArray := { data := #[116, 104, 101, 114, 101, 32, 105, 115, 32, 110, 111, 110, 101] }
abbrev es23 : ByteArray := { data := #[110, 111, 32, 115, 117, 99, 104, 32, 119, 111, 114, 100] }
abbrev es24 : ByteArray := { data := #[110, 111, 116, 32, 97, 32, 110, 117, 109, 98, 101, 114] }
def setC (v : Value) : Obj → Obj
  | .cells _ t frozen => .cells #[v] t frozen
  | x => x
noncomputable def laidWorld (os : Os) : World :=
  let w0 := World.holding Tryd.prog os ⟨#[.cells #[.string es0] 170, .cells #[.string es1] 170, .cells #[.string es2] 170, .cells #[.string es3] 170, .cells #[.string es4] 170, .cells #[.string es5] 170, .cells #[.string es6] 170, .cells #[.string es7] 170, .cells #[.string es8] 170, .cells #[.string es9] 170, .cells #[.string es10] 170, .cells #[.string es11] 170, .cells #[.string es12] 170, .cells #[.string es13] 170, .cells #[.string es14] 170, .cells #[.string es15] 170, .cells #[.string es16] 170, .cells #[.string es17] 170, .cells #[.string es18] 170, .cells #[.string es19] 170, .cells #[.string es20] 170, .cells #[.string es21] 170, .cells #[.string es22] 170, .cells #[.string es23] 170, .cells #[.string es24] 170], #[], []⟩
  { w0 with heap := (((((((((((((((((((((((((w0.heap.modify 0 (setC (.iface 153 (.pointer (some ⟨low + 0, 0, none⟩))))).modify 1 (setC (.iface 153 (.pointer (some ⟨low + 1, 0, none⟩))))).modify 2 (setC (.iface 153 (.pointer (some ⟨low + 2, 0, none⟩))))).modify 3 (setC (.iface 153 (.pointer (some ⟨low + 3, 0, none⟩))))).modify 4 (setC (.iface 153 (.pointer (some ⟨low + 4, 0, none⟩))))).modify 5 (setC (.iface 153 (.pointer (some ⟨low + 5, 0, none⟩))))).modify 6 (setC (.iface 153 (.pointer (some ⟨low + 6, 0, none⟩))))).modify 7 (setC (.iface 153 (.pointer (some ⟨low + 7, 0, none⟩))))).modify 8 (setC (.iface 153 (.pointer (some ⟨low + 8, 0, none⟩))))).modify 9 (setC (.iface 153 (.pointer (some ⟨low + 9, 0, none⟩))))).modify 10 (setC (.iface 153 (.pointer (some ⟨low + 10, 0, none⟩))))).modify 11 (setC (.iface 153 (.pointer (some ⟨low + 11, 0, none⟩))))).modify 12 (setC (.iface 153 (.pointer (some ⟨low + 12, 0, none⟩))))).modify 13 (setC (.iface 153 (.pointer (some ⟨low + 13, 0, none⟩))))).modify 14 (setC (.iface 153 (.pointer (some ⟨low + 14, 0, none⟩))))).modify 15 (setC (.iface 153 (.pointer (some ⟨low + 15, 0, none⟩))))).modify 16 (setC (.iface 153 (.pointer (some ⟨low + 16, 0, none⟩))))).modify 17 (setC (.iface 153 (.pointer (some ⟨low + 17, 0, none⟩))))).modify 18 (setC (.iface 153 (.pointer (some ⟨low + 18, 0, none⟩))))).modify 19 (setC (.iface 153 (.pointer (some ⟨low + 19, 0, none⟩))))).modify 20 (setC (.iface 153 (.pointer (some ⟨low + 20, 0, none⟩))))).modify 21 (setC (.iface 153 (.pointer (some ⟨low + 21, 0, none⟩))))).modify 22 (setC (.iface 153 (.pointer (some ⟨low + 22, 0, none⟩))))).modify 23 (setC (.iface 153 (.pointer (some ⟨low + 23, 0, none⟩))))).modify 24 (setC (.iface 153 (.pointer (some ⟨low + 24, 0, none⟩))))) }
theorem starE : "*" ++ "errors.errorString" = "*errors.errorString" := by decide
theorem rowE (u : TypeId) (h : Tryd.prog.typeName? 3 u = some "*errors.errorString") : u = 153 :=
  typeName_ptr_named (nm := "errors.errorString") (by rw [starE]; kernel_rfl) (by kernel_rfl) (by decide) u (by rw [starE]; exact h)
theorem ceE : Tryd.prog.cellsOf 170 = 1 := by kernel_rfl
theorem csE : Tryd.prog.cellsOf 9 = 1 := by kernel_rfl
theorem sent0 {W : World} {l : List (String × DataW Unit)} (h : laidMet Tryd.prog l W) (hm : ("sargasso/api.ErrMany", .iface "*errors.errorString" (.ptr (.agg [.lit (.string [116, 111, 111, 32, 109, 97, 110, 121, 44, 32, 111, 114, 32, 116, 111, 111, 32, 102, 101, 119])]))) ∈ l) : ∃ v, ErS (mem W) v (Er.b 1) :=
  sent_of_laid h hm (by kernel_rfl) (by kernel_rfl) Tryd.underlying51 rowE Tryd.underlying153 Tryd.underlying170 rfl rfl Tryd.underlying9 ceE csE (fun s hs => by unfold errCode; rw [hs]; kernel_rfl)
theorem sent1 {W : World} {l : List (String × DataW Unit)} (h : laidMet Tryd.prog l W) (hm : ("sargasso/api.ErrLong", .iface "*errors.errorString" (.ptr (.agg [.lit (.string [116, 111, 111, 32, 108, 111, 110, 103])]))) ∈ l) : ∃ v, ErS (mem W) v (Er.b 2) :=
  sent_of_laid h hm (by kernel_rfl) (by kernel_rfl) Tryd.underlying51 rowE Tryd.underlying153 Tryd.underlying170 rfl rfl Tryd.underlying9 ceE csE (fun s hs => by unfold errCode; rw [hs]; kernel_rfl)
theorem sent2 {W : World} {l : List (String × DataW Unit)} (h : laidMet Tryd.prog l W) (hm : ("sargasso/api.ErrTwice", .iface "*errors.errorString" (.ptr (.agg [.lit (.string [111, 110, 101, 32, 116, 104, 105, 110, 103, 32, 116, 119, 105, 99, 101])]))) ∈ l) : ∃ v, ErS (mem W) v (Er.b 3) :=
  sent_of_laid h hm (by kernel_rfl) (by kernel_rfl) Tryd.underlying51 rowE Tryd.underlying153 Tryd.underlying170 rfl rfl Tryd.underlying9 ceE csE (fun s hs => by unfold errCode; rw [hs]; kernel_rfl)
theorem sent3 {W : World} {l : List (String × DataW Unit)} (h : laidMet Tryd.prog l W) (hm : ("sargasso/api.ErrRoot", .iface "*errors.errorString" (.ptr (.agg [.lit (.string [97, 32, 114, 111, 111, 116, 32, 116, 104, 97, 116, 32, 100, 111, 101, 115, 32, 110, 111, 116, 32, 102, 105, 116])]))) ∈ l) : ∃ v, ErS (mem W) v (Er.b 4) :=
  sent_of_laid h hm (by kernel_rfl) (by kernel_rfl) Tryd.underlying51 rowE Tryd.underlying153 Tryd.underlying170 rfl rfl Tryd.underlying9 ceE csE (fun s hs => by unfold errCode; rw [hs]; kernel_rfl)
theorem sent5 {W : World} {l : List (String × DataW Unit)} (h : laidMet Tryd.prog l W) (hm : ("sargasso/api.ErrRange", .iface "*errors.errorString" (.ptr (.agg [.lit (.string [97, 32, 110, 117, 109, 98, 101, 114, 32, 111, 117, 116, 32, 111, 102, 32, 105, 116, 115, 32, 114, 97, 110, 103, 101])]))) ∈ l) : ∃ v, ErS (mem W) v (Er.b 6) :=
  sent_of_laid h hm (by kernel_rfl) (by kernel_rfl) Tryd.underlying51 rowE Tryd.underlying153 Tryd.underlying170 rfl rfl Tryd.underlying9 ceE csE (fun s hs => by unfold errCode; rw [hs]; kernel_rfl)
theorem sent6 {W : World} {l : List (String × DataW Unit)} (h : laidMet Tryd.prog l W) (hm : ("sargasso/api.ErrBase", .iface "*errors.errorString" (.ptr (.agg [.lit (.string [110, 111, 32, 102, 105, 114, 115, 116, 32, 116, 114, 97, 110, 115, 97, 99, 116, 105, 111, 110, 32, 119, 104, 101, 114, 101, 32, 116, 104, 101, 114, 101, 32, 104, 97, 115, 32, 116, 111, 32, 98, 101, 32, 111, 110, 101, 44, 32, 111, 114, 32, 111, 110, 101, 32, 119, 104, 101, 114, 101, 32, 116, 104, 101, 114, 101, 32, 109, 97, 121, 32, 98, 101, 32, 110, 111, 110, 101])]))) ∈ l) : ∃ v, ErS (mem W) v (Er.b 7) :=
  sent_of_laid h hm (by kernel_rfl) (by kernel_rfl) Tryd.underlying51 rowE Tryd.underlying153 Tryd.underlying170 rfl rfl Tryd.underlying9 ceE csE (fun s hs => by unfold errCode; rw [hs]; kernel_rfl)
theorem sent7 {W : World} {l : List (String × DataW Unit)} (h : laidMet Tryd.prog l W) (hm : ("sargasso/api.ErrKey", .iface "*errors.errorString" (.ptr (.agg [.lit (.string [97, 32, 107, 101, 121, 32, 116, 104, 97, 116, 32, 100, 111, 101, 115, 32, 110, 111, 116, 32, 102, 105, 116])]))) ∈ l) : ∃ v, ErS (mem W) v (Er.b 8) :=
  sent_of_laid h hm (by kernel_rfl) (by kernel_rfl) Tryd.underlying51 rowE Tryd.underlying153 Tryd.underlying170 rfl rfl Tryd.underlying9 ceE csE (fun s hs => by unfold errCode; rw [hs]; kernel_rfl)
theorem sent8 {W : World} {l : List (String × DataW Unit)} (h : laidMet Tryd.prog l W) (hm : ("sargasso/api.ErrValue", .iface "*errors.errorString" (.ptr (.agg [.lit (.string [97, 110, 32, 97, 109, 111, 117, 110, 116, 32, 116, 104, 97, 116, 32, 99, 97, 110, 39, 116, 32, 98, 101])]))) ∈ l) : ∃ v, ErS (mem W) v (Er.b 9) :=
  sent_of_laid h hm (by kernel_rfl) (by kernel_rfl) Tryd.underlying51 rowE Tryd.underlying153 Tryd.underlying170 rfl rfl Tryd.underlying9 ceE csE (fun s hs => by unfold errCode; rw [hs]; kernel_rfl)
end Go.Proofs.YtlpggofilkfbnaaDoor.T
namespace Go.Proofs.YtlpggofilkfbnaaDoor.T
open Go Go.Proofs Go.Proofs.YtlpggofilkfbnaaDoor.K
set_option linter.unusedVariables false
set_option linter.unusedSimpArgs false
theorem laid : laidOutB Tryd.prog = true := by kernel_rfl
theorem rr3 : Tryd.prog.readableRec 3 = true := by kernel_rfl
theorem tr3 : 3 < Tryd.prog.types.size := of_decide_eq_true (by kernel_rfl)
theorem rr22 : Tryd.prog.readableRec 22 = true := by kernel_rfl
theorem tr22 : 22 < Tryd.prog.types.size := of_decide_eq_true (by kernel_rfl)
theorem cl5 : Tryd.prog.cellsOf 5 = 1 := by kernel_rfl
theorem cl24 : Tryd.prog.cellsOf 24 = 32 := by kernel_rfl
theorem rr24 : Tryd.prog.readableRec 24 = true := by kernel_rfl
theorem tr24 : 24 < Tryd.prog.types.size := of_decide_eq_true (by kernel_rfl)
theorem rr25 : Tryd.prog.readableRec 25 = true := by kernel_rfl
theorem tr25 : 25 < Tryd.prog.types.size := of_decide_eq_true (by kernel_rfl)
section
variable {H : Type} {enc : TypeId × Value → H} {w : World} {base : Nat} {spare : Nat → Bool} {held : Bool}
theorem rd5 : Rd enc Tryd.prog w base spare held 5 (fun c => ∃ n, RI .u8 n c) := rd_int Tryd.underlying5
theorem rd24 : Rd enc Tryd.prog w base spare held 24 (fun c => ∃ xs, RA .u8 32 xs c) := rd_array Tryd.underlying24 Tryd.underlying5 cl5 cl24
theorem rd25 : Rd enc Tryd.prog w base spare held 25 (fun c => ∃ v xs, c = [v] ∧ Slc (RI .u8) 1 (mem w) v xs) := rd_slice Tryd.underlying25 cl5 (by decide) rd5
end
end Go.Proofs.YtlpggofilkfbnaaDoor.T
namespace Go.Proofs.YtlpggofilkfbnaaDoor.J
open Go Go.Proofs
theorem words_cons : ∀ (w r : List Char), w.all (· != ' ') = true → wordsSigns (w ++ ' ' :: r) = w :: wordsSigns r
  | [], r, _ => rfl
  | c :: w, r, h => by
    simp only [List.all_cons, Bool.and_eq_true, bne_iff_ne, ne_eq] at h
    have ih := words_cons w r h.2
    rw [List.cons_append, wordsSigns, ih]
    exact fun e => h.1 e
set_option maxRecDepth 100000
def w0 : List Char := ['h', 'a', 'r', 'n', 'e', 's', 's']
def w1 : List Char := ['5', '7', '0', '0', '8', '4', 'c', '9', '6', '4', 'd', '7', '5', '7', 'c', 'b', '9', 'c', 'f', '3', 'c', 'a', '2', '2', 'c', '3', 'b', '2', '1', '9', '2', 'b', 'b', '7', '5', '5', '1', '1', '7', 'f', '7', '5', 'e', '0', '5', '7', '2', '4', 'e', '6', 'f', '1', '7', '4', '5', '3', '1', 'd', '1', 'b', 'c', 'd', '2', '4']
def w2 : List Char := ['c', 'u', 't']
def w3 : List Char := ['a', 't', ' ', 's', 'a', 'r', 'g', 'a', 's', 's', 'o', '/', 's', 'a', 'r', 'g', 'a', 's', 's', 'o', 'l', 'a', 'w', '7', '.', 'B', 'l', 'o', 'c', 'k', 'F', 'i', 'r', 's', 't', ' ', 's', 'a', 'r', 'g', 'a', 's', 's', 'o', '/', 's', 'a', 'r', 'g', 'a', 's', 's', 'o', 'l', 'a', 'w', '7', '.', 'B', 'l', 'o', 'c', 'k', 'K', 'i', 'n', 'd', 's', ' ', 's', 'a', 'r', 'g', 'a', 's', 's', 'o', '/', 's', 'a', 'r', 'g', 'a', 's', 's', 'o', 'l', 'a', 'w', '7', '.', 'B', 'l', 'o', 'c', 'k', 'S', 't', 'a', 'r', 't', ' ', 's', 'a', 'r', 'g', 'a', 's', 's', 'o', '/', 's', 'a', 'r', 'g', 'a', 's', 's', 'o', 'l', 'a', 'w', '7', '.', 'B', 'l', 'o', 'c', 'k', 'B', 'a', 'c', 'k']
theorem io0 : Tryd.prog.initOrder = String.ofList (w0 ++ ' ' :: (w1 ++ ' ' :: (w2 ++ ' ' :: w3))) := by kernel_rfl
theorem io : Tryd.prog.initOrder.toList = w0 ++ ' ' :: (w1 ++ ' ' :: (w2 ++ ' ' :: w3)) := (congrArg String.toList io0).trans String.toList_ofList
theorem ws : wordsSigns Tryd.prog.initOrder.toList = w0 :: w1 :: w2 :: wordsSigns w3 := by
  rw [io, words_cons _ _ (by kernel_rfl), words_cons _ _ (by kernel_rfl), words_cons _ _ (by kernel_rfl)]
theorem bm (R : List (List Char)) : behindMainWord (w0 :: w1 :: w2 :: R) = w2 :: R := by kernel_rfl
theorem main_of {P : Program} {R : List (List Char)} (h : wordsSigns P.initOrder.toList = w0 :: w1 :: R) : P.mainIs = some (true, w1) := by
  unfold Program.mainIs
  rw [h]
  kernel_rfl
theorem mainIs : Tryd.prog.mainIs = some (true, w1) := main_of ws
theorem bw : behindMainWord (wordsSigns Tryd.prog.initOrder.toList) = w2 :: wordsSigns w3 := by rw [ws, bm]
theorem st (R : List (List Char)) : stripLifts liftWords (w2 :: R) = ([], w2 :: R) := by kernel_rfl
theorem make_of {P : Program} {R : List (List Char)} (h : behindMainWord (wordsSigns P.initOrder.toList) = w2 :: R) : P.make = some .cut := by
  unfold Program.make
  rw [h]
  kernel_rfl
theorem head_of {P : Program} {R : List (List Char)} (h : behindMainWord (wordsSigns P.initOrder.toList) = w2 :: R) : P.headLifts = [] := by
  unfold Program.headLifts
  rw [h, st]
  kernel_rfl
theorem lifts_of {P : Program} {R : List (List Char)} (h : behindMainWord (wordsSigns P.initOrder.toList) = w2 :: R) : P.liftsFinal = false := by
  unfold Program.liftsFinal
  rw [h, head_of h]
  kernel_rfl
theorem may_of {P : Program} {R : List (List Char)} (h : behindMainWord (wordsSigns P.initOrder.toList) = w2 :: R) (h1 : P.laysLater = false) (h2 : P.bearsReflect = false) (h3 : P.doorFits [] = true) : P.mayEnter = true := by
  unfold Program.mayEnter
  rw [h]
  simp only [st, h1, h2, h3]
  kernel_rfl
theorem later : Tryd.prog.laysLater = false := by kernel_rfl
theorem reflect : Tryd.prog.bearsReflect = false := by kernel_rfl
theorem door : Tryd.prog.doorFits [] = true := by kernel_rfl
theorem make : Tryd.prog.make = some .cut := make_of bw
theorem lifts : Tryd.prog.liftsFinal = false := lifts_of bw
theorem may : Tryd.prog.mayEnter = true := may_of bw later reflect door
end Go.Proofs.YtlpggofilkfbnaaDoor.J
namespace Go.Proofs.YtlpggofilkfbnaaDoor.zBlockFirst
open Go Go.Proofs Go.Proofs.YtlpggofilkfbnaaDoor.K Go.Proofs.YtlpggofilkfbnaaDoor.T
open Go.ChangeShapes Go.WideShapes Go.ChangeAt Go.RowKit
set_option linter.unusedVariables false
theorem met (os : Os) (args : Array Value) : laidMetH Tryd.prog Rows.blockFirstRow.laid ((laidWorld os).forCall (fun _ _ => 0) ⟨#[], args, []⟩).memory :=
  laidMetH_of_parts (laidMet_of_run' 8 (by kernel_rfl) (by kernel_rfl)) (by kernel_rfl)
set_option maxRecDepth 100000 in
theorem lifted (os : Os) (started : os.Started) (H : Type) (enc : TypeId × Value → H) :
    ReturnsInHanded {} Tryd.checked os 3 .any (fun w args => (Rows.blockFirstSpec.pre enc Tryd.prog Tryd.f3 [] false w args ∧ laidMetH Tryd.prog Rows.blockFirstRow.laid w) ∧ sizedMet enc Tryd.prog Tryd.f3 (OpenSpec.ofChange Rows.blockFirstSpec) false w args) (Rows.blockFirstSpec.post enc Tryd.prog Tryd.f3 false true false false) := by
  refine returnsInHanded_of_change_and (C := Tryd.checked) (X := fun w _ => laidMetH Tryd.prog Rows.blockFirstRow.laid w) (fun _ _ _ hh h => h.of_heap hh) own started (by kernel_rfl) Tryd.func3
    (ChangeSpec.witness_at (enc := enc) (C := Tryd.checked) (os := os) (X := fun w _ => laidMetH Tryd.prog Rows.blockFirstRow.laid w) false (laidWorld os) #[.int .i64 0, .int .u64 0, .agg #[.int .u8 0, .int .u8 0, .int .u8 0, .int .u8 0, .int .u8 0, .int .u8 0, .int .u8 0, .int .u8 0, .int .u8 0, .int .u8 0, .int .u8 0, .int .u8 0, .int .u8 0, .int .u8 0, .int .u8 0, .int .u8 0, .int .u8 0, .int .u8 0, .int .u8 0, .int .u8 0, .int .u8 0, .int .u8 0, .int .u8 0, .int .u8 0, .int .u8 0, .int .u8 0, .int .u8 0, .int .u8 0, .int .u8 0, .int .u8 0, .int .u8 0, .int .u8 0], .slice none 0 0] 8 rfl (by kernel_rfl) (by kernel_rfl) (by kernel_rfl) (by kernel_rfl) (by kernel_rfl) (met os _)) ?_
  intro W base args ds gs before hval0 hW hcnd hsz0 hL _
  have hL : laidMet Tryd.prog Rows.blockFirstRow.laid W := hL
  obtain ⟨e0, he0⟩ := sent0 hL (List.mem_of_getElem? (i := 1) rfl)
  obtain ⟨e1, he1⟩ := sent1 hL (List.mem_of_getElem? (i := 0) rfl)
  obtain ⟨e2, he2⟩ := sent2 hL (List.mem_of_getElem? (i := 3) rfl)
  obtain ⟨e3, he3⟩ := sent3 hL (List.mem_of_getElem? (i := 5) rfl)
  obtain ⟨e5, he5⟩ := sent5 hL (List.mem_of_getElem? (i := 7) rfl)
  obtain ⟨e6, he6⟩ := sent6 hL (List.mem_of_getElem? (i := 4) rfl)
  obtain ⟨e7, he7⟩ := sent7 hL (List.mem_of_getElem? (i := 6) rfl)
  obtain ⟨e8, he8⟩ := sent8 hL (List.mem_of_getElem? (i := 2) rfl)
  have hW' := hW
  obtain ⟨p, q, hA0, hV, rfl, hfz, hnd⟩ := hW
  have hA : DataW.TrodAll enc Tryd.prog W 0 (fun _ => true) true Tryd.f3.params.toList args.toList ds p := hA0
  have hval : ∀ (j : Nat) t v, Tryd.f3.params[j]? = some t → args[j]? = some v → Value.okWide Tryd.prog W .any base t v := hval0
  rw [Tryd.params3] at hA hval
  obtain ⟨v0, vs0, d0, ds0, p0, q0, hargs, rfl, rfl, h0, r0⟩ := trodAll_cons hA
  obtain ⟨v1, vs1, d1, ds1, p1, q1, rfl, rfl, rfl, h1, r1⟩ := trodAll_cons r0
  obtain ⟨v2, vs2, d2, ds2, p2, q2, rfl, rfl, rfl, h2, r2⟩ := trodAll_cons r1
  obtain ⟨v3, vs3, d3, ds3, p3, q3, rfl, rfl, rfl, h3, r3⟩ := trodAll_cons r2
  obtain ⟨rfl, rfl, rfl⟩ := trodAll_nil r3
  obtain rfl : args = #[v0, v1, v2, v3] := by cases args; simp_all
  obtain ⟨rfl, rfl⟩ := trodVars_none hV
  obtain ⟨x0, rfl, _, _, w0⟩ := open_int Tryd.underlying3 (hval 0 3 v0 rfl rfl) h0
  obtain ⟨x1, rfl, _, _, w1⟩ := open_int Tryd.underlying22 (hval 1 22 v1 rfl rfl) h1
  obtain ⟨c2, rfl, x2, rfl, w2⟩ := at_agg (agg_array Tryd.underlying24 (hval 2 24 v2 rfl rfl)) rd24 h2
  obtain ⟨x3, w3⟩ := at_slice Tryd.underlying25 (hval 3 25 v3 rfl rfl) rd25 h3
  have hμ : Agr (mem W) W := agr_mem W
  have hm := sargassolaw7_BlockFirst.m (mem W) x0 (wf_in w0) x1 (wf_in w1) x2 w2 x3 v3 w3
  refine (sargassolaw7_BlockFirst.c (mem W) W hμ x0 (wf_in w0) x1 (wf_in w1) x2 w2 x3 v3 w3 e0 he0 e1 he1 e2 he2 e3 he3 e5 he5 e6 he6 e7 he7 e8 he8 true hm).mono fun e W' ⟨v, he, hv, _, hI⟩ => ?_
  subst hv
  subst he
  have bel : Below W.heap.size W W' := hI.below
  exact ⟨_, rfl, _, _, _, [], _, [], hW', trodAll_mk1 (shut_bool Tryd.underlying4 _), (trodAll_cons_mk (again laid rr3 tr3 h0 bel) (trodAll_cons_mk (again laid rr22 tr22 h1 bel) (trodAll_cons_mk (again laid rr24 tr24 h2 bel) (trodAll_cons_mk (again laid rr25 tr25 h3 bel) trodAll_mk0)))), rfl, bel.frame _, fun h => by cases h⟩
theorem closed : joinedFacts Tryd.prog 3 Tryd.f3 Rows.blockFirstSpec Rows.blockFirstRow = true := by
  unfold joinedFacts
  rw [J.may, J.lifts, J.make]
  kernel_rfl
theorem over : Rows.blockFirstRow.holds Tryd.pinned (OpenSpec.ofChange Rows.blockFirstSpec) :=
  OpenClaim.holds_of_wide 3 Tryd.f3 rfl rfl rfl rfl rfl rfl rfl ⟨rfl, rfl, rfl, rfl, rfl⟩ rfl rfl rfl rfl rfl (by kernel_rfl) Tryd.func3 closed
    (of_decide_eq_true (by kernel_rfl)) (by unfold Func.isWrapper; first | (rw [if_pos (by decide +kernel)]; kernel_rfl) | (rw [if_neg (by decide +kernel)]; exact ⟨rfl, rfl⟩))
    (fun os started H enc _ => lifted os started H enc)
theorem card : Rows.BlockFirstCardSaid :=
  Claim7.holds_tied_plain_at .later [] [.sentinel, .sentinel, .sentinel, .sentinel, .sentinel, .sentinel, .sentinel, .sentinel] true (true, "570084c964d757cb9cf3ca22c3b2192bb755117f75e05724e6f174531d1bcd24") true
    over (fun _ h => by cases h) (by kernel_rfl) (fun _ h => by cases h) blockFirst_row_tie rfl ⟨rfl, rfl⟩ (J.mainIs.trans (congrArg (fun s => some (true, s)) (by kernel_rfl))) rfl
    (fun f fn hf hfn => by
      obtain rfl : f = 3 := Option.some.inj ((show Tryd.prog.funcNamed "sargasso/sargassolaw7.BlockFirst" = some 3 by kernel_rfl).symm.trans hf) |>.symm
      obtain rfl : fn = Tryd.f3 := (Option.some.inj (Tryd.func3.symm.trans hfn)).symm
      exact ⟨by kernel_rfl, fun j t ht => by
        rw [Tryd.params3] at ht
        rcases j with _ | _ | _ | _ | j
        · obtain rfl : (3 : TypeId) = t := by simpa using ht
          exact (show Tryd.prog.wantsStandIn 3 = false by kernel_rfl)
        · obtain rfl : (22 : TypeId) = t := by simpa using ht
          exact (show Tryd.prog.wantsStandIn 22 = false by kernel_rfl)
        · obtain rfl : (24 : TypeId) = t := by simpa using ht
          exact (show Tryd.prog.wantsStandIn 24 = false by kernel_rfl)
        · obtain rfl : (25 : TypeId) = t := by simpa using ht
          exact (show Tryd.prog.wantsStandIn 25 = false by kernel_rfl)
        · simp at ht⟩)
    (by kernel_rfl)
end Go.Proofs.YtlpggofilkfbnaaDoor.zBlockFirst
namespace Go.Proofs.YtlpggofilkfbnaaDoor
theorem blockFirst_holds : Rows.BlockFirstCardSaid := zBlockFirst.card
#print axioms blockFirst_holds
end Go.Proofs.YtlpggofilkfbnaaDoor
