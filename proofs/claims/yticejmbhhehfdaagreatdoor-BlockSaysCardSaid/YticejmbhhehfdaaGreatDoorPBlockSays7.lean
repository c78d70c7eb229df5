/- Proved: the statement BlockSays, as given (its conditions are those of the given row, and card where there is one; no others): the call ends, with true, and the input reads as it did. This file is one of its parts. -/
import Derived.Test.YticejmbhhehfdaaGreatDoorPBlockSays6
import Derived.OpenShut
import Derived.ChangeArms
import Derived.DataReads
import Derived.WideShapes
import Derived.Below
import Derived.Carry
import Derived.ChangeOld
import Derived.LaidLaws
import Derived.Stop.ErrReads
import Derived.ChangeVars
import Derived.Test.YticejmbhhehfdaaGreatDoorRows
import Derived.Test.YticejmbhhehfdaaGreatDoorProg
import Derived.JoinedOf
import Derived.ProofKit
namespace Go.Proofs.YticejmbhhehfdaaGreatDoor.T
open Go Go.Proofs Go.Proofs.YticejmbhhehfdaaGreatDoor.K
set_option linter.unusedVariables false
set_option linter.unusedSimpArgs false
theorem els_all {α:Type}{RE:α→List Value→Prop}{sz:Nat}{xs:List α}{cs:List Value}{Q:α→Prop}(h:Els RE sz xs cs)(f:∀ x c,RE x c→Q x):∀ x∈xs,Q x:=by
 induction h with
 | nil=>simp
 | cons h _ _ ih =>
  intro y hy
  rcases List.mem_cons.1 hy with rfl | hy
  ·exact f _ _ h
  ·exact ih y hy
theorem slc_ints {k:IntKind}{μ:Store}{v:Value}{xs:List Int}(h:Slc (RI k) 1 μ v xs):∀ x∈xs,InR k x:=by
 obtain ⟨cs,he,_⟩:=h
 exact els_all he fun x c hc=>hc.2
theorem getD_mid {α:Type}(pre r:List α)(x d:α):(pre++x::r).getD ((pre.length:Int).toNat) d=x:=by
 simp [List.getD]
theorem mid_lt {α:Type}(pre r:List α)(x:α):0≤(pre.length:Int)∧(pre.length:Int) < ((pre++x::r).length:Int):=by
 simp;omega
theorem mid_next {α:Type}(pre r:List α)(x:α)(h:(pre++x::r).length≤140737488355328):IntKind.i64.wrap ((pre.length:Int)+1)=((pre++[x]).length:Int):=by
 simp at h
 rw [w64 (by omega) (by omega)];simp
theorem winc (i:Nat)(hi:i < 9223372036854775807):IntKind.i64.wrap ((i:Int)+1)=((i+1:Nat):Int):=by
 rw [w64 (by omega) (by omega)];omega
theorem take_next {α:Type}(xs:List α)(i:Nat)(d:α)(h:i < xs.length):xs.take i++[xs.getD i d]=xs.take (i+1):=by
 rw [List.take_add_one]
 simp [List.getD,h]
theorem copy_run {α:Type}{step:(List α×Int)→Option ((List α×Int)⊕List α)}(xs:List α)(d:α)(h:xs.length < 9223372036854775807)
  (hs:∀ i,i < xs.length→step (xs.take i,(i:Int))=some (.inl (xs.take i++[xs.getD i d],IntKind.i64.wrap ((i:Int)+1)))) (hn:step (xs,(xs.length:Int))=some (.inr xs)):loopO step ([],0)=some xs :=
 loop_run (fun i=>(xs.take i,(i:Int))) xs.length rfl (fun i hi=>by
  rw [hs i hi,take_next _ _ _ hi,winc i (by omega)]) (by simpa using hn)
theorem bytes_eq (xs:List Int)(h:xs.length≤140737488355328):q0_Bytes.f xs=some xs:=by
 unfold q0_Bytes.f
 rw [if_pos ⟨by omega,by omega,by omega⟩]
 simp only [Int.toNat_zero,List.replicate_zero]
 rw [copy_run xs 0 (by omega) (fun i hi=>by
  simp only [q0_Bytes.s0]
  rw [if_pos (by omega),if_pos (by omega),if_pos (by simp;omega),Int.toNat_natCast]) (by simp [q0_Bytes.s0])]
 rfl
theorem all_run {step:Int→Option (Int⊕Bool)}(n:Nat)(p:Nat→Prop)[DecidablePred p](hn:n < 9223372036854775807)
  (hs:∀ i,i < n→step (i:Int)=if p i then some (.inl (IntKind.i64.wrap ((i:Int)+1))) else some (.inr false)) (he:step (n:Int)=some (.inr true)):loopO step 0=some (decide (∀ i,i < n→p i)):=by
 have key:∀ m k,m+k=n→(∀ i,i < k→p i)→loopO step (k:Int)=some (decide (∀ i,i < n→p i)):=by
  intro m
  induction m with
  | zero =>
   intro k e h
   obtain rfl:k=n:=by omega
   rw [loopO_inr he]
   congr 1
   exact (decide_eq_true h).symm
  | succ m ih =>
   intro k e h
   have h1:=hs k (by omega)
   by_cases hp:p k
   ·rw [if_pos hp,winc k (by omega)] at h1
    rw [loopO_inl h1]
    refine ih (k+1) (by omega) fun i hi=>?_
    rcases Nat.lt_or_ge i k with h2 | h2
    ·exact h i h2
    ·obtain rfl:i=k:=by omega
     exact hp
   ·rw [if_neg hp] at h1
    rw [loopO_inr h1]
    have:¬ ∀ i,i < n→p i:=fun h2=>hp (h2 k (by omega))
    simp [this]
 exact key n 0 (by omega) (by simp)
theorem ext_iff {α:Type}(xs ys:List α)(d:α)(h:xs.length=ys.length):(∀ i,i < xs.length→xs.getD i d=ys.getD i d) ↔ xs=ys:=by
 constructor
 ·intro hh
  apply List.ext_getElem h
  intro i h1 h2
  have:=hh i h1
  simpa [List.getD,h1,h2] using this
 ·rintro rfl i _
  rfl
theorem samehash_eq (a b:List Int)(ha:a.length=32)(hb:b.length=32):q0_SameHash.f a b=some (decide (a=b)):=by
 unfold q0_SameHash.f
 rw [all_run 32 (fun i=>a.getD i 0=b.getD i 0) (by omega) (fun i hi=>by
  simp only [q0_SameHash.s0,Int.toNat_natCast]
  rw [if_pos (by omega),if_pos (by omega)]
  by_cases h:a.getD i 0=b.getD i 0
  ·rw [if_neg (by simpa using h),if_pos h]
  ·rw [if_pos h,if_neg h]) (by simp [q0_SameHash.s0])]
 congr 2
 apply propext
 have:=ext_iff a b 0 (by rw [ha,hb])
 rw [ha] at this
 exact this
theorem samebytes_eq' (xs ys:List Int)(h:xs.length≤140737488355328):q0_SameBytes.f xs ys=some (decide (xs=ys)):=by
 unfold q0_SameBytes.f
 by_cases hl:xs.length=ys.length
 ·rw [if_neg (by omega),all_run xs.length (fun i=>xs.getD i 0=ys.getD i 0) (by omega) (fun i hi=>by
   simp only [q0_SameBytes.s0,Int.toNat_natCast]
   rw [if_pos (by omega),if_pos (by omega),if_pos (by omega)]) (by simp [q0_SameBytes.s0])]
  congr 2
  exact propext (ext_iff xs ys 0 hl)
 ·rw [if_pos (by omega)]
  have:xs≠ys:=fun e=>hl (by rw [e])
  simp [this]
theorem samebytes_eq (xs:List Int)(h:xs.length≤140737488355328):q0_SameBytes.f xs xs=some true:=by
 rw [samebytes_eq' xs xs h]
 simp
theorem ref_sched_step (m:List Int)(a:Nat)(ha:a+64≤m.length)(hm:m.length≤3000000)(w:List Int)(hw:w.length=64)(i:Nat)(hi:i < 64):q1_Sha.s3 m (a:Int) ((i:Int),w)=some (.inl (((i+1:Nat):Int),w.set i (schedVal m a w i))):=by
 simp only [q1_Sha.s3,hw]
 rw [if_pos (by omega)]
 by_cases h16:i < 16
 ·have e0:IntKind.i64.wrap ((a:Int)+IntKind.i64.wrap (4 * (i:Int)))=((a+4 * i:Nat):Int):=by
   rw [wmul4 i (by omega),w64 (by omega) (by omega)];omega
  have e1:IntKind.i64.wrap (((a+4 * i:Nat):Int)+1)=((a+4 * i+1:Nat):Int):=by rw [w64 (by omega) (by omega)];omega
  have e2:IntKind.i64.wrap (((a+4 * i:Nat):Int)+2)=((a+4 * i+2:Nat):Int):=by rw [w64 (by omega) (by omega)];omega
  have e3:IntKind.i64.wrap (((a+4 * i:Nat):Int)+3)=((a+4 * i+3:Nat):Int):=by rw [w64 (by omega) (by omega)];omega
  rw [if_pos (by omega),e0,e1,e2,e3,if_pos (by omega),if_pos (by omega),if_pos (by omega),if_pos (by omega),if_pos (by omega)]
  simp only [Option.bind_some,Int.toNat_natCast]
  rw [wadd1 i (by omega)]
  simp only [schedVal,if_pos h16,wordAt]
 ·have e2:=wsub i 2 (by omega) (by omega)
  have e7:=wsub i 7 (by omega) (by omega)
  have e15:=wsub i 15 (by omega) (by omega)
  have e16:=wsub i 16 (by omega) (by omega)
  simp only [show ((2:Nat):Int)=2 from rfl,show ((7:Nat):Int)=7 from rfl,show ((15:Nat):Int)=15 from rfl,show ((16:Nat):Int)=16 from rfl] at e2 e7 e15 e16
  rw [if_neg (by omega),e2,e7,e15,e16,if_pos (by omega),if_pos (by omega),if_pos (by omega),if_pos (by omega)]
  simp only [Int.toNat_natCast,right_f _ 17 (by omega) (by omega),right_f _ 19 (by omega) (by omega),right_f _ 7 (by omega) (by omega),right_f _ 18 (by omega) (by omega),Option.bind_some]
  rw [if_pos (by omega),wadd1 i (by omega)]
  simp only [Option.bind_some,schedVal,if_neg h16,sg0,sg1,wl,wr]
theorem ref_sched (m:List Int)(a:Nat)(ha:a+64≤m.length)(hm:m.length≤3000000):loopO (q1_Sha.s3 m (a:Int)) (0,List.replicate ((64:Int).toNat) 0)=some (schedR m a 64):=by
 refine loop_run (fun i=>((i:Int),schedR m a i)) 64 rfl (fun i hi=>?_) ?_
 ·rw [ref_sched_step m a ha hm _ (schedR_len _ _ _) i hi]
  rfl
 ·simp only [q1_Sha.s3]
  rw [if_neg (by decide)]
theorem roundR_len (w s:List Int)(hs:s.length=8)(i:Nat):(roundR w s i).length=8:=by
 cases i with
 | zero=>exact hs
 | succ i=>rfl
theorem kc_len:kc.length=64:=by kernel_rfl
theorem k1_eq:q1_k.lit0=kc:=by kernel_rfl
theorem ref_round (w s:List Int)(hs:s.length=8)(hw:w.length=64):loopO (q1_Sha.s4 kc w) (([]:List Int)++s,0)=some (roundR w s 64):=by
 refine loop_run (fun i=>(roundR w s i,(i:Int))) 64 rfl (fun i hi=>?_) ?_
 ·have hl:=roundR_len w s hs i
  have hk:=kc_len
  simp only [q1_Sha.s4,hl]
  rw [if_pos (by omega),if_pos (by decide),if_pos (by decide),if_pos (by decide)]
  simp only [right_f _ 6 (by omega) (by omega),right_f _ 11 (by omega) (by omega),right_f _ 25 (by omega) (by omega),right_f _ 2 (by omega) (by omega),right_f _ 13 (by omega) (by omega),right_f _ 22 (by omega) (by omega),Option.bind_some,Int.toNat_natCast]
  rw [if_pos (by decide),if_pos (by decide),if_pos (by omega),if_pos (by omega),if_pos (by decide),if_pos (by decide),if_pos (by decide),wadd1 i (by omega)]
  simp only [roundR,rstep,rt1,rt2,wl,wr,show (0:Int).toNat=0 from rfl,show (1:Int).toNat=1 from rfl,show (2:Int).toNat=2 from rfl,show (3:Int).toNat=3 from rfl,show (4:Int).toNat=4 from rfl,show (5:Int).toNat=5 from rfl,show (6:Int).toNat=6 from rfl,show (7:Int).toNat=7 from rfl]
 ·simp only [q1_Sha.s4]
  rw [if_neg (by decide)]
theorem ref_add (x s:List Int)(hs:s.length=8)(hx:x.length=8):loopO (q1_Sha.s5 x) (0,s)=some (addR x s 8):=by
 refine loop_run (fun i=>((i:Int),addR x s i)) 8 rfl (fun i hi=>?_) ?_
 ·have hl:=addR_len x s i
  simp only [q1_Sha.s5,hl,hs,hx]
  rw [if_pos (by omega),if_pos (by omega),if_pos (by omega),wadd1 i (by omega)]
  simp only [Int.toNat_natCast,addR]
 ·simp only [q1_Sha.s5]
  rw [if_neg (by decide)]
theorem ref_out (s:List Int)(hs:s.length=8):loopO (q1_Sha.s6 s) (0,List.replicate 32 0)=some (outL s):=by
 refine loop_run (fun i=>((i:Int),(List.range i).map (outB s)++List.replicate (32 - i) 0)) 32 (by simp) (fun i hi=>?_) ?_
 ·simp only [q1_Sha.s6,hs]
  have e1:IntKind.i64.wrap (Int.tdiv (i:Int) 4)=((i / 4:Nat):Int):=by
   rw [Int.tdiv_eq_ediv_of_nonneg (by omega),w64 (by omega) (by omega)];omega
  have e2:Int.tmod (i:Int) 4=((i % 4:Nat):Int):=by rw [Int.tmod_eq_emod_of_nonneg (by omega)];omega
  have e3:IntKind.u64.wrap (IntKind.i64.wrap (24 - IntKind.i64.wrap (8 * ((i % 4:Nat):Int))))=24 - 8 * ((i % 4:Nat):Int):=by
   rw [w64 (x:=8 * ((i % 4:Nat):Int)) (by omega) (by omega),w64 (by omega) (by omega),wu64 (by omega) (by omega)]
  rw [if_pos (by omega),e1,e2,e3,if_pos (by omega),if_pos (by omega),if_pos (by omega),wadd1 i (by omega),Int.toNat_natCast,Int.toNat_natCast]
  have e4:IntKind.u8.wrap (sR .u32 (s.getD (i / 4) 0) (24 - 8 * ((i % 4:Nat):Int)))=outB s i:=rfl
  rw [e4,set_next _ _ _ _ (by omega)]
 ·simp only [q1_Sha.s6]
  rw [if_neg (by decide)]
  rfl
theorem lenB_ref (n i:Nat)(hn:n≤1000000)(hi:i < 8):IntKind.u8.wrap (sR .u64 (IntKind.u64.wrap (8 * IntKind.u64.wrap (n:Int))) (IntKind.u64.wrap (IntKind.i64.wrap (8 * (7 - (i:Int))))))=lenB n i:=by
 rw [w64 (by omega) (by omega),wu64 (x:=(n:Int)) (by omega) (by omega),wu64 (x:=8 * (7 - (i:Int))) (by omega) (by omega)]
 rfl
theorem ref_pad (m:List Int)(hb:m.length≤1000000):loopO (q1_Sha.s1 m) (m++[128]++List.replicate (zs (m.length+1)) 0,7)=some (padR m):=by
 have hz64:zs (m.length+1) < 64:=by simp only [zs];omega
 refine loop_run (fun i=>(m++[128]++List.replicate (zs (m.length+1)) 0++(List.range i).map (lenB m.length),7 - (i:Int))) 8 (by simp) (fun i hi=>?_) ?_
 ·simp only [q1_Sha.s1]
  rw [if_pos (by omega),if_pos (by rw [w64 (by omega) (by omega),wu64 (by omega) (by omega)];omega),if_pos (by simp;omega),lenB_ref _ _ hb hi,w64 (by omega) (by omega)]
  congr 2
  rw [range_map_succ,← List.append_assoc]
  congr 1
  omega
 ·simp only [q1_Sha.s1]
  rw [if_neg (by decide)]
  simp only [padR,List.append_assoc]
theorem ref_block (M s:List Int)(a:Nat)(hs:s.length=8)(ha:a+64≤M.length)(hM:M.length≤3000000):q1_Sha.s2 M kc ((a:Int),s)=some (.inl (IntKind.i64.wrap ((a:Int)+64),mixV s M a)):=by
 simp only [q1_Sha.s2]
 rw [if_pos (by omega),if_pos (by decide),ref_sched M a ha hM]
 simp only [Option.bind_some]
 rw [if_pos (by omega),ref_round _ _ hs (schedR_len _ _ _)]
 simp only [Option.bind_some]
 rw [ref_add _ _ hs (roundR_len _ _ hs _)]
 simp only [Option.bind_some,mixV]
theorem ref_blocks (M:List Int)(hM:M.length≤3000000)(h64:M.length % 64=0):loopO (q1_Sha.s2 M kc) (0,iv0)=some (blocksR M iv0 (M.length / 64)):=by
 refine loop_run (fun i=>(((64 * i:Nat):Int),blocksR M iv0 i)) (M.length / 64) (by simp only [Nat.mul_zero,blocksR];rfl) (fun i hi=>?_) ?_
 ·have hbl:(blocksR M iv0 i).length=8:=blocksR_len _ _ _
  rw [ref_block M _ (64 * i) hbl (by omega) hM]
  have e:IntKind.i64.wrap (((64 * i:Nat):Int)+64)=((64 * (i+1):Nat):Int):=by rw [w64 (by omega) (by omega)];omega
  rw [e,blocksR]
 ·simp only [q1_Sha.s2]
  rw [if_neg (by omega)]
theorem ref_sha_eq (m:List Int)(hb:m.length≤1000000):q1_Sha.f m=some (sha m):=by
 have hz:zs (m++[128]).length=zs (m.length+1):=by simp
 have hz64:zs (m.length+1) < 64:=by simp only [zs];omega
 have hpl:=padR_len m
 have hl2:=ref_blocks (padR m) (by omega) (padR_mod m)
 unfold q1_Sha.f
 rw [bytes_eq m (by omega),Option.bind_some,if_pos (by omega),zeros_loop q1_Sha.s0 (fun l=>rfl) _ (by simp;omega),hz,Option.bind_some,ref_pad m hb,Option.bind_some]
 unfold q1_k.f
 rw [k1_eq,Option.bind_some]
 unfold iv0 at hl2
 rw [hl2,Option.bind_some,ref_out _ (blocksR_len _ _ _),Option.bind_some]
 rfl
theorem ref_twice_eq (m:List Int)(hb:m.length≤1000000):q1_Twice.f m=some (sha (sha m)):=by
 simp only [q1_Twice.f,ref_sha_eq m hb,Option.bind_some,ref_sha_eq (sha m) (by rw [sha_len];omega)]
def Hs (l:List (List Int)):Prop:=∀ x∈l,x.length=32
theorem Hs.at {l:List (List Int)}(h:Hs l){i:Nat}(hi:i < l.length):(l.getD i []).length=32:=by
 have e:l.getD i []=l[i]:=by simp [List.getD,hi]
 rw [e];exact h _ (List.getElem_mem hi)
theorem concat_eq (l:List (List Int))(hn:l.length≤1000)(hl:∀ x∈l,x.length≤1000):slices_Concat_byte_byte.f l=some l.flatten:=by
 have hpre:∀ i,i≤l.length→((l.take i).flatten.length≤1000 * i):=by
  intro i
  induction i with
  | zero=>intro _;simp
  | succ i ih =>
   intro hi
   have h1:=ih (by omega)
   have h2:(l.getD i []).length≤1000:=by
    have e:l.getD i []=l[i]:=by simp [List.getD,show i < l.length by omega]
    rw [e];exact hl _ (List.getElem_mem _)
   rw [← take_next l i [] (by omega),List.flatten_append,List.length_append]
   simp only [List.flatten_cons,List.flatten_nil,List.append_nil]
   omega
 have hel:∀ i,i < l.length→(l.getD i []).length≤1000:=fun i hi=>by
  have e:l.getD i []=l[i]:=by simp [List.getD,hi]
  rw [e];exact hl _ (List.getElem_mem _)
 have hnext:∀ i,i < l.length→(l.take (i+1)).flatten=(l.take i).flatten++l.getD i []:=fun i hi=>by
  rw [← take_next l i [] hi,List.flatten_append];simp
 have h0:loopO (slices_Concat_byte_byte.s0 l) (0,0)=some ((l.flatten.length:Int)):=by
  refine loop_run (fun i=>(((l.take i).flatten.length:Int),(i:Int))) l.length (by simp) (fun i hi=>?_) ?_
  ·have a:=hpre i (by omega)
   have b:=hel i hi
   simp only [slices_Concat_byte_byte.s0,Int.toNat_natCast]
   rw [if_pos (by omega),if_pos (by omega),w64 (x:=((l.take i).flatten.length:Int)+((l.getD i []).length:Int)) (by omega) (by omega),if_neg (by omega),Option.bind_some,winc i (by omega),hnext i hi,List.length_append]
   push_cast
   rfl
  ·simp only [slices_Concat_byte_byte.s0]
   rw [if_neg (by omega),List.take_length]
 have h1:loopO (slices_Concat_byte_byte.s1 l) ([],0)=some l.flatten:=by
  refine loop_run (fun i=>((l.take i).flatten,(i:Int))) l.length (by simp) (fun i hi=>?_) ?_
  ·have a:=hpre i (by omega)
   have b:=hel i hi
   simp only [slices_Concat_byte_byte.s1,Int.toNat_natCast]
   rw [if_pos (by omega),if_pos (by omega),if_pos (by omega),winc i (by omega),hnext i hi]
  ·simp only [slices_Concat_byte_byte.s1]
   rw [if_neg (by omega),List.take_length]
 have a:=hpre l.length (by omega)
 rw [List.take_length] at a
 simp only [slices_Concat_byte_byte.f,slices_Grow_byte_byte.f,h0,Option.bind_some]
 rw [if_pos (by omega),Option.bind_some,h1,Option.bind_some]
def pr (a b:List Int):List Int:=sha (sha (a++b))
theorem pr_len (a b:List Int):(pr a b).length=32:=sha_len _
theorem pair_eq (a b:List Int)(ha:a.length=32)(hb:b.length=32):merkle_pair.f a b=some (pr a b):=by
 simp only [merkle_pair.f]
 rw [concat_eq [a,b] (by simp) (by simp [ha,hb]),Option.bind_some]
 simp only [List.flatten_cons,List.flatten_nil,List.append_nil]
 rw [twice_eq _ (by simp [ha,hb])]
 rfl
theorem pair1_eq (a b:List Int)(ha:a.length=32)(hb:b.length=32):q1_pair.f a b=some (pr a b):=by
 simp only [q1_pair.f]
 rw [bytes_eq _ (by omega),Option.bind_some,if_pos (by omega),ref_twice_eq _ (by simp [ha,hb])]
 rfl
theorem xor1 (a:Nat):a ^^^ 1=if a % 2=0 then a+1 else a - 1:=by
 have h1:(a ^^^ 1) / 2=a / 2:=by rw [Nat.xor_div_two];simp
 have h2:(a ^^^ 1) % 2=(a+1) % 2:=by
  have:=Nat.xor_mod_two_pow (a:=a) (b:=1) (n:=1)
  rw [show 2 ^ 1=2 from rfl] at this
  rw [this]
  have d0:0 ^^^ 1 % 2=1:=by decide
  have d1:1 ^^^ 1 % 2=0:=by decide
  rcases Nat.mod_two_eq_zero_or_one a with e | e <;> rw [e] <;> simp only [d0,d1] <;> omega
 split <;> omega
theorem xor64 (a:Nat)(h:a < 1000000):bXor .i64 (a:Int) 1=((a ^^^ 1:Nat):Int):=by
 unfold bXor
 have e1:(BitVec.ofInt IntKind.i64.bits (a:Int)).toNat=a:=bv_nat _ _ (by simp [IntKind.bits];omega)
 have e2:(BitVec.ofInt IntKind.i64.bits (1:Int)).toNat=1:=bv_nat IntKind.i64.bits 1 (by simp [IntKind.bits])
 rw [BitVec.toNat_xor,e1,e2]
 have:=xor1 a
 exact w64 (by omega) (by split at this <;> omega)
theorem iMin_nat (a b:Nat):iMin (a:Int) (b:Int)=((min a b:Nat):Int):=by unfold iMin;split <;> omega
def oth (i:Nat)(l:List (List Int)):List Int:=l.getD (min (i ^^^ 1) (l.length - 1)) []
theorem oth_eq (i:Nat)(l:List (List Int))(h0:0 < l.length)(hi:i < 1000000)(hl:l.length < 1000000):merkle_other.f (i:Int) l=some (oth i l):=by
 simp only [merkle_other.f]
 have e:IntKind.i64.wrap ((l.length:Int) - 1)=((l.length - 1:Nat):Int):=by rw [w64 (by omega) (by omega)];omega
 rw [xor64 i hi,e,iMin_nat,if_pos (by omega),Int.toNat_natCast]
 rfl
theorem oth_len {i:Nat}{l:List (List Int)}(h:Hs l)(h0:0 < l.length):(oth i l).length=32:=h.at (by omega)
def upG (l:List (List Int))(j:Nat):List Int:=pr (l.getD (2 * j) []) (oth (2 * j) l)
def upL (l:List (List Int)):List (List Int):=(List.range ((l.length+1) / 2)).map (upG l)
theorem upL_len (l:List (List Int)):(upL l).length=(l.length+1) / 2:=by simp [upL]
theorem upL_hs (l:List (List Int)):Hs (upL l):=fun x hx=>by
 simp only [upL,List.mem_map] at hx
 obtain ⟨j,_,rfl⟩:=hx
 exact pr_len _ _
theorem up_eq (l:List (List Int))(h:Hs l)(hl:l.length < 100000):merkle_up.f l=some (upL l):=by
 simp only [merkle_up.f]
 have e:loopO (merkle_up.s0 l) ([],0)=some (upL l):=by
  refine loop_run (fun j=>((List.range j).map (upG l),((2 * j:Nat):Int))) ((l.length+1) / 2) rfl (fun j hj=>?_) ?_
  ·simp only [merkle_up.s0,Int.toNat_natCast]
   rw [if_pos (by omega),if_pos (by omega),oth_eq _ _ (by omega) (by omega) (by omega),Option.bind_some,pair_eq _ _ (h.at (by omega)) (oth_len h (by omega)),Option.bind_some,if_pos (by simp;omega),range_map_succ,w64 (by omega) (by omega)]
   congr 3
  ·simp only [merkle_up.s0]
   rw [if_neg (by omega)]
   rfl
 rw [e,Option.bind_some]
theorem row_eq (l:List (List Int))(h:Hs l)(hl:l.length < 100000):q1_row.f l=some (upL l):=by
 simp only [q1_row.f]
 have e:loopO (q1_row.s0 l) ([],0)=some (upL l):=by
  refine loop_run (fun j=>((List.range j).map (upG l),((2 * j:Nat):Int))) ((l.length+1) / 2) rfl (fun j hj=>?_) ?_
  ·simp only [q1_row.s0,Int.toNat_natCast]
   have e1:IntKind.i64.wrap ((l.length:Int) - 1)=((l.length - 1:Nat):Int):=by rw [w64 (by omega) (by omega)];omega
   have e2:IntKind.i64.wrap (((2 * j:Nat):Int)+1)=((2 * j+1:Nat):Int):=by rw [w64 (by omega) (by omega)];omega
   have e3:oth (2 * j) l=l.getD (min (2 * j+1) (l.length - 1)) []:=by
    unfold oth
    rw [xor1,if_pos (by omega)]
   rw [e1,e2,iMin_nat,if_pos (by omega),if_pos (by omega),if_pos (by omega),Int.toNat_natCast,← e3,pair1_eq _ _ (h.at (by omega)) (oth_len h (by omega)),Option.bind_some,if_pos (by simp;omega),range_map_succ,w64 (by omega) (by omega)]
   congr 3
  ·simp only [q1_row.s0]
   rw [if_neg (by omega)]
   rfl
 rw [e,Option.bind_some]
def topR:Nat→List (List Int)→List (List Int)
 | 0,l=>l
 | f+1,l=>if 1 < l.length then topR f (upL l) else l
theorem top_stop {f:Nat}{l:List (List Int)}(h:l.length≤1):topR f l=l:=by
 cases f with
 | zero=>rfl
 | succ f=>rw [topR,if_neg (by omega)]
def rootL (l:List (List Int)):List Int:=if l.length=0 then List.replicate 32 0 else (topR l.length l).getD 0 []
theorem top_pos:∀ (f:Nat) (l:List (List Int)),0 < l.length→l.length≤f→(topR f l).length=1
 | 0,l,h,h'=>by omega
 | f+1,l,h,h'=>by
  by_cases c:1 < l.length
  ·rw [topR,if_pos c]
   exact top_pos f _ (by rw [upL_len];omega) (by rw [upL_len];omega)
  ·rw [top_stop (by omega)];omega
theorem top_hs:∀ (f:Nat) (l:List (List Int)),Hs l→Hs (topR f l)
 | 0,l,h=>h
 | f+1,l,h=>by
  by_cases c:1 < l.length
  ·rw [topR,if_pos c];exact top_hs f _ (upL_hs l)
  ·rw [topR,if_neg c];exact h
theorem root_loop:∀ (f:Nat) (l:List (List Int)),Hs l→l.length≤f→l.length < 100000→loopO merkle_Root.s0 l=some (topR f l)
 | 0,l,h,hf,hl=>loopO_inr (by simp only [merkle_Root.s0];rw [if_neg (by omega)];rfl)
 | f+1,l,h,hf,hl=>by
  by_cases c:1 < l.length
  ·rw [loopO_inl (s':=upL l) (by simp only [merkle_Root.s0];rw [if_pos (by omega),up_eq l h hl];rfl),topR,if_pos c]
   exact root_loop f _ (upL_hs l) (by rw [upL_len];omega) (by rw [upL_len];omega)
  ·rw [loopO_inr (r:=l) (by simp only [merkle_Root.s0];rw [if_neg (by omega)]),top_stop (by omega)]
theorem root1_loop:∀ (f:Nat) (l:List (List Int)),Hs l→l.length≤f→l.length < 100000→loopO q1_Root.s0 l=some (topR f l)
 | 0,l,h,hf,hl=>loopO_inr (by simp only [q1_Root.s0];rw [if_neg (by omega)];rfl)
 | f+1,l,h,hf,hl=>by
  by_cases c:1 < l.length
  ·rw [loopO_inl (s':=upL l) (by simp only [q1_Root.s0];rw [if_pos (by omega),row_eq l h hl];rfl),topR,if_pos c]
   exact root1_loop f _ (upL_hs l) (by rw [upL_len];omega) (by rw [upL_len];omega)
  ·rw [loopO_inr (r:=l) (by simp only [q1_Root.s0];rw [if_neg (by omega)]),top_stop (by omega)]
theorem root_eq (l:List (List Int))(h:Hs l)(hl:l.length < 100000):merkle_Root.f l=some (rootL l):=by
 simp only [merkle_Root.f,rootL]
 by_cases c:l.length=0
 ·rw [if_pos (by omega),if_pos c];rfl
 ·rw [if_neg (by omega),if_neg c,root_loop _ l h (Nat.le_refl _) hl,Option.bind_some,if_pos (by rw [top_pos _ _ (by omega) (Nat.le_refl _)];decide)]
  rfl
theorem root1_eq (l:List (List Int))(h:Hs l)(hl:l.length < 100000):q1_Root.f l=some (rootL l):=by
 simp only [q1_Root.f,rootL]
 by_cases c:l.length=0
 ·rw [if_pos (by omega),if_pos c];rfl
 ·rw [if_neg (by omega),if_neg c,root1_loop _ l h (Nat.le_refl _) hl,Option.bind_some,if_pos (by rw [top_pos _ _ (by omega) (Nat.le_refl _)];decide)]
  rfl
theorem rootL_len (l:List (List Int))(h:Hs l):(rootL l).length=32:=by
 unfold rootL
 split
 ·simp
 ·exact (top_hs _ _ h).at (by rw [top_pos _ _ (by omega) (Nat.le_refl _)];omega)
theorem u8e (x:Int):IntKind.u8.wrap x=x % 256:=by simp [IntKind.wrap,IntKind.signed,IntKind.bits]
def lb (a m:Nat):List Int:=(List.range m).map fun j=>((a / 2 ^ (8 * j) % 256:Nat):Int)
theorem lb_len (a m:Nat):(lb a m).length=m:=by simp [lb]
theorem sR_div (k:IntKind){a n:Nat}(hn:n≤k.bits):sR k (a:Int) (n:Int)=((a / 2 ^ n:Nat):Int):=by
 rw [sR_nat k hn,Nat.shiftRight_eq_div_pow]
theorem number_eq' (r:List Int)(a k:Nat)(hk:k≤100)(hl:r.length+k≤140737488355328):compact_number.f r (a:Int) (k:Int)=some (r++lb a k):=by
 simp only [compact_number.f]
 have h:loopO (compact_number.s0 (k:Int)) (r,(a:Int),0)=some (r++lb a k,((a / 2 ^ (8 * k):Nat):Int)):=by
  refine loop_run (fun j=>(r++lb a j,((a / 2 ^ (8 * j):Nat):Int),(j:Int))) k (by simp [lb]) (fun j hj=>?_) ?_
  ·simp only [compact_number.s0]
   have e1:IntKind.u8.wrap ((a / 2 ^ (8 * j):Nat):Int)=((a / 2 ^ (8 * j) % 256:Nat):Int):=by rw [u8e];generalize a / 2 ^ (8 * j)=q;omega
   have e2:sR .u64 ((a / 2 ^ (8 * j):Nat):Int) 8=((a / 2 ^ (8 * (j+1)):Nat):Int):=by
    have:=sR_div .u64 (a:=a / 2 ^ (8 * j)) (n:=8) (by decide)
    rw [Nat.div_div_eq_div_mul,← Nat.pow_add] at this
    exact this
   rw [if_pos (by omega),if_pos (by simp [lb_len];omega),e1,e2,winc j (by omega),List.append_assoc]
   have:lb a j++[((a / 2 ^ (8 * j) % 256:Nat):Int)]=lb a (j+1):=by
    unfold lb;rw [range_map_succ]
   rw [this]
  ·simp only [compact_number.s0]
   rw [if_neg (by omega)]
 rw [h,Option.bind_some]
theorem four_eq (b:List Int)(a:Nat)(ha:a < 4294967296)(hl:b.length+4≤140737488355328):compact_Four.f b (a:Int)=some (b++lb a 4):=by
 have:=number_eq' b a 4 (by omega) hl
 simp only [compact_Four.f,bytes_Clone.f]
 rw [wu64 (by omega) (by omega),if_pos (by omega),Option.bind_some]
 rw [show ((4:Nat):Int)=4 from rfl] at this
 rw [this,Option.bind_some]
theorem lb4_inj {a b:Nat}(ha:a < 4294967296)(hb:b < 4294967296):lb a 4=lb b 4 ↔ a=b:=by
 constructor
 ·intro h
  simp [lb,List.range_succ] at h
  omega
 ·rintro rfl;rfl
structure HN where
 v:Nat
 p:List Int
 r:List Int
 t:Nat
 w:Nat
 n:Nat
deriving DecidableEq
structure HN.Ok (h:HN):Prop where
 v:h.v < 4294967296
 p:h.p.length=32
 r:h.r.length=32
 t:h.t < 4294967296
 w:h.w < 4294967296
 n:h.n < 4294967296
def HN.h (h:HN):Head:=⟨h.v,h.p,h.r,h.t,h.w,h.n⟩
theorem hn_of {μ:Store}{x:Head}(h:HeadW μ x):∃ y:HN,x=y.h∧y.Ok:=by
 obtain ⟨a,b,c,d,e,f⟩:=h
 obtain ⟨v,ev,hv⟩:=nat_of (k:=.u32) rfl a
 obtain ⟨t,et,ht⟩:=nat_of (k:=.u32) rfl d
 obtain ⟨w,ew,hw⟩:=nat_of (k:=.u32) rfl e
 obtain ⟨n,en,hn⟩:=nat_of (k:=.u32) rfl f
 refine ⟨⟨v,x.Prev,x.Root,t,w,n⟩,?_,⟨hv,b.1,c.1,ht,hw,hn⟩⟩
 obtain ⟨x1,x2,x3,x4,x5,x6⟩:=x
 simp only at ev et ew en
 subst ev et ew en
 rfl
def hb (h:HN):List Int:=lb h.v 4++(h.p++(h.r++(lb h.t 4++(lb h.w 4++lb h.n 4))))
theorem hb_len {h:HN}(o:h.Ok):(hb h).length=80:=by simp [hb,lb_len,o.p,o.r]
theorem hbytes_eq {h:HN}(o:h.Ok):head_Bytes.f h.h=some (hb h):=by
 simp only [head_Bytes.f,HN.h]
 have hv:=o.v
 have ht:=o.t
 have hw:=o.w
 have hn:=o.n
 rw [four_eq [] h.v hv (by simp),Option.bind_some,concat_eq _ (by simp) (by simp [lb_len,o.p,o.r]),Option.bind_some,four_eq _ h.t ht (by simp [lb_len,o.p,o.r]),Option.bind_some,four_eq _ h.w hw (by simp [lb_len,o.p,o.r]),Option.bind_some,four_eq _ h.n hn (by simp [lb_len,o.p,o.r]),Option.bind_some]
 simp [hb]
theorem hb_inj {a b:HN}(oa:a.Ok)(ob:b.Ok):hb a=hb b ↔ a=b:=by
 constructor
 ·intro h
  unfold hb at h
  obtain ⟨e1,h⟩:=List.append_inj h (by rw [lb_len,lb_len])
  obtain ⟨e2,h⟩:=List.append_inj h (by rw [oa.p,ob.p])
  obtain ⟨e3,h⟩:=List.append_inj h (by rw [oa.r,ob.r])
  obtain ⟨e4,h⟩:=List.append_inj h (by rw [lb_len,lb_len])
  obtain ⟨e5,h⟩:=List.append_inj h (by rw [lb_len,lb_len])
  have f1:=(lb4_inj oa.v ob.v).1 e1
  have f4:=(lb4_inj oa.t ob.t).1 e4
  have f5:=(lb4_inj oa.w ob.w).1 e5
  have f6:=(lb4_inj oa.n ob.n).1 h
  clear e1 e4 e5 h oa ob
  obtain ⟨a1,a2,a3,a4,a5,a6⟩:=a
  obtain ⟨b1,b2,b3,b4,b5,b6⟩:=b
  simp only at f1 e2 e3 f4 f5 f6
  rw [f1,e2,e3,f4,f5,f6]
 ·rintro rfl;rfl
theorem same_eq {a b:HN}(oa:a.Ok)(ob:b.Ok):q0_SameHead.f a.h b.h=some (decide (hb a=hb b)):=by
 have e:decide (hb a=hb b)=decide (a=b):=decide_eq_decide.2 (hb_inj oa ob)
 rw [e]
 simp only [q0_SameHead.f,HN.h]
 rw [samehash_eq _ _ oa.p ob.p,samehash_eq _ _ oa.r ob.r]
 obtain ⟨a1,a2,a3,a4,a5,a6⟩:=a
 obtain ⟨b1,b2,b3,b4,b5,b6⟩:=b
 simp only [Option.bind_some,HN.mk.injEq,decide_eq_true_eq,Int.natCast_inj]
 by_cases c1:a1=b1
 ·by_cases c2:a2=b2
  ·by_cases c3:a3=b3
   ·by_cases c4:a4=b4
    ·by_cases c5:a5=b5
     ·simp [c1,c2,c3,c4,c5]
     ·simp [c1,c2,c3,c4,c5]
    ·simp [c1,c2,c3,c4]
   ·simp [c1,c2,c3]
  ·simp [c1,c2]
 ·simp [c1]
theorem hid_eq {h:HN}(o:h.Ok):head_ID.f h.h=some (sha (sha (hb h))):=by
 simp only [head_ID.f]
 rw [hbytes_eq o,Option.bind_some,twice_eq _ (by rw [hb_len o];decide)]
 rfl
def sl:List Er:=[xErrEnd,xErrShape,xErrLong,xErrMany,xErrValue,xErrTwice,xErrBase,xErrRoot,xErrKnown,xErrParent,xErrInvalid,xErrTime,xErrMissing,xErrKey,xErrYoung,xErrEarly,xErrLess,xErrReward,xErrClash,xErrLimit,xErrFull,xErrRange,xErrNone,xErrWord,xErrNumber]
theorem sl_plain:∀ e∈sl,e≠.b 0∧e.isP=false:=by decide
theorem alike_eq {e f:Er}(he:e≠.b 0)(hf:f≠.b 0)(hp:e.isP=false):q2_Alike.f e f=some (decide (e=f)):=by
 simp only [q2_Alike.f]
 rw [if_neg he,Option.bind_some,if_neg (by simpa using hf),if_pos]
 cases e with
 | pl _ _=>cases hp
 | b n =>
  cases f with
  | pl _ _=>cases n <;> rfl
  | b m =>
   cases n with
   | zero=>exact absurd rfl he
   | succ n=>rfl
theorem gd {α:Type}(l:List α)(d:α){i:Nat}(h:i < l.length):l.getD i d=l[i]:=by simp [List.getD,h]
theorem sl_ne:∀ i,i < 25→∀ j,j < 25→i≠j→sl.getD i (.b 0)≠sl.getD j (.b 0):=by decide +kernel
theorem sentinel_at (k:Nat)(hk:k < 25):q2_sentinel.f (sl.getD k (.b 0))=some (101+(k:Int)):=by
 have hl:sl.length=25:=rfl
 have hmem:∀ i,i < 25→sl.getD i (.b 0)∈sl:=fun i hi=>by
  have e:=gd sl (.b 0) (i:=i) (by omega)
  rw [e];exact List.getElem_mem _
 have h0:q2_sentinels.f=some sl:=rfl
 unfold q2_sentinel.f
 rw [h0,Option.bind_some]
 have hs:∀ i:Nat,i < 25→q2_sentinel.s0 (sl.getD k (.b 0)) sl (i:Int)=if k=i then some (.inr (IntKind.i64.wrap (101+(i:Int)))) else some (.inl (IntKind.i64.wrap ((i:Int)+1))):=fun i hi=>by
  simp only [q2_sentinel.s0]
  rw [if_pos (by omega),if_pos (by omega),Int.toNat_natCast,alike_eq (sl_plain _ (hmem k hk)).1 (sl_plain _ (hmem i hi)).1 (sl_plain _ (hmem k hk)).2,Option.bind_some]
  by_cases h:k=i
  ·subst h;rw [if_pos (by simp),if_pos rfl]
  ·rw [if_neg (by simpa using sl_ne k hk i hi h),if_neg h]
 have key:=loop_idx (step:=q2_sentinel.s0 (sl.getD k (.b 0)) sl) (fun i=>(i:Int)) k (fun i hi=>by rw [hs i (by omega),if_neg (by omega),winc i (by omega)])
 have e0:((0:Nat):Int)=0:=rfl
 simp only [e0] at key
 have h1:=hs k hk
 rw [if_pos rfl] at h1
 rw [key,loopO_inr h1,w64 (by omega) (by omega)]
theorem samefault_bare (a b:Int):q0_SameFault.f ⟨a,false,0,false,0⟩ ⟨b,false,0,false,0⟩=some (decide (a=b)):=by
 simp only [q0_SameFault.f]
 by_cases h:a=b
 ·simp [h]
 ·simp [h]
theorem is_nil (c:Int):q2_Is.f (.b 0) c=some (decide (0=c)):=by
 simp only [q2_Is.f,q2_Same.f,q2_Fault.f,q0_Bare.f,q0_None.f,Option.bind_some,if_true]
 rw [samefault_bare,Option.bind_some];rfl
theorem fault_at (k:Nat)(hk:k < 25):q2_Fault.f (sl.getD k (.b 0))=some ⟨101+(k:Int),false,0,false,0⟩:=by
 have hm:sl.getD k (.b 0)∈sl:=by
  have hl:sl.length=25:=rfl
  have e:=gd sl (.b 0) (i:=k) (by omega)
  rw [e];exact List.getElem_mem _
 obtain ⟨h1,h2⟩:=sl_plain _ hm
 simp only [q2_Fault.f]
 rw [if_neg h1,if_neg (by rw [h2];decide),sentinel_at k hk]
 rfl
theorem is_at (k:Nat)(hk:k < 25)(c:Int):q2_Is.f (sl.getD k (.b 0)) c=some (decide (101+(k:Int)=c)):=by
 simp only [q2_Is.f,q2_Same.f,q0_Bare.f,Option.bind_some]
 rw [fault_at k hk,Option.bind_some,samefault_bare,Option.bind_some,Option.bind_some]
theorem is_shape (c:Int):q2_Is.f xErrShape c=some (decide (102=c)):=is_at 1 (by decide) c
def cd (e:Er):Int:=if e=.b 0 then 0 else 101+(sl.idxOf e:Int)
def Kn (e:Er):Prop:=e=.b 0∨e∈sl
theorem is_eq {e:Er}(h:Kn e)(c:Int):q2_Is.f e c=some (decide (cd e=c)):=by
 rcases h with rfl | h
 ·rw [is_nil];rfl
 ·have hk:sl.idxOf e < 25:=List.idxOf_lt_length_of_mem h
  have e1:sl.getD (sl.idxOf e) (.b 0)=e:=by
   rw [gd sl (.b 0) (List.idxOf_lt_length_of_mem h)]
   exact List.getElem_idxOf _
  have:=is_at (sl.idxOf e) hk c
  rw [e1] at this
  rw [this]
  unfold cd
  rw [if_neg (sl_plain _ h).1]
theorem kn_sl {e:Er}(h:e∈sl):Kn e:=.inr h
theorem cd_eq {e f:Er}(he:Kn e)(hf:Kn f):cd e=cd f ↔ e=f:=by
 constructor
 ·intro h
  unfold cd at h
  rcases he with rfl | he
  ·rcases hf with rfl | hf
   ·rfl
   ·rw [if_pos rfl,if_neg (sl_plain _ hf).1] at h;omega
  ·rw [if_neg (sl_plain _ he).1] at h
   rcases hf with rfl | hf
   ·rw [if_pos rfl] at h;omega
   ·rw [if_neg (sl_plain _ hf).1] at h
    have h':sl.idxOf e=sl.idxOf f:=by omega
    have h1:sl.idxOf e < sl.length:=List.idxOf_lt_length_of_mem he
    have h2:sl.idxOf f < sl.length:=List.idxOf_lt_length_of_mem hf
    have e1:sl[sl.idxOf e]=e:=List.getElem_idxOf _
    have e2:sl[sl.idxOf f]=f:=List.getElem_idxOf _
    rw [← e1,← e2]
    congr 1
 ·rintro rfl;rfl
def Bs (l:List Int):Prop:=∀ x∈l,InR .u8 x
theorem Bs.app {l m:List Int}(h:Bs l)(k:Bs m):Bs (l++m):=fun x hx=>(List.mem_append.1 hx).elim (h x) (k x)
theorem Bs.take {l:List Int}(h:Bs l)(n:Nat):Bs (l.take n):=fun x hx=>h x (List.mem_of_mem_take hx)
theorem Bs.drop {l:List Int}(h:Bs l)(n:Nat):Bs (l.drop n):=fun x hx=>h x (List.mem_of_mem_drop hx)
theorem bs_lb (a m:Nat):Bs (lb a m):=fun x hx=>by
 obtain ⟨j,_,rfl⟩:=List.mem_map.1 hx
 simp only [InR]
 omega
theorem bs_nil:Bs []:=fun x hx=>by cases hx
def vl:List Int→Nat
 | []=>0
 | b::l=>b.toNat+256 * vl l
theorem vl_snoc (l:List Int)(b:Int):vl (l++[b])=vl l+256 ^ l.length * b.toNat:=by
 induction l with
 | nil=>simp [vl]
 | cons x l ih=>simp only [List.cons_append,vl,ih,List.length_cons,Nat.pow_succ];rw [Nat.mul_add,Nat.mul_comm (256 ^ l.length) 256,Nat.mul_assoc];omega
theorem vl_lt {l:List Int}(h:Bs l):vl l < 256 ^ l.length:=by
 induction l with
 | nil=>simp [vl]
 | cons x l ih =>
  have h1:=ih fun y hy=>h y (by simp [hy])
  obtain ⟨h2,h3⟩:=h x (by simp)
  simp only [vl,List.length_cons,Nat.pow_succ]
  omega
theorem lb_vl {l:List Int}(h:Bs l):lb (vl l) l.length=l:=by
 induction l with
 | nil=>rfl
 | cons x l ih =>
  have ih:=ih fun y hy=>h y (by simp [hy])
  obtain ⟨h2,h3⟩:=h x (by simp)
  have e:∀ a m,lb a (m+1)=((a % 256:Nat):Int)::lb (a / 256) m:=fun a m=>by
   unfold lb
   rw [List.range_succ_eq_map,List.map_cons,List.map_map]
   refine List.cons_eq_cons.2 ⟨by simp,List.map_congr_left fun j _=>?_⟩
   simp only [Function.comp]
   rw [Nat.succ_eq_add_one,Nat.mul_add,Nat.mul_one,Nat.pow_add,Nat.mul_comm (2 ^ (8 * j)),← Nat.div_div_eq_div_mul]
  simp only [List.length_cons,vl]
  rw [e]
  have e1:(x.toNat+256 * vl l) % 256=x.toNat:=by omega
  have e2:(x.toNat+256 * vl l) / 256=vl l:=by omega
  rw [e1,e2,ih]
  congr 1
  omega
theorem or_shift (a b i:Nat)(ha:a < 256 ^ i)(hb:b < 256)(hi:i < 8):bOr .u64 (a:Int) (sL .u64 (b:Int) ((8 * i:Nat):Int))=((a+256 ^ i * b:Nat):Int):=by
 have e1:(256:Nat) ^ i=2 ^ (8 * i):=by rw [Nat.pow_mul]
 have h64:(256:Nat) ^ i * 256≤2 ^ 64:=by
  rw [e1,show (256:Nat)=2 ^ 8 from rfl,← Nat.pow_add]
  exact Nat.pow_le_pow_right (by decide) (by omega)
 have hlt:256 ^ i * b < 2 ^ 64:=Nat.lt_of_lt_of_le (Nat.mul_lt_mul_of_pos_left hb (Nat.pow_pos (by decide))) h64
 have hs:sL .u64 (b:Int) ((8 * i:Nat):Int)=((256 ^ i * b:Nat):Int):=by
  unfold sL
  have em:min ((8 * i:Nat):Int).toNat IntKind.u64.bits=8 * i:=by simp [IntKind.bits];omega
  rw [em]
  have e2:(b:Int) * 2 ^ (8 * i)=((256 ^ i * b:Nat):Int):=by
   rw [e1];push_cast;exact Int.mul_comm _ _
  rw [e2]
  exact wu64 (by omega) (by omega)
 rw [hs,bOr_nat .u64 rfl (by simp only [IntKind.bits];exact Nat.lt_of_lt_of_le ha (by omega)) (by simpa [IntKind.bits] using hlt)]
 congr 1
 have:=Nat.two_pow_add_eq_or_of_lt (i:=8 * i) (b:=a) (by rw [← e1];exact ha) b
 rw [← e1] at this
 rw [Nat.or_comm,← this,Nat.add_comm]
def nx (n:Nat)(s:List Int×Er):List Int×(List Int×Er) :=
 if s.2≠.b 0 then ([],s) else if s.1.length < n then ([],(s.1,xErrEnd)) else (s.1.take n,(s.1.drop n,s.2))
def Rep (r:cRd)(s:List Int×Er):Prop:=∃ pre,r=⟨pre++s.1,(pre.length:Int),s.2⟩∧(pre++s.1).length≤1000000∧Bs s.1
theorem nx_bs {n:Nat}{s:List Int×Er}(h:Bs s.1):Bs (nx n s).1∧Bs (nx n s).2.1:=by
 unfold nx
 split
 ·exact ⟨bs_nil,h⟩
 ·split
  ·exact ⟨bs_nil,h⟩
  ·exact ⟨h.take _,h.drop _⟩
theorem nx_len (n:Nat)(s:List Int×Er):(nx n s).1.length≤n:=by
 unfold nx
 split
 ·simp
 ·split
  ·simp
  ·simp;omega
theorem next_eq {r:cRd}{s:List Int×Er}(h:Rep r s)(n:Nat):∃ r',cR_next.f r (n:Int)=some ((nx n s).1,r')∧Rep r' (nx n s).2:=by
 obtain ⟨pre,rfl,hl,hbs⟩:=h
 obtain ⟨rest,e⟩:=s
 simp only at hl hbs ⊢
 rw [List.length_append] at hl
 simp only [cR_next.f,nx]
 by_cases he:e=.b 0
 ·subst he
  rw [if_neg (show ¬ (Er.b 0≠Er.b 0) from fun h=>h rfl),if_neg (show ¬ (Er.b 0≠Er.b 0) from fun h=>h rfl)]
  have w1:IntKind.i64.wrap (((pre++rest).length:Int) - (pre.length:Int))=(rest.length:Int):=by
   rw [List.length_append,w64 (by omega) (by omega)];omega
  rw [w1]
  by_cases hc:rest.length < n
  ·rw [if_pos (by omega),if_pos hc]
   exact ⟨_,rfl,pre,rfl,by rw [List.length_append];exact hl,hbs⟩
  ·rw [if_neg (by omega),if_neg hc]
   have w2:IntKind.i64.wrap ((pre.length:Int)+(n:Int))=((pre.length+n:Nat):Int):=by rw [w64 (by omega) (by omega)];omega
   have w3:IntKind.i64.wrap (((pre.length+n:Nat):Int) - (n:Int))=(pre.length:Int):=by rw [w64 (by omega) (by omega)];omega
   rw [w2,w3,if_pos (by rw [List.length_append];omega),Int.toNat_natCast,Int.toNat_natCast]
   have e1:((pre++rest).take (pre.length+n)).drop pre.length=rest.take n:=by
    rw [List.take_append,List.take_of_length_le (by omega),Nat.add_sub_cancel_left,List.drop_left' rfl]
   rw [e1]
   refine ⟨_,rfl,pre++rest.take n,?_,?_,hbs.drop n⟩
   ·rw [List.append_assoc,List.take_append_drop,List.length_append,List.length_take,Nat.min_eq_left (by omega)]
   ·rw [List.append_assoc,List.take_append_drop,List.length_append];exact hl
 ·rw [if_pos he,if_pos he]
  exact ⟨_,rfl,pre,rfl,by rw [List.length_append];exact hl,hbs⟩
theorem left_eq {r:cRd}{s:List Int×Er}(h:Rep r s):cR_Left.f r=some (s.1.length:Int):=by
 obtain ⟨pre,rfl,hl,hbs⟩:=h
 rw [List.length_append] at hl
 simp only [cR_Left.f]
 rw [List.length_append,w64 (by omega) (by omega)]
 congr 1
 omega
theorem err_eq {r:cRd}{s:List Int×Er}(h:Rep r s):cR_Err.f r=some s.2:=by
 obtain ⟨pre,rfl,hl,hbs⟩:=h
 rfl
theorem rep_err {r:cRd}{s:List Int×Er}(h:Rep r s):r.err=s.2:=by
 obtain ⟨pre,rfl,hl,hbs⟩:=h
 rfl
theorem read_eq {b:List Int}(hb:Bs b)(hl:b.length≤1000000):∃ r,compact_Read.f b=some r∧Rep r (b,.b 0):=by
 simp only [compact_Read.f,bytes_Clone.f]
 rw [if_pos (by omega),Option.bind_some]
 exact ⟨_,rfl,[],rfl,by simpa using hl,hb⟩
def wh (n:Nat)(s:List Int×Er):Nat×(List Int×Er):=(vl (nx n s).1,(nx n s).2)
theorem vl_step (l:List Int)(hb:Bs l)(i:Nat)(hi:i < l.length)(h8:l.length≤8):bOr .u64 ((vl (l.take i):Nat):Int) (sL .u64 (IntKind.u64.wrap (l.getD i 0)) ((8 * i:Nat):Int))=((vl (l.take (i+1)):Nat):Int):=by
 have hm:l.getD i 0∈l:=by
  have e:l.getD i 0=l[i]:=by simp [List.getD,hi]
  rw [e];exact List.getElem_mem hi
 obtain ⟨h2,h3⟩:=hb _ hm
 have hlt:=vl_lt (hb.take i)
 rw [List.length_take,Nat.min_eq_left (by omega)] at hlt
 rw [← take_next l i 0 hi,vl_snoc,List.length_take,Nat.min_eq_left (by omega),wu64 (by omega) (by omega)]
 have e:l.getD i 0=(((l.getD i 0).toNat:Nat):Int):=by omega
 have:=or_shift (vl (l.take i)) (l.getD i 0).toNat i hlt (by omega) (by omega)
 rw [← e] at this
 exact this
theorem whole_eq {r:cRd}{s:List Int×Er}(h:Rep r s)(n:Nat)(hn:n≤8):∃ r',cR_whole.f r (n:Int)=some (((wh n s).1:Int),r')∧Rep r' (wh n s).2:=by
 obtain ⟨r',h1,h2⟩:=next_eq h n
 have hb:=(nx_bs (n:=n) (show Bs s.1 from h.elim fun _ h=>h.2.2)).1
 have hlen:=nx_len n s
 refine ⟨r',?_,h2⟩
 simp only [cR_whole.f,wh]
 rw [h1,Option.bind_some]
 generalize (nx n s).1=l at *
 have hl:loopO (cR_whole.s0 (l,r')) (0,0)=some ((vl l:Int),r'.b,r'.at_,r'.err):=by
  refine loop_run (fun i=>(((vl (l.take i):Nat):Int),(i:Int))) l.length (by simp [vl]) (fun i hi=>?_) ?_
  ·simp only [cR_whole.s0,Int.toNat_natCast]
   have w8:IntKind.i64.wrap (8 * (i:Int))=((8 * i:Nat):Int):=by rw [w64 (by omega) (by omega)];omega
   rw [if_pos (by omega),if_pos (by omega),w8,if_pos (by omega),winc i (by omega),vl_step l hb i hi (by omega)]
  ·simp only [cR_whole.s0]
   rw [if_neg (by omega),List.take_length]
 rw [hl,Option.bind_some]
def ln (n:Nat):Nat:=if n < 253 then 1 else if n < 65536 then 3 else if n < 4294967296 then 5 else 9
theorem len_eq (n:Nat):compact_Len.f (n:Int)=some (ln n:Int):=by
 simp only [compact_Len.f,ln]
 by_cases h1:n < 253
 ·rw [if_pos (by omega),if_pos h1];rfl
 ·rw [if_neg (by omega),if_neg h1]
  by_cases h2:n < 65536
  ·rw [if_pos (by omega),if_pos h2];rfl
  ·rw [if_neg (by omega),if_neg h2]
   by_cases h3:n < 4294967296
   ·rw [if_pos (by omega),if_pos h3];rfl
   ·rw [if_neg (by omega),if_neg h3];rfl
theorem len1_eq (n:Nat):q1_Len.f (n:Int)=some (ln n:Int):=len_eq n
def my (n:Nat):Nat:=if n=253 then 2 else if n=254 then 4 else if n=255 then 8 else 0
def nm (most:Int)(s:List Int×Er):Nat×(List Int×Er) :=
 let a:=wh 1 s
 let b:=if 0 < my a.1 then wh (my a.1) a.2 else a
 if b.2.2≠.b 0 then (0,b.2) else if ln b.1≠1+my a.1 then (0,(b.2.1,xErrShape)) else if most < (b.1:Int) then (0,(b.2.1,xErrMany)) else b
theorem my_le (n:Nat):my n≤8:=by unfold my;split <;> (try split) <;> (try split) <;> omega
theorem num_eq {r:cRd}{s:List Int×Er}(h:Rep r s)(most:Int):∃ r',cR_Num.f r most=some (((nm most s).1:Int),r')∧Rep r' (nm most s).2:=by
 obtain ⟨r1,h1,h2⟩:=whole_eq h 1 (by omega)
 simp only [cR_Num.f,nm]
 rw [show ((1:Nat):Int)=1 from rfl] at h1
 rw [h1,Option.bind_some]
 generalize wh 1 s=a at *
 obtain ⟨a1,a2⟩:=a
 simp only at h1 h2 ⊢
 have hmy:(if (a1:Int)=253 then some (2:Int) else if (a1:Int)=254 then some 4 else if (a1:Int)=255 then some 8 else some 0)=some ((my a1:Nat):Int):=by
  unfold my
  by_cases c1:a1=253
  ·rw [if_pos (by omega),if_pos c1];rfl
  ·rw [if_neg (by omega),if_neg c1]
   by_cases c2:a1=254
   ·rw [if_pos (by omega),if_pos c2];rfl
   ·rw [if_neg (by omega),if_neg c2]
    by_cases c3:a1=255
    ·rw [if_pos (by omega),if_pos c3];rfl
    ·rw [if_neg (by omega),if_neg c3];rfl
 rw [hmy,Option.bind_some]
 have hmid:∃ r2,(if 0 < ((my a1:Nat):Int) then (cR_whole.f r1 ((my a1:Nat):Int)).bind fun r2=>some (r2.1,r2.2.b,r2.2.at_,r2.2.err) else some ((a1:Int),r1.b,r1.at_,r1.err))=some ((((if 0 < my a1 then wh (my a1) a2 else (a1,a2)).1:Nat):Int),r2.b,r2.at_,r2.err)∧Rep r2 (if 0 < my a1 then wh (my a1) a2 else (a1,a2)).2:=by
  by_cases hp:0 < my a1
  ·obtain ⟨r2,h3,h4⟩:=whole_eq h2 (my a1) (my_le a1)
   rw [if_pos (by omega),if_pos hp,h3,Option.bind_some]
   exact ⟨r2,rfl,h4⟩
  ·rw [if_neg (by omega),if_neg hp]
   exact ⟨r1,rfl,h2⟩
 obtain ⟨r2,h3,h4⟩:=hmid
 rw [h3,Option.bind_some]
 generalize (if 0 < my a1 then wh (my a1) a2 else (a1,a2))=b at *
 obtain ⟨b1,b2⟩:=b
 simp only at h4 ⊢
 have he:=rep_err h4
 have hw:IntKind.i64.wrap (1+((my a1:Nat):Int))=((1+my a1:Nat):Int):=by have:=my_le a1;rw [w64 (by omega) (by omega)];omega
 rw [he,len_eq,Option.bind_some,hw]
 obtain ⟨pre,e1,hl,hbs⟩:=h4
 by_cases c1:b2.2=.b 0
 ·rw [if_neg (show ¬ (b2.2≠.b 0) from fun h=>h c1),if_neg (show ¬ (b2.2≠.b 0) from fun h=>h c1)]
  by_cases c2:ln b1=1+my a1
  ·rw [if_neg (show ¬ (((ln b1:Nat):Int)≠((1+my a1:Nat):Int)) from fun h=>h (by rw [c2])),if_neg (show ¬ (ln b1≠1+my a1) from fun h=>h c2)]
   by_cases c3:most < (b1:Int)
   ·rw [if_pos c3,if_pos c3]
    exact ⟨_,rfl,pre,by rw [e1],hl,hbs⟩
   ·rw [if_neg c3,if_neg c3]
    exact ⟨_,rfl,pre,by rw [e1],hl,hbs⟩
  ·rw [if_pos (by omega),if_pos c2]
   exact ⟨_,rfl,pre,by rw [e1],hl,hbs⟩
 ·rw [if_pos c1,if_pos c1]
  exact ⟨_,rfl,pre,by rw [e1],hl,hbs⟩
theorem rfour_eq {r:cRd}{s:List Int×Er}(h:Rep r s):∃ r',cR_Four.f r=some (((wh 4 s).1:Int),r')∧Rep r' (wh 4 s).2:=by
 obtain ⟨r1,h1,h2⟩:=whole_eq h 4 (by omega)
 refine ⟨r1,?_,h2⟩
 simp only [cR_Four.f]
 rw [show ((4:Nat):Int)=4 from rfl] at h1
 have hlt:(wh 4 s).1 < 4294967296:=by
  have h3:=vl_lt (nx_bs (n:=4) (show Bs s.1 from h.elim fun _ h=>h.2.2)).1
  have h4:=nx_len 4 s
  have:256 ^ (nx 4 s).1.length≤256 ^ 4:=Nat.pow_le_pow_right (by decide) h4
  simp only [wh]
  omega
 rw [h1,Option.bind_some,wu32 (by omega) (by omega)]
theorem reight_eq {r:cRd}{s:List Int×Er}(h:Rep r s):∃ r',cR_Eight.f r=some (((wh 8 s).1:Int),r')∧Rep r' (wh 8 s).2:=by
 obtain ⟨r1,h1,h2⟩:=whole_eq h 8 (by omega)
 refine ⟨r1,?_,h2⟩
 simp only [cR_Eight.f]
 rw [show ((8:Nat):Int)=8 from rfl] at h1
 rw [h1,Option.bind_some]
def h32 (s:List Int×Er):List Int×(List Int×Er):=(if (nx 32 s).1=[] then List.replicate 32 0 else (nx 32 s).1,(nx 32 s).2)
theorem nx_full (n:Nat)(s:List Int×Er):(nx n s).1=[]∨(nx n s).1.length=n:=by
 unfold nx
 split
 ·exact .inl rfl
 ·split
  ·exact .inl rfl
  ·rename_i h;exact .inr (by simp;omega)
theorem rhash_eq {r:cRd}{s:List Int×Er}(h:Rep r s):∃ r',cR_Hash.f r=some ((h32 s).1,r')∧Rep r' (h32 s).2:=by
 obtain ⟨r1,h1,h2⟩:=next_eq h 32
 refine ⟨r1,?_,h2⟩
 simp only [cR_Hash.f,h32]
 rw [show ((32:Nat):Int)=32 from rfl] at h1
 rw [h1,Option.bind_some]
 rcases nx_full 32 s with e | e
 ·rw [e,if_pos rfl];simp [cpy]
 ·rw [if_neg (fun h=>by rw [h] at e;cases e)]
  simp only [cpy,List.length_replicate]
  rw [List.take_of_length_le (by omega),List.drop_of_length_le (by simp;omega),List.append_nil]
def by_ (n:Int)(s:List Int×Er):List Int×(List Int×Er):=if n≤0 then ([],s) else nx n.toNat s
theorem rbytes_eq {r:cRd}{s:List Int×Er}(h:Rep r s)(n:Int):∃ r',cR_Bytes.f r n=some ((by_ n s).1,r')∧Rep r' (by_ n s).2:=by
 simp only [cR_Bytes.f,by_]
 by_cases h0:n≤0
 ·rw [if_pos h0,if_pos h0]
  exact ⟨r,rfl,h⟩
 ·rw [if_neg h0,if_neg h0]
  obtain ⟨r1,h1,h2⟩:=next_eq h n.toNat
  rw [Int.toNat_of_nonneg (by omega)] at h1
  have h3:(nx n.toNat s).1.length≤1000000:=by
   obtain ⟨pre,_,h4,_⟩:=h
   rw [List.length_append] at h4
   unfold nx
   split
   ·simp
   ·split
    ·simp
    ·simp;omega
  refine ⟨r1,?_,h2⟩
  rw [h1,Option.bind_some]
  simp only [bytes_Clone.f]
  rw [if_pos (by omega),Option.bind_some]
def pt (n:Nat):List Int:=if n < 253 then lb n 1 else if n < 65536 then 253::lb n 2 else if n < 4294967296 then 254::lb n 4 else 255::lb n 8
theorem pt_len (n:Nat):(pt n).length=ln n:=by
 unfold pt ln
 split
 ·simp [lb_len]
 ·split
  ·simp [lb_len]
  ·split <;> simp [lb_len]
theorem ln_le (n:Nat):1≤ln n∧ln n≤9:=by unfold ln;split <;> (try split) <;> (try split) <;> omega
theorem lb_one (n:Nat):lb n 1=[((n % 256:Nat):Int)]:=by simp [lb,List.range_succ]
theorem put_eq (b:List Int)(n:Nat)(hn:n < 18446744073709551616)(hl:b.length≤1000000):compact_Put.f b (n:Int)=some (b++pt n):=by
 simp only [compact_Put.f,bytes_Clone.f]
 rw [if_pos (by omega),Option.bind_some,len_eq,Option.bind_some]
 unfold ln pt
 by_cases h1:n < 253
 ·rw [if_pos h1,if_pos h1,if_pos (by rfl),if_pos (by omega),u8e,lb_one]
  congr 3
 ·rw [if_neg h1,if_neg h1]
  by_cases h2:n < 65536
  ·have:=number_eq' (b++[253]) n 2 (by omega) (by simp;omega)
   rw [show ((2:Nat):Int)=2 from rfl] at this
   rw [if_pos h2,if_pos h2,if_neg (by decide),if_pos (by rfl),if_pos (by omega),this,Option.bind_some,List.append_assoc];rfl
  ·rw [if_neg h2,if_neg h2]
   by_cases h3:n < 4294967296
   ·have:=number_eq' (b++[254]) n 4 (by omega) (by simp;omega)
    rw [show ((4:Nat):Int)=4 from rfl] at this
    rw [if_pos h3,if_pos h3,if_neg (by decide),if_neg (by decide),if_pos (by rfl),if_pos (by omega),this,Option.bind_some,List.append_assoc];rfl
   ·have:=number_eq' (b++[255]) n 8 (by omega) (by simp;omega)
    rw [show ((8:Nat):Int)=8 from rfl] at this
    rw [if_neg h3,if_neg h3,if_neg (by decide),if_neg (by decide),if_neg (by decide),if_pos (by omega),this,Option.bind_some,List.append_assoc];rfl
theorem eight_eq (b:List Int)(a:Nat)(hl:b.length≤1000000):compact_Eight.f b (a:Int)=some (b++lb a 8):=by
 have:=number_eq' b a 8 (by omega) (by omega)
 simp only [compact_Eight.f,bytes_Clone.f]
 rw [if_pos (by omega),Option.bind_some]
 rw [show ((8:Nat):Int)=8 from rfl] at this
 rw [this,Option.bind_some]
theorem nx_app {n:Nat}{l t:List Int}(h:l.length=n):nx n (l++t,.b 0)=(l,(t,.b 0)):=by
 unfold nx
 rw [if_neg (fun h=>h rfl),if_neg (by simp;omega)]
 simp only
 rw [List.take_left' h,List.drop_left' h]
theorem nx_end {n:Nat}{l:List Int}(h:l.length < n):nx n (l,.b 0)=([],(l,xErrEnd)):=by
 unfold nx
 rw [if_neg (fun h=>h rfl),if_pos h]
theorem nx_err {n:Nat}{l:List Int}{e:Er}(h:e≠.b 0):nx n (l,e)=([],(l,e)):=by
 unfold nx
 rw [if_pos h]
theorem wh_app {n:Nat}{l t:List Int}(h:l.length=n):wh n (l++t,.b 0)=(vl l,(t,.b 0)):=by rw [wh,nx_app h]
theorem wh_end {n:Nat}{l:List Int}(h:l.length < n):wh n (l,.b 0)=(0,(l,xErrEnd)):=by rw [wh,nx_end h];rfl
theorem wh_err {n:Nat}{l:List Int}{e:Er}(h:e≠.b 0):wh n (l,e)=(0,(l,e)):=by rw [wh,nx_err h];rfl
theorem wh_cons {b:Int}{t:List Int}:wh 1 (b::t,.b 0)=(b.toNat,(t,.b 0)):=by
 have:=wh_app (n:=1) (l:=[b]) (t:=t) rfl
 simpa [vl] using this
theorem nm_err {most:Int}{l:List Int}{e:Er}(h:e≠.b 0):nm most (l,e)=(0,(l,e)):=by
 unfold nm
 rw [wh_err h]
 simp only
 rw [if_neg (show ¬ 0 < my 0 by decide)]
 simp only
 rw [if_pos h]
abbrev Stp (α:Type):=List Int×Er→α×(List Int×Er)
section
variable {α β:Type}
def ret (x:α):Stp α:=fun s=>(x,s)
def bnd (f:Stp α)(g:α→Stp β):Stp β:=fun s=>g (f s).1 (f s).2
def rpt:Nat→Stp α→Stp (List α)
 | 0,_=>ret []
 | n+1,f=>bnd f fun x=>bnd (rpt n f) fun xs=>ret (x::xs)
structure Ext (f:Stp α):Prop where
 err:∀ l e,e≠.b 0→(f (l,e)).2=(l,e)
 val:∀ l l' e,e≠.b 0→(f (l,e)).1=(f (l',e)).1
 ext:∀ l m,(f (l,.b 0)).2.2=xErrEnd∨f (l++m,.b 0)=((f (l,.b 0)).1,((f (l,.b 0)).2.1++m,(f (l,.b 0)).2.2))
theorem ext_ret (x:α):Ext (ret x):=⟨fun _ _ _=>rfl,fun _ _ _ _=>rfl,fun _ _=>.inr rfl⟩
theorem ext_bnd {f:Stp α}{g:α→Stp β}(hf:Ext f)(hg:∀ x,Ext (g x)):Ext (bnd f g):=by
 refine ⟨fun l e he=>?_,fun l l' e he=>?_,fun l m=>?_⟩
 ·simp only [bnd]
  rw [hf.err l e he]
  exact (hg _).err l e he
 ·simp only [bnd]
  rw [hf.err l e he,hf.err l' e he,hf.val l l' e he]
  exact (hg _).val l l' e he
 ·simp only [bnd]
  rcases hf.ext l m with h | h
  ·left
   have e2:(f (l,.b 0)).2=((f (l,.b 0)).2.1,xErrEnd):=Prod.ext rfl h
   rw [e2,(hg _).err _ _ (by decide)]
  ·rw [h]
   simp only
   by_cases he:(f (l,.b 0)).2.2=.b 0
   ·have e2:(f (l,.b 0)).2=((f (l,.b 0)).2.1,.b 0):=Prod.ext rfl he
    rw [he,e2]
    exact (hg _).ext _ m
   ·right
    have e2:(f (l,.b 0)).2=((f (l,.b 0)).2.1,(f (l,.b 0)).2.2):=rfl
    have h1:=(hg (f (l,.b 0)).1).err ((f (l,.b 0)).2.1++m) _ he
    have h2:=(hg (f (l,.b 0)).1).err ((f (l,.b 0)).2.1) _ he
    have h3:=(hg (f (l,.b 0)).1).val ((f (l,.b 0)).2.1++m) (f (l,.b 0)).2.1 _ he
    rw [e2,h2]
    exact Prod.ext h3 h1
theorem ext_rpt {f:Stp α}(hf:Ext f):∀ n,Ext (rpt n f)
 | 0=>ext_ret []
 | n+1=>ext_bnd hf fun x=>ext_bnd (ext_rpt hf n) fun xs=>ext_ret _
theorem ext_nx (n:Nat):Ext (nx n):=by
 refine ⟨fun l e he=>by rw [nx_err he],fun l l' e he=>by rw [nx_err he,nx_err he],fun l m=>?_⟩
 by_cases h:l.length < n
 ·left;rw [nx_end h]
 ·right
  have h1:nx n (l,.b 0)=(l.take n,(l.drop n,.b 0)):=by unfold nx;rw [if_neg (fun h=>h rfl),if_neg h]
  have h2:nx n (l++m,.b 0)=((l++m).take n,((l++m).drop n,.b 0)):=by unfold nx;rw [if_neg (fun h=>h rfl),if_neg (by simp;omega)]
  rw [h1,h2,List.take_append_of_le_length (by omega),List.drop_append_of_le_length (by omega)]
theorem ext_wh (n:Nat):Ext (wh n):=ext_bnd (g:=fun l=>ret (vl l)) (ext_nx n) fun _=>ext_ret _
theorem ext_h32:Ext h32:=ext_bnd (g:=fun l=>ret (if l=[] then List.replicate 32 0 else l)) (ext_nx 32) fun _=>ext_ret _
theorem ext_by (n:Int):Ext (by_ n):=by
 have:by_ n=if n≤0 then ret [] else nx n.toNat:=by
  funext s
  unfold by_
  split <;> rfl
 rw [this]
 split
 ·exact ext_ret _
 ·exact ext_nx _
def shp (most:Int)(a b:Nat):Stp Nat:=fun s=>if s.2≠.b 0 then (0,s) else if ln b≠1+my a then (0,(s.1,xErrShape)) else if most < (b:Int) then (0,(s.1,xErrMany)) else (b,s)
theorem ext_shp (most:Int)(a b:Nat):Ext (shp most a b):=by
 refine ⟨fun l e he=>by simp [shp,he],fun l l' e he=>by simp [shp,he],fun l m=>.inr ?_⟩
 simp only [shp,ne_eq,not_true_eq_false,if_false]
 split
 ·rfl
 ·split <;> rfl
theorem nm_bnd (most:Int):nm most=bnd (wh 1) fun a=>bnd (if 0 < my a then wh (my a) else ret a) fun b=>shp most a b:=by
 funext s
 unfold nm bnd shp
 by_cases h:0 < my (wh 1 s).1
 ·simp only [if_pos h]
 ·simp only [if_neg h];rfl
theorem ext_nm (most:Int):Ext (nm most):=by
 rw [nm_bnd]
 refine ext_bnd (ext_wh 1) fun a=>ext_bnd ?_ fun b=>ext_shp most a b
 split
 ·exact ext_wh _
 ·exact ext_ret _
def Can (f:Stp α)(en:α→List Int)(p:α→Prop):Prop:=∀ l,Bs l→(f (l,.b 0)).2.2=.b 0→l=en (f (l,.b 0)).1++(f (l,.b 0)).2.1∧p (f (l,.b 0)).1
theorem can_step {f:Stp α}{g:α→Stp β}{en:α→List Int}{p:α→Prop}(hf:Can f en p)(hg:∀ x,Ext (g x)){l:List Int}(hl:Bs l)(h:(bnd f g (l,.b 0)).2.2=.b 0) :
  ∃ x l1,p x∧l=en x++l1∧Bs l1∧bnd f g (l,.b 0)=g x (l1,.b 0):=by
 simp only [bnd] at h ⊢
 have h0:(f (l,.b 0)).2.2=.b 0:=by
  rcases Classical.em ((f (l,.b 0)).2.2=.b 0) with h1 | h1
  ·exact h1
  ·have:=(hg (f (l,.b 0)).1).err (f (l,.b 0)).2.1 (f (l,.b 0)).2.2 h1
   rw [show (f (l,.b 0)).2=((f (l,.b 0)).2.1,(f (l,.b 0)).2.2) from rfl,this] at h
   exact absurd h h1
 obtain ⟨h1,h2⟩:=hf l hl h0
 have e2:(f (l,.b 0)).2=((f (l,.b 0)).2.1,.b 0):=Prod.ext rfl h0
 exact ⟨(f (l,.b 0)).1,(f (l,.b 0)).2.1,h2,h1,fun x hx=>hl x (by rw [h1];exact List.mem_append_right _ hx),by rw [← e2]⟩
end
theorem can_nx (n:Nat):Can (nx n) (fun x=>x) (fun x=>x.length=n∧Bs x):=by
 intro l hl h
 by_cases hn:l.length < n
 ·rw [nx_end hn] at h;cases h
 ·have h1:nx n (l,.b 0)=(l.take n,(l.drop n,.b 0)):=by unfold nx;rw [if_neg (fun h=>h rfl),if_neg hn]
  rw [h1]
  exact ⟨(List.take_append_drop n l).symm,by simp;omega,hl.take n⟩
theorem can_wh (n:Nat):Can (wh n) (fun v=>lb v n) (fun v=>v < 256 ^ n):=by
 intro l hl h
 obtain ⟨h1,h2,h3⟩:=can_nx n l hl h
 refine ⟨?_,?_⟩
 ·simp only [wh]
  have:=lb_vl h3
  rw [h2] at this
  rw [this]
  exact h1
 ·have:=vl_lt h3
  rw [h2] at this
  exact this
theorem can_h32:Can h32 (fun x=>x) (fun x=>x.length=32∧Bs x):=by
 intro l hl h
 obtain ⟨h1,h2,h3⟩:=can_nx 32 l hl h
 have e:(h32 (l,.b 0)).1=(nx 32 (l,.b 0)).1:=by
  unfold h32
  rw [if_neg (fun h=>by rw [h] at h2;cases h2)]
 rw [e]
 exact ⟨h1,h2,h3⟩
theorem can_by (n:Nat):Can (by_ (n:Int)) (fun x=>x) (fun x=>x.length=n∧Bs x):=by
 intro l hl h
 unfold by_ at h ⊢
 by_cases h0:(n:Int)≤0
 ·rw [if_pos h0]
  exact ⟨rfl,by simp;omega,bs_nil⟩
 ·rw [if_neg h0] at h ⊢
  rw [Int.toNat_natCast] at h ⊢
  exact can_nx n l hl h
theorem can_nm (most:Nat):Can (nm (most:Int)) (fun v=>pt v) (fun v=>v≤most∧v < 18446744073709551616):=by
 intro l hl h
 cases l with
 | nil =>
  unfold nm at h
  rw [wh_end (by simp)] at h
  simp only at h
  rw [if_neg (show ¬ 0 < my 0 by decide)] at h
  simp only at h
  rw [if_pos (show xErrEnd≠.b 0 by decide)] at h
  cases h
 | cons f t =>
  obtain ⟨f0,f1⟩:=hl f (by simp)
  have ht:Bs t:=fun x hx=>hl x (by simp [hx])
  unfold nm at h ⊢
  rw [wh_cons] at h ⊢
  simp only at h ⊢
  by_cases hm:0 < my f.toNat
  ·simp only [if_pos hm] at h ⊢
   have hb:(wh (my f.toNat) (t,.b 0)).2.2=.b 0:=by
    by_cases hb:(wh (my f.toNat) (t,.b 0)).2.2=.b 0
    ·exact hb
    ·rw [if_pos hb] at h;exact absurd h hb
   rw [if_neg (fun h=>h hb)] at h ⊢
   obtain ⟨h1,h2⟩:=can_wh (my f.toNat) t ht hb
   generalize wh (my f.toNat) (t,.b 0)=b at *
   by_cases hln:ln b.1=1+my f.toNat
   ·rw [if_neg (fun h=>h hln)] at h ⊢
    by_cases hmo:(most:Int) < (b.1:Int)
    ·rw [if_pos hmo] at h;cases h
    ·rw [if_neg hmo]
     have h64:b.1 < 18446744073709551616:=by
      have:(256:Nat) ^ my f.toNat≤256 ^ 8:=Nat.pow_le_pow_right (by decide) (my_le _)
      omega
     refine ⟨?_,by omega,h64⟩
     have hf:(f.toNat=253∧my f.toNat=2)∨(f.toNat=254∧my f.toNat=4)∨(f.toNat=255∧my f.toNat=8):=by
      unfold my at hm ⊢
      by_cases c1:f.toNat=253
      ·left;exact ⟨c1,by rw [if_pos c1]⟩
      ·by_cases c2:f.toNat=254
       ·right;left;exact ⟨c2,by rw [if_neg c1,if_pos c2]⟩
       ·by_cases c3:f.toNat=255
        ·right;right;exact ⟨c3,by rw [if_neg c1,if_neg c2,if_pos c3]⟩
        ·rw [if_neg c1,if_neg c2,if_neg c3] at hm;omega
     have lnv:∀ v,(ln v=3→pt v=253::lb v 2)∧(ln v=5→pt v=254::lb v 4)∧(ln v=9→pt v=255::lb v 8):=fun v=>by
      unfold ln pt
      by_cases c1:v < 253
      ·simp [c1]
      ·by_cases c2:v < 65536
       ·simp [c1,c2]
       ·by_cases c3:v < 4294967296
        ·simp [c1,c2,c3]
        ·simp [c1,c2,c3]
     rcases hf with ⟨e1,e2⟩ | ⟨e1,e2⟩ | ⟨e1,e2⟩
     ·rw [e2] at hln h1
      rw [(lnv b.1).1 hln,List.cons_append,← h1]
      congr 1;omega
     ·rw [e2] at hln h1
      rw [(lnv b.1).2.1 hln,List.cons_append,← h1]
      congr 1;omega
     ·rw [e2] at hln h1
      rw [(lnv b.1).2.2 hln,List.cons_append,← h1]
      congr 1;omega
   ·rw [if_pos hln] at h;cases h
  ·simp only [if_neg hm] at h ⊢
   rw [if_neg (fun h=>h rfl)] at h ⊢
   have e0:my f.toNat=0:=by omega
   rw [e0] at h ⊢
   by_cases hln:ln f.toNat=1+0
   ·rw [if_neg (fun h=>h hln)] at h ⊢
    by_cases hmo:(most:Int) < (f.toNat:Int)
    ·rw [if_pos hmo] at h;cases h
    ·rw [if_neg hmo]
     have hlt:f.toNat < 253:=by
      unfold ln at hln
      by_cases c:f.toNat < 253
      ·exact c
      ·rw [if_neg c] at hln
       split at hln <;> (try split at hln) <;> omega
     refine ⟨?_,by simp only;omega,by simp only;omega⟩
     simp only
     unfold pt
     rw [if_pos hlt,lb_one,List.singleton_append]
     congr 1;omega
   ·rw [if_pos hln] at h;cases h
theorem nm_le (most:Nat)(s:List Int×Er):(nm (most:Int) s).1≤most:=by
 unfold nm
 simp only
 generalize (if 0 < my (wh 1 s).1 then wh (my (wh 1 s).1) (wh 1 s).2 else wh 1 s)=b
 split
 ·simp
 ·split
  ·simp
  ·split
   ·simp
   ·omega
structure InOk (i:In):Prop where
 tx:i.From.Tx.length=32
 txb:Bs i.From.Tx
 n:InR .u32 i.From.N
 key:Bs i.Key
 seq:InR .u32 i.Seq
structure OutOk (o:Out):Prop where
 val:InR .u64 o.Value
 lock:o.Lock.length=32
 lockb:Bs o.Lock
structure TxOk (t:Tx):Prop where
 v:InR .u32 t.Version
 ins:∀ i∈t.Ins,InOk i
 outs:∀ o∈t.Outs,OutOk o
 t:InR .u32 t.Time
structure Few (a b:Nat) (t:Tx):Prop where
 ins:t.Ins.length≤a
 outs:t.Outs.length≤a
 key:∀ i∈t.Ins,i.Key.length≤b
theorem Few.mono {a b c d:Nat}{t:Tx}(h:Few a b t)(h1:a≤c)(h2:b≤d):Few c d t:=⟨Nat.le_trans h.ins h1,Nat.le_trans h.outs h1,fun i hi=>Nat.le_trans (h.key i hi) h2⟩
def ib (i:In):List Int:=i.From.Tx++(lb i.From.N.toNat 4++(pt i.Key.length++(i.Key++lb i.Seq.toNat 4)))
def ob (o:Out):List Int:=lb o.Value.toNat 8++o.Lock
def tb (t:Tx):List Int:=lb t.Version.toNat 4++(pt t.Ins.length++((t.Ins.map ib).flatten++(pt t.Outs.length++((t.Outs.map ob).flatten++lb t.Time.toNat 4))))
theorem ib_len {i:In}(h:InOk i):(ib i).length=40+ln i.Key.length+i.Key.length:=by
 simp only [ib,List.length_append,h.tx,lb_len,pt_len];omega
theorem ob_len {o:Out}(h:OutOk o):(ob o).length=40:=by simp only [ob,List.length_append,h.lock,lb_len]
theorem flat_le {α:Type}(f:α→List Int)(b:Nat):∀ (l:List α),(∀ x∈l,(f x).length≤b)→(l.map f).flatten.length≤b * l.length
 | [],_=>by simp
 | x::l,h=>by
  have h1:=flat_le f b l fun y hy=>h y (by simp [hy])
  have h2:=h x (by simp)
  simp only [List.map_cons,List.flatten_cons,List.length_append,List.length_cons]
  rw [Nat.mul_add,Nat.mul_one];omega
theorem ins_le {t:Tx}(h:TxOk t){a:Nat}(hf:Few a 1000 t):(t.Ins.map ib).flatten.length≤2000 * t.Ins.length:=flat_le ib 2000 t.Ins fun i hi=>by
 rw [ib_len (h.ins i hi)]
 have:=(ln_le i.Key.length).2
 have:=hf.key i hi
 omega
theorem outs_le {t:Tx}(h:TxOk t):(t.Outs.map ob).flatten.length≤40 * t.Outs.length:=flat_le ob 40 t.Outs fun o ho=>by rw [ob_len (h.outs o ho)];omega
theorem tb_le {t:Tx}(h:TxOk t)(hf:Few 100 1000 t):(tb t).length≤210000:=by
 have h1:=ins_le h hf
 have h2:=outs_le h
 have h3:=(ln_le t.Ins.length).2
 have h4:=(ln_le t.Outs.length).2
 have h5:=hf.ins
 have h6:=hf.outs
 simp only [tb,List.length_append,lb_len,pt_len]
 omega
theorem nat4 {x:Int}(h:InR .u32 x):x=((x.toNat:Nat):Int)∧x.toNat < 4294967296:=by obtain ⟨a,b⟩:=h;omega
theorem nat8 {x:Int}(h:InR .u64 x):x=((x.toNat:Nat):Int)∧x.toNat < 18446744073709551616:=by obtain ⟨a,b⟩:=h;omega
theorem getD_mem {α:Type}{l:List α}{d:α}{i:Nat}(h:i < l.length):l.getD i d∈l:=by rw [gd l d h];exact List.getElem_mem h
theorem flat_next {α:Type}(f:α→List Int)(l:List α)(d:α)(i:Nat)(h:i < l.length):((l.take (i+1)).map f).flatten=((l.take i).map f).flatten++f (l.getD i d):=by
 rw [← take_next l i d h];simp
theorem take_few {α:Type}(f:α→List Int)(b:Nat)(l:List α)(h:∀ x∈l,(f x).length≤b)(i:Nat)(hi:i≤l.length):((l.take i).map f).flatten.length≤b * l.length:=by
 have:=flat_le f b (l.take i) fun x hx=>h x (List.mem_of_mem_take hx)
 rw [List.length_take,Nat.min_eq_left hi] at this
 exact Nat.le_trans this (Nat.mul_le_mul_left b hi)
theorem tbytes_eq {t:Tx}(h:TxOk t)(hf:Few 100 1000 t):tx_Bytes.f t=some (tb t):=by
 obtain ⟨v1,v2⟩:=nat4 h.v
 obtain ⟨t1,t2⟩:=nat4 h.t
 have hi:=hf.ins
 have ho:=hf.outs
 have hil:∀ i∈t.Ins,(ib i).length≤2000:=fun i hi=>by
  rw [ib_len (h.ins i hi)]
  have:=(ln_le i.Key.length).2
  have:=hf.key i hi
  omega
 have hol:∀ o∈t.Outs,(ob o).length≤40:=fun o ho=>by rw [ob_len (h.outs o ho)];omega
 have lp:=(ln_le t.Ins.length).2
 have lq:=(ln_le t.Outs.length).2
 have L1:∀ P:List Int,P.length≤100→loopO (tx_Bytes.s0 t) (P,0)=some (P++(t.Ins.map ib).flatten):=fun P hP=>by
  refine loop_run (fun i=>(P++((t.Ins.take i).map ib).flatten,(i:Int))) t.Ins.length (by simp) (fun i hi=>?_) ?_
  ·have hm:=getD_mem (l:=t.Ins) (d:=default) hi
   have ok:=h.ins _ hm
   have hk:=hf.key _ hm
   have hb:=take_few ib 2000 t.Ins hil i (by omega)
   rw [flat_next ib t.Ins default i hi]
   simp only [tx_Bytes.s0,Int.toNat_natCast]
   generalize t.Ins.getD i default=x at *
   obtain ⟨n1,n2⟩:=nat4 ok.n
   obtain ⟨s1,s2⟩:=nat4 ok.seq
   have ltx:=ok.tx
   have lk:=(ln_le x.Key.length).2
   have hf4:=four_eq (P++((t.Ins.take i).map ib).flatten++x.From.Tx) x.From.N.toNat n2 (by simp only [List.length_append];omega)
   have hp:=put_eq (P++((t.Ins.take i).map ib).flatten++x.From.Tx++lb x.From.N.toNat 4) x.Key.length (by omega) (by simp only [List.length_append,lb_len];omega)
   have hf5:=four_eq (P++((t.Ins.take i).map ib).flatten++x.From.Tx++lb x.From.N.toNat 4++pt x.Key.length++x.Key) x.Seq.toNat s2 (by simp only [List.length_append,lb_len,pt_len];omega)
   rw [← n1] at hf4
   rw [← s1] at hf5
   rw [if_pos (by omega),if_pos (by omega),if_pos (by simp only [List.length_append];omega),hf4,Option.bind_some,wu64 (by omega) (by omega),hp,Option.bind_some,if_pos (by simp only [List.length_append,lb_len,pt_len];omega),hf5,Option.bind_some,winc i (by omega)]
   simp only [ib,List.append_assoc]
  ·simp only [tx_Bytes.s0]
   rw [if_neg (by omega),List.take_length]
 have L2:∀ P:List Int,P.length≤300000→loopO (tx_Bytes.s1 t) (P,0)=some (P++(t.Outs.map ob).flatten):=fun P hP=>by
  refine loop_run (fun i=>(P++((t.Outs.take i).map ob).flatten,(i:Int))) t.Outs.length (by simp) (fun i hi=>?_) ?_
  ·have hm:=getD_mem (l:=t.Outs) (d:=default) hi
   have ok:=h.outs _ hm
   have hb:=take_few ob 40 t.Outs hol i (by omega)
   rw [flat_next ob t.Outs default i hi]
   simp only [tx_Bytes.s1,Int.toNat_natCast]
   generalize t.Outs.getD i default=x at *
   obtain ⟨n1,n2⟩:=nat8 ok.val
   have ltx:=ok.lock
   have h8:=eight_eq (P++((t.Outs.take i).map ob).flatten) x.Value.toNat (by simp only [List.length_append];omega)
   rw [← n1] at h8
   rw [if_pos (by omega),if_pos (by omega),h8,Option.bind_some,if_pos (by simp only [List.length_append,lb_len];omega),winc i (by omega)]
   simp only [ob,List.append_assoc]
  ·simp only [tx_Bytes.s1]
   rw [if_neg (by omega),List.take_length]
 have hI:=flat_le ib 2000 t.Ins hil
 have hO:=flat_le ob 40 t.Outs hol
 have f1:=four_eq [] t.Version.toNat v2 (by simp)
 rw [← v1] at f1
 have p1:=put_eq (lb t.Version.toNat 4) t.Ins.length (by omega) (by rw [lb_len];omega)
 have p2:=put_eq (lb t.Version.toNat 4++pt t.Ins.length++(t.Ins.map ib).flatten) t.Outs.length (by omega) (by simp only [List.length_append,lb_len,pt_len];omega)
 have f2:=four_eq (lb t.Version.toNat 4++pt t.Ins.length++(t.Ins.map ib).flatten++pt t.Outs.length++(t.Outs.map ob).flatten) t.Time.toNat t2 (by simp only [List.length_append,lb_len,pt_len];omega)
 rw [← t1] at f2
 simp only [tx_Bytes.f]
 rw [f1,Option.bind_some,List.nil_append,wu64 (x:=(t.Ins.length:Int)) (by omega) (by omega),p1,Option.bind_some,L1 _ (by simp only [List.length_append,lb_len,pt_len];omega),Option.bind_some,wu64 (x:=(t.Outs.length:Int)) (by omega) (by omega),p2,Option.bind_some,L2 _ (by simp only [List.length_append,lb_len,pt_len];omega),Option.bind_some,f2,Option.bind_some]
 simp only [tb,List.append_assoc]
def inM:Stp In:=bnd h32 fun h=>bnd (wh 4) fun n=>bnd (nm 80) fun k=>bnd (by_ (k:Int)) fun b=>bnd (wh 4) fun q=>ret ⟨⟨h,(n:Int)⟩,b,(q:Int)⟩
def outM:Stp Out:=bnd (wh 8) fun v=>bnd h32 fun h=>ret ⟨(v:Int),h⟩
def txM:Stp Tx:=bnd (wh 4) fun v=>bnd (nm 50) fun n=>bnd (rpt n inM) fun ins=>bnd (nm 50) fun m=>bnd (rpt m outM) fun outs=>bnd (wh 4) fun t=>ret ⟨(v:Int),ins,outs,(t:Int)⟩
theorem ext_in:Ext inM:=ext_bnd ext_h32 fun _=>ext_bnd (ext_wh 4) fun _=>ext_bnd (ext_nm 80) fun _=>ext_bnd (ext_by _) fun _=>ext_bnd (ext_wh 4) fun _=>ext_ret _
theorem ext_out:Ext outM:=ext_bnd (ext_wh 8) fun _=>ext_bnd ext_h32 fun _=>ext_ret _
theorem ext_tx:Ext txM:=ext_bnd (ext_wh 4) fun _=>ext_bnd (ext_nm 50) fun _=>ext_bnd (ext_rpt ext_in _) fun _=>ext_bnd (ext_nm 50) fun _=>ext_bnd (ext_rpt ext_out _) fun _=>ext_bnd (ext_wh 4) fun _=>ext_ret _
theorem rpt_succ {α:Type}(f:Stp α):∀ (n:Nat) (s:List Int×Er),rpt (n+1) f s=((rpt n f s).1++[(f (rpt n f s).2).1],(f (rpt n f s).2).2)
 | 0,s=>rfl
 | n+1,s=>by
  have ih:=rpt_succ f n (f s).2
  have e1:rpt (n+2) f s=((f s).1::(rpt (n+1) f (f s).2).1,(rpt (n+1) f (f s).2).2):=rfl
  have e2:rpt (n+1) f s=((f s).1::(rpt n f (f s).2).1,(rpt n f (f s).2).2):=rfl
  rw [e1,ih,e2];rfl
theorem rpt_len {α:Type}(f:Stp α):∀ (n:Nat) (s:List Int×Er),(rpt n f s).1.length=n
 | 0,s=>rfl
 | n+1,s=>by rw [rpt_succ,List.length_append,rpt_len f n s];rfl
def ztx:Tx:=⟨0,[],[],0⟩
theorem bnd_eq {α β:Type}(f:Stp α)(g:α→Stp β)(s:List Int×Er):bnd f g s=g (f s).1 (f s).2:=rfl
theorem in_prog {r:cRd}{q:List Int×Er}(h:Rep r q):∃ r3 r4 r5 r6 r7,cR_Hash.f r=some r3∧cR_Four.f r3.2=some r4∧cR_Num.f r4.2 80=some r5∧cR_Bytes.f r5.2 (IntKind.i64.wrap r5.1)=some r6∧cR_Four.f r6.2=some r7∧(inM q).1=(⟨(⟨r3.1,r4.1⟩:Point),r6.1,r7.1⟩:In)∧Rep r7.2 (inM q).2:=by
 obtain ⟨r3,e3,p3⟩:=rhash_eq h
 unfold inM
 rw [bnd_eq]
 generalize h32 q=w1 at *
 obtain ⟨r4,e4,p4⟩:=rfour_eq p3
 rw [bnd_eq]
 generalize wh 4 w1.2=w2 at *
 obtain ⟨r5,e5,p5⟩:=num_eq p4 80
 have hk:=nm_le 80 w2.2
 rw [show ((80:Nat):Int)=80 from rfl] at hk
 rw [bnd_eq]
 generalize nm 80 w2.2=w3 at *
 obtain ⟨r6,e6,p6⟩:=rbytes_eq p5 ((w3.1:Nat):Int)
 rw [bnd_eq]
 generalize by_ ((w3.1:Nat):Int) w3.2=w4 at *
 obtain ⟨r7,e7,p7⟩:=rfour_eq p6
 rw [bnd_eq]
 generalize wh 4 w4.2=w5 at *
 have hw:IntKind.i64.wrap ((w3.1:Nat):Int)=((w3.1:Nat):Int):=w64 (by omega) (by omega)
 rw [← hw] at e6
 exact ⟨_,_,_,_,_,e3,e4,e5,e6,e7,rfl,p7⟩
theorem out_prog {r:cRd}{q:List Int×Er}(h:Rep r q):∃ r3 r4,cR_Eight.f r=some r3∧cR_Hash.f r3.2=some r4∧(outM q).1=(⟨r3.1,r4.1⟩:Out)∧Rep r4.2 (outM q).2:=by
 obtain ⟨r3,e3,p3⟩:=reight_eq h
 unfold outM
 rw [bnd_eq]
 generalize wh 8 q=w1 at *
 obtain ⟨r4,e4,p4⟩:=rhash_eq p3
 rw [bnd_eq]
 generalize h32 w1.2=w2 at *
 exact ⟨_,_,e3,e4,rfl,p4⟩
theorem ins_run {r:cRd}{q:List Int×Er}(h:Rep r q)(n:Nat)(hn:n≤50)(x:cRd) :
  ∃ r',loopO (tx_Take.s0 ((n:Int),x)) (0,r.b,r.at_,r.err,[])=some r'∧r'.1=(rpt n inM q).1∧Rep ⟨r'.2.1,r'.2.2.1,r'.2.2.2⟩ (rpt n inM q).2:=by
 refine loop_exists2 (fun i s=>s.1=(i:Int)∧Rep ⟨s.2.1,s.2.2.1,s.2.2.2.1⟩ (rpt i inM q).2∧s.2.2.2.2=(rpt i inM q).1) _ n ⟨rfl,h,rfl⟩ ?_ ?_
 ·rintro i hi ⟨s1,s2,s3,s4,s5⟩ ⟨h1,h2,h3⟩
  simp only at h1 h2 h3
  subst h1
  have hl:=rpt_len inM i q
  have hsucc:=rpt_succ inM i q
  rw [hsucc]
  rw [← h3] at hl ⊢
  generalize (rpt i inM q).2=z at h2 ⊢
  obtain ⟨r3,r4,r5,r6,r7,e3,e4,e5,e6,e7,ex,p7⟩:=in_prog h2
  rw [ex]
  simp only [tx_Take.s0]
  rw [if_pos (by omega),e3,Option.bind_some,e4,Option.bind_some,e5,Option.bind_some,e6,Option.bind_some,e7,Option.bind_some,if_pos (by omega),wu64 (by omega) (by omega)]
  exact ⟨_,rfl,by simp only;omega,p7,rfl⟩
 ·rintro ⟨s1,s2,s3,s4,s5⟩ ⟨h1,h2,h3⟩
  simp only at h1 h2 h3
  subst h1
  simp only [tx_Take.s0]
  rw [if_neg (by omega)]
  exact ⟨_,rfl,h3,h2⟩
theorem outs_run {r:cRd}{q:List Int×Er}(h:Rep r q)(n:Nat)(hn:n≤50)(x:cRd) :
  ∃ r',loopO (tx_Take.s1 ((n:Int),x)) (0,r.b,r.at_,r.err,[])=some r'∧r'.1=(rpt n outM q).1∧Rep ⟨r'.2.1,r'.2.2.1,r'.2.2.2⟩ (rpt n outM q).2:=by
 refine loop_exists2 (fun i s=>s.1=(i:Int)∧Rep ⟨s.2.1,s.2.2.1,s.2.2.2.1⟩ (rpt i outM q).2∧s.2.2.2.2=(rpt i outM q).1) _ n ⟨rfl,h,rfl⟩ ?_ ?_
 ·rintro i hi ⟨s1,s2,s3,s4,s5⟩ ⟨h1,h2,h3⟩
  simp only at h1 h2 h3
  subst h1
  have hl:=rpt_len outM i q
  have hsucc:=rpt_succ outM i q
  rw [hsucc]
  rw [← h3] at hl ⊢
  generalize (rpt i outM q).2=z at h2 ⊢
  obtain ⟨r3,r4,e3,e4,ex,p4⟩:=out_prog h2
  rw [ex]
  simp only [tx_Take.s1]
  rw [if_pos (by omega),e3,Option.bind_some,e4,Option.bind_some,if_pos (by omega),wu64 (by omega) (by omega)]
  exact ⟨_,rfl,by simp only;omega,p4,rfl⟩
 ·rintro ⟨s1,s2,s3,s4,s5⟩ ⟨h1,h2,h3⟩
  simp only at h1 h2 h3
  subst h1
  simp only [tx_Take.s1]
  rw [if_neg (by omega)]
  exact ⟨_,rfl,h3,h2⟩
theorem txtake_eq {r:cRd}{s:List Int×Er}(h:Rep r s):∃ r',tx_Take.f r=some ((if (txM s).2.2≠.b 0 then ztx else (txM s).1),r')∧Rep r' (txM s).2:=by
 obtain ⟨r1,e1,p1⟩:=rfour_eq h
 simp only [tx_Take.f]
 rw [e1,Option.bind_some]
 unfold txM
 rw [bnd_eq]
 generalize wh 4 s=w1 at *
 obtain ⟨r2,e2,p2⟩:=num_eq p1 50
 have k2:=nm_le 50 w1.2
 rw [show ((50:Nat):Int)=50 from rfl] at k2
 rw [e2,Option.bind_some,bnd_eq]
 generalize nm 50 w1.2=w2 at *
 obtain ⟨r3,e3,q3,p3⟩:=ins_run p2 _ k2 r2
 rw [e3,Option.bind_some,bnd_eq]
 generalize rpt w2.1 inM w2.2=w3 at *
 obtain ⟨r4,e4,p4⟩:=num_eq p3 50
 have k4:=nm_le 50 w3.2
 rw [show ((50:Nat):Int)=50 from rfl] at k4
 rw [e4,Option.bind_some,bnd_eq]
 generalize nm 50 w3.2=w4 at *
 obtain ⟨r5,e5,q5,p5⟩:=outs_run p4 _ k4 r4
 rw [e5,Option.bind_some,bnd_eq]
 generalize rpt w4.1 outM w4.2=w5 at *
 obtain ⟨r6,e6,p6⟩:=rfour_eq p5
 rw [e6,Option.bind_some,err_eq p6,Option.bind_some,bnd_eq]
 generalize wh 4 w5.2=w6 at *
 refine ⟨r6,?_,p6⟩
 show (if w6.2.2≠Er.b 0 then some ((⟨0,[],[],0⟩:Tx),r6) else some ((⟨(w1.1:Int),r3.1,r5.1,(w6.1:Int)⟩:Tx),r6))=some ((if w6.2.2≠Er.b 0 then ztx else (⟨(w1.1:Int),w3.1,w5.1,(w6.1:Int)⟩:Tx)),r6)
 rw [q3,q5]
 by_cases hc:w6.2.2=.b 0
 ·rw [if_neg (fun h=>h hc),if_neg (fun h=>h hc)]
 ·rw [if_pos hc,if_pos hc];rfl
theorem can_in:Can inM ib (fun i=>InOk i∧i.Key.length≤80):=by
 intro l hl h
 unfold inM at h ⊢
 obtain ⟨x,l1,⟨x1,x2⟩,rfl,b1,e1⟩:=can_step can_h32 (fun _=>ext_bnd (ext_wh 4) fun _=>ext_bnd (ext_nm 80) fun _=>ext_bnd (ext_by _) fun _=>ext_bnd (ext_wh 4) fun _=>ext_ret _) hl h
 rw [e1] at h ⊢
 obtain ⟨n,l2,hn,rfl,b2,e2⟩:=can_step (can_wh 4) (fun _=>ext_bnd (ext_nm 80) fun _=>ext_bnd (ext_by _) fun _=>ext_bnd (ext_wh 4) fun _=>ext_ret _) b1 h
 rw [e2] at h ⊢
 have cn:=can_nm 80
 rw [show ((80:Nat):Int)=80 from rfl] at cn
 obtain ⟨k,l3,hk,rfl,b3,e3⟩:=can_step cn (fun _=>ext_bnd (ext_by _) fun _=>ext_bnd (ext_wh 4) fun _=>ext_ret _) b2 h
 rw [e3] at h ⊢
 obtain ⟨b,l4,⟨c1,c2⟩,rfl,b4,e4⟩:=can_step (can_by k) (fun _=>ext_bnd (ext_wh 4) fun _=>ext_ret _) b3 h
 rw [e4] at h ⊢
 obtain ⟨q,l5,hq,rfl,b5,e5⟩:=can_step (can_wh 4) (fun _=>ext_ret _) b4 h
 rw [e5]
 refine ⟨?_,⟨x1,x2,?_,c2,?_⟩,?_⟩
 ·simp only [ret,ib,Int.toNat_natCast,c1,List.append_assoc]
 ·simp only [ret,InR];omega
 ·simp only [ret,InR];omega
 ·simp only [ret];omega
theorem can_out:Can outM ob OutOk:=by
 intro l hl h
 unfold outM at h ⊢
 obtain ⟨v,l1,hv,rfl,b1,e1⟩:=can_step (can_wh 8) (fun _=>ext_bnd ext_h32 fun _=>ext_ret _) hl h
 rw [e1] at h ⊢
 obtain ⟨x,l2,⟨x1,x2⟩,rfl,b2,e2⟩:=can_step can_h32 (fun _=>ext_ret _) b1 h
 rw [e2]
 refine ⟨?_,?_,x1,x2⟩
 ·simp only [ret,ob,Int.toNat_natCast,List.append_assoc]
 ·simp only [ret,InR];omega
theorem can_rpt {α:Type}{f:Stp α}{en:α→List Int}{p:α→Prop}(hf:Can f en p)(hx:Ext f):∀ n,Can (rpt n f) (fun xs=>(xs.map en).flatten) (fun xs=>xs.length=n∧∀ x∈xs,p x)
 | 0=>fun l hl h=>⟨rfl,rfl,fun x hx=>by cases hx⟩
 | n+1=>fun l hl h=>by
  unfold rpt at h ⊢
  obtain ⟨x,l1,px,rfl,b1,e1⟩:=can_step hf (fun _=>ext_bnd (ext_rpt hx n) fun _=>ext_ret _) hl h
  rw [e1] at h ⊢
  obtain ⟨xs,l2,⟨q1,q2⟩,rfl,b2,e2⟩:=can_step (can_rpt hf hx n) (fun _=>ext_ret _) b1 h
  rw [e2]
  refine ⟨?_,?_,?_⟩
  ·simp only [ret,List.map_cons,List.flatten_cons,List.append_assoc]
  ·simp only [ret,List.length_cons,q1]
  ·simp only [ret]
   intro y hy
   rcases List.mem_cons.1 hy with rfl | hy
   ·exact px
   ·exact q2 y hy
theorem can_tx:Can txM tb (fun t=>TxOk t∧Few 50 80 t):=by
 intro l hl h
 unfold txM at h ⊢
 have cn:=can_nm 50
 rw [show ((50:Nat):Int)=50 from rfl] at cn
 obtain ⟨v,l1,hv,rfl,b1,e1⟩:=can_step (can_wh 4) (fun _=>ext_bnd (ext_nm 50) fun _=>ext_bnd (ext_rpt ext_in _) fun _=>ext_bnd (ext_nm 50) fun _=>ext_bnd (ext_rpt ext_out _) fun _=>ext_bnd (ext_wh 4) fun _=>ext_ret _) hl h
 rw [e1] at h ⊢
 obtain ⟨n,l2,hn,rfl,b2,e2⟩:=can_step cn (fun _=>ext_bnd (ext_rpt ext_in _) fun _=>ext_bnd (ext_nm 50) fun _=>ext_bnd (ext_rpt ext_out _) fun _=>ext_bnd (ext_wh 4) fun _=>ext_ret _) b1 h
 rw [e2] at h ⊢
 obtain ⟨ins,l3,⟨i1,i2⟩,rfl,b3,e3⟩:=can_step (can_rpt can_in ext_in n) (fun _=>ext_bnd (ext_nm 50) fun _=>ext_bnd (ext_rpt ext_out _) fun _=>ext_bnd (ext_wh 4) fun _=>ext_ret _) b2 h
 rw [e3] at h ⊢
 obtain ⟨m,l4,hm,rfl,b4,e4⟩:=can_step cn (fun _=>ext_bnd (ext_rpt ext_out _) fun _=>ext_bnd (ext_wh 4) fun _=>ext_ret _) b3 h
 rw [e4] at h ⊢
 obtain ⟨outs,l5,⟨o1,o2⟩,rfl,b5,e5⟩:=can_step (can_rpt can_out ext_out m) (fun _=>ext_bnd (ext_wh 4) fun _=>ext_ret _) b4 h
 rw [e5] at h ⊢
 obtain ⟨t,l6,ht,rfl,b6,e6⟩:=can_step (can_wh 4) (fun _=>ext_ret _) b5 h
 rw [e6]
 refine ⟨?_,⟨?_,fun i hi=>(i2 i hi).1,o2,?_⟩,⟨?_,?_,fun i hi=>(i2 i hi).2⟩⟩
 ·simp only [ret,tb,Int.toNat_natCast,i1,o1,List.append_assoc]
 ·simp only [ret,InR];omega
 ·simp only [ret,InR];omega
 ·simp only [ret];omega
 ·simp only [ret];omega
theorem look_run {ρ:Type}{step:Int→Option (Int⊕ρ)}(n:Nat)(p:Nat→Prop)[DecidablePred p](yes no:ρ)(hn:n < 9223372036854775807)
  (hs:∀ i,i < n→step (i:Int)=if p i then some (.inl (IntKind.i64.wrap ((i:Int)+1))) else some (.inr no)) (he:step (n:Int)=some (.inr yes)):loopO step 0=some (if ∀ i,i < n→p i then yes else no):=by
 have key:∀ m k,m+k=n→(∀ i,i < k→p i)→loopO step (k:Int)=some (if ∀ i,i < n→p i then yes else no):=by
  intro m
  induction m with
  | zero =>
   intro k e h
   obtain rfl:k=n:=by omega
   rw [loopO_inr he,if_pos h]
  | succ m ih =>
   intro k e h
   have h1:=hs k (by omega)
   by_cases hp:p k
   ·rw [if_pos hp,winc k (by omega)] at h1
    rw [loopO_inl h1]
    refine ih (k+1) (by omega) fun i hi=>?_
    rcases Nat.lt_or_ge i k with h2 | h2
    ·exact h i h2
    ·obtain rfl:i=k:=by omega
     exact hp
   ·rw [if_neg hp] at h1
    rw [loopO_inr h1,if_neg (fun h2=>hp (h2 k (by omega)))]
 exact key n 0 (by omega) (by simp)
theorem all_getD {α:Type}(l:List α)(d:α)(p:α→Prop):(∀ i,i < l.length→p (l.getD i d)) ↔ ∀ x∈l,p x:=by
 constructor
 ·intro h x hx
  obtain ⟨i,hi,rfl⟩:=List.getElem_of_mem hx
  have:=h i hi
  rwa [gd l d hi] at this
 ·intro h i hi
  rw [gd l d hi]
  exact h _ (List.getElem_mem hi)
theorem samepoint_eq (a b:Point)(ha:a.Tx.length=32)(hb:b.Tx.length=32):q0_SamePoint.f a b=some (decide (a=b)):=by
 simp only [q0_SamePoint.f]
 rw [samehash_eq _ _ ha hb]
 obtain ⟨a1,a2⟩:=a
 obtain ⟨b1,b2⟩:=b
 simp only [Option.bind_some,Point.mk.injEq,decide_eq_true_eq]
 by_cases h1:a1=b1 <;> by_cases h2:a2=b2 <;> simp [h1,h2]
noncomputable instance (a b:Nat) (t:Tx):Decidable (Few a b t):=Classical.propDecidable _
def nullP:Point:=⟨List.replicate 32 0,4294967295⟩
theorem point_iff (a b:Point):a=b ↔ (a.Tx=b.Tx∧a.N=b.N):=by
 obtain ⟨a1,a2⟩:=a
 obtain ⟨b1,b2⟩:=b
 simp
theorem out_iff (x y:Out):x=y ↔ (x.Value=y.Value∧x.Lock=y.Lock):=by
 obtain ⟨x1,x2⟩:=x
 obtain ⟨y1,y2⟩:=y
 simp
theorem in_iff (x y:In):x=y ↔ ((x.From.Tx=y.From.Tx∧x.From.N=y.From.N)∧x.Seq=y.Seq∧x.Key=y.Key):=by
 obtain ⟨⟨x1,x2⟩,x3,x4⟩:=x
 obtain ⟨⟨y1,y2⟩,y3,y4⟩:=y
 simp only [In.mk.injEq,Point.mk.injEq]
 constructor
 ·rintro ⟨a,b,c⟩;exact ⟨a,c,b⟩
 ·rintro ⟨a,b,c⟩;exact ⟨a,c,b⟩
theorem tx_iff (t u:Tx):t=u ↔ (t.Version=u.Version∧t.Time=u.Time∧t.Outs=u.Outs∧t.Ins=u.Ins):=by
 obtain ⟨a,b,c,d⟩:=t
 obtain ⟨e,f,g,h⟩:=u
 simp only [Tx.mk.injEq]
 constructor
 ·rintro ⟨a,b,c,d⟩;exact ⟨a,d,c,b⟩
 ·rintro ⟨a,b,c,d⟩;exact ⟨a,d,c,b⟩
theorem sameout_eq {x y:Out}(h:OutOk x)(k:OutOk y):q0_SameOut.f x y=some (decide (x=y)):=by
 simp only [q0_SameOut.f]
 have hi:=out_iff x y
 by_cases c1:x.Value=y.Value
 ·rw [if_pos c1,samehash_eq _ _ h.lock k.lock,Option.bind_some,Option.bind_some]
  exact congrArg some (decide_eq_decide.2 ⟨fun h=>hi.2 ⟨c1,h⟩,fun h=>(hi.1 h).2⟩)
 ·rw [if_neg c1,Option.bind_some,decide_eq_false (fun h=>c1 (hi.1 h).1)]
theorem samein_eq {x y:In}(h:InOk x)(k:InOk y)(hl:x.Key.length≤1000000):q0_SameIn.f x y=some (decide (x=y)):=by
 simp only [q0_SameIn.f]
 have hi:=in_iff x y
 rw [samepoint_eq _ _ h.tx k.tx,Option.bind_some]
 have hp:=point_iff x.From y.From
 by_cases c1:x.From=y.From
 ·rw [if_pos (decide_eq_true c1),samebytes_eq' _ _ (by omega),Option.bind_some]
  by_cases c2:x.Key=y.Key
  ·rw [if_pos (decide_eq_true c2),Option.bind_some]
   exact congrArg some (decide_eq_decide.2 ⟨fun h=>hi.2 ⟨hp.1 c1,h,c2⟩,fun h=>(hi.1 h).2.1⟩)
  ·rw [if_neg (by simp only [decide_eq_true_eq];exact c2),Option.bind_some,decide_eq_false (fun h=>c2 (hi.1 h).2.2)]
 ·rw [if_neg (by simp only [decide_eq_true_eq];exact c1),Option.bind_some,decide_eq_false (fun h=>c1 (hp.2 (hi.1 h).1))]
theorem sametx_eq {t u:Tx}(h:TxOk t)(k:TxOk u)(h1:t.Ins.length≤1000000)(h2:t.Outs.length≤1000000)(h3:∀ i∈t.Ins,i.Key.length≤1000000):q0_SameTx.f t u=some (decide (t=u)):=by
 simp only [q0_SameTx.f]
 have hi:=tx_iff t u
 by_cases c1:t.Version=u.Version
 ·rw [if_neg (fun h=>h c1)]
  by_cases c2:t.Time=u.Time
  ·rw [if_neg (fun h=>h c2)]
   by_cases c3:t.Ins.length=u.Ins.length
   ·rw [if_neg (by omega),Option.bind_some]
    by_cases c4:t.Outs.length=u.Outs.length
    ·rw [if_neg (by simp only [decide_eq_true_eq];omega)]
     have e1:loopO (q0_SameTx.s1 t u) 0=some (if ∀ i,i < t.Outs.length→t.Outs.getD i default=u.Outs.getD i default then (Sum.inr true:Int⊕Bool) else Sum.inr false):=look_run t.Outs.length (fun i=>t.Outs.getD i default=u.Outs.getD i default) (Sum.inr true) (Sum.inr false) (by omega) (fun i hi=>by
      simp only [q0_SameTx.s1,Int.toNat_natCast]
      rw [if_pos (by omega),if_pos (by omega),if_pos (by omega),sameout_eq (h.outs _ (getD_mem hi)) (k.outs _ (getD_mem (show i < u.Outs.length by omega))),Option.bind_some]
      by_cases c:t.Outs.getD i default=u.Outs.getD i default
      ·rw [if_pos c,if_pos (decide_eq_true c)]
      ·rw [if_neg c,if_neg (by simp only [decide_eq_true_eq];exact c)]) (by simp [q0_SameTx.s1])
     have e2:loopO (q0_SameTx.s1 t u) 0=some (.inr (decide (t.Outs=u.Outs))):=by
      rw [e1]
      have e:=ext_iff t.Outs u.Outs default c4
      by_cases c:t.Outs=u.Outs
      ·rw [if_pos (e.2 c),decide_eq_true c]
      ·rw [if_neg (fun h=>c (e.1 h)),decide_eq_false c]
     rw [look_run t.Ins.length (fun i=>t.Ins.getD i default=u.Ins.getD i default) (decide (t.Outs=u.Outs)) false (by omega) (fun i hi=>by
      simp only [q0_SameTx.s0,Int.toNat_natCast]
      rw [if_pos (by omega),if_pos (by omega),if_pos (by omega),samein_eq (h.ins _ (getD_mem hi)) (k.ins _ (getD_mem (show i < u.Ins.length by omega))) (h3 _ (getD_mem hi)),Option.bind_some]
      by_cases c:t.Ins.getD i default=u.Ins.getD i default
      ·rw [if_pos c,if_pos (decide_eq_true c)]
      ·rw [if_neg c,if_neg (by simp only [decide_eq_true_eq];exact c)]) (by
      simp only [q0_SameTx.s0]
      rw [if_neg (by omega),e2])]
     have e:=ext_iff t.Ins u.Ins default c3
     by_cases c:t.Ins=u.Ins
     ·rw [if_pos (e.2 c)]
      exact congrArg some (decide_eq_decide.2 ⟨fun h=>hi.2 ⟨c1,c2,h,c⟩,fun h=>(hi.1 h).2.2.1⟩)
     ·rw [if_neg (fun h=>c (e.1 h)),decide_eq_false (fun h=>c (hi.1 h).2.2.2)]
    ·rw [if_pos (by simp only [decide_eq_true_eq];omega),decide_eq_false (fun h=>c4 (by rw [h]))]
   ·rw [if_pos (by omega),Option.bind_some,if_pos rfl,decide_eq_false (fun h=>c3 (by rw [h]))]
  ·rw [if_pos c2,Option.bind_some,if_pos rfl,decide_eq_false (fun h=>c2 (hi.1 h).2.1)]
 ·rw [if_pos c1,Option.bind_some,if_pos rfl,decide_eq_false (fun h=>c1 (hi.1 h).1)]
def goSum:Int→List Int→Int×Bool
 | s,[]=>(s,true)
 | s,x::r=>if 2100000000000000 < s+x then (0,false) else goSum (s+x) r
theorem sum_loop (xs:List Int)(h:xs.length≤140737488355328)(hx:∀ x∈xs,InR .u64 x):∀ (r pre:List Int) (s:Int),xs=pre++r→0≤s→s≤2100000000000000 →
  loopO (compact_Sum.s0 xs) (s,(pre.length:Int))=some (goSum s r)
 | [],pre,s,e,_,_=>by
  obtain rfl:xs=pre:=by simpa using e
  exact loopO_inr (by simp [compact_Sum.s0,goSum])
 | x::r,pre,s,e,h0,h1=>by
  have hr:InR .u64 x:=hx x (by simp [e])
  obtain ⟨a,b⟩:=hr
  have h3:=mid_lt pre r x
  have ih:=sum_loop xs h hx r (pre++[x]) (s+x) (by simp [e]) (by omega)
  subst e
  unfold goSum
  by_cases hc:2100000000000000 < s+x
  ·rw [if_pos hc]
   refine loopO_inr ?_
   simp only [compact_Sum.s0,if_pos h3.2,if_pos h3,getD_mid]
   rw [if_pos (by rw [wu64 (by omega) (by omega)];omega)]
  ·rw [if_neg hc,loopO_inl (s':=(s+x,((pre++[x]).length:Int)))]
   ·exact ih (by omega)
   ·simp only [compact_Sum.s0,if_pos h3.2,if_pos h3,getD_mid]
    rw [if_neg (by rw [wu64 (by omega) (by omega)];omega),wu64 (by omega) (by omega),mid_next pre r x h]
theorem sum_eq (xs:List Int)(h:xs.length≤140737488355328)(hx:∀ x∈xs,InR .u64 x):compact_Sum.f xs=some (goSum 0 xs) :=
 sum_loop xs h hx xs [] 0 rfl (by omega) (by omega)
theorem sum1_loop (xs:List Int)(h:xs.length≤140737488355328)(hx:∀ x∈xs,InR .u64 x):∀ (r pre:List Int) (s:Int),xs=pre++r→0≤s→s≤2100000000000000 →
  loopO (q1_Sum.s0 xs) (s,(pre.length:Int))=some (goSum s r)
 | [],pre,s,e,_,_=>by
  obtain rfl:xs=pre:=by simpa using e
  exact loopO_inr (by simp [q1_Sum.s0,goSum])
 | x::r,pre,s,e,h0,h1=>by
  have hr:InR .u64 x:=hx x (by simp [e])
  obtain ⟨a,b⟩:=hr
  have h3:=mid_lt pre r x
  have ih:=sum1_loop xs h hx r (pre++[x]) (s+x) (by simp [e]) (by omega)
  subst e
  unfold goSum
  by_cases hc:2100000000000000 < s+x
  ·rw [if_pos hc]
   refine loopO_inr ?_
   simp only [q1_Sum.s0,if_pos h3.2,if_pos h3,getD_mid]
   by_cases hb:2100000000000000 < x
   ·rw [if_pos hb];simp
   ·rw [if_neg hb,wu64 (by omega) (by omega)];simp [hc]
  ·rw [if_neg hc,loopO_inl (s':=(s+x,((pre++[x]).length:Int)))]
   ·exact ih (by omega)
   ·simp only [q1_Sum.s0,if_pos h3.2,if_pos h3,getD_mid]
    rw [if_neg (by omega),wu64 (by omega) (by omega),mid_next pre r x h]
    simp [hc]
theorem sum1_eq (xs:List Int)(h:xs.length≤140737488355328)(hx:∀ x∈xs,InR .u64 x):q1_Sum.f xs=some (goSum 0 xs) :=
 sum1_loop xs h hx xs [] 0 rfl (by omega) (by omega)
theorem in_ok {μ:Store}{x:In}{c:List Value}(h:RIn μ x c):InOk x:=by
 obtain ⟨v0,_,h1,h2,h3,h4⟩:=h
 exact ⟨h1.1,h1.2,h2,fun y hy=>slc_ints h3 y hy,h4⟩
theorem out_ok {μ:Store}{x:Out}{c:List Value}(h:ROut μ x c):OutOk x:=by
 obtain ⟨_,h1,h2⟩:=h
 exact ⟨h1,h2.1,h2.2⟩
theorem tx_ok {μ:Store}{x:Tx}{v0 v1:Value}(h:TxW μ x v0 v1):TxOk x:=by
 obtain ⟨h1,⟨c1,h2,_⟩,⟨c2,h3,_⟩,h4⟩:=h
 exact ⟨h1,els_all h2 fun y c hc=>in_ok hc,els_all h3 fun y c hc=>out_ok hc,h4⟩
theorem find_run {step:Int→Option (Int⊕Int)}(n:Nat)(p:Nat→Prop)[DecidablePred p](hn:n < 9223372036854775807)
  (hs:∀ i,i < n→step (i:Int)=if p i then some (.inr (i:Int)) else some (.inl (IntKind.i64.wrap ((i:Int)+1)))) (he:step (n:Int)=some (.inr (-1))):∃ r,loopO step 0=some r∧(0≤r ↔ ∃ i,i < n∧p i):=by
 have key:∀ m k,m+k=n→(∀ i,i < k→¬ p i)→∃ r,loopO step (k:Int)=some r∧(0≤r ↔ ∃ i,i < n∧p i):=by
  intro m
  induction m with
  | zero =>
   intro k e h
   obtain rfl:k=n:=by omega
   exact ⟨-1,loopO_inr he,⟨fun h=>by omega,fun ⟨i,h1,h2⟩=>absurd h2 (h i h1)⟩⟩
  | succ m ih =>
   intro k e h
   have h1:=hs k (by omega)
   by_cases hp:p k
   ·rw [if_pos hp] at h1
    exact ⟨k,loopO_inr h1,⟨fun _=>⟨k,by omega,hp⟩,fun _=>by omega⟩⟩
   ·rw [if_neg hp,winc k (by omega)] at h1
    rw [loopO_inl h1]
    refine ih (k+1) (by omega) fun i hi=>?_
    rcases Nat.lt_or_ge i k with h2 | h2
    ·exact h i h2
    ·obtain rfl:i=k:=by omega
     exact hp
 exact key n 0 (by omega) (by simp)
theorem ex_getD {α:Type}(l:List α)(d:α)(p:α→Prop):(∃ i,i < l.length∧p (l.getD i d)) ↔ ∃ x∈l,p x:=by
 constructor
 ·rintro ⟨i,hi,h⟩
  exact ⟨_,getD_mem hi,h⟩
 ·rintro ⟨x,hx,h⟩
  obtain ⟨i,hi,rfl⟩:=List.getElem_of_mem hx
  exact ⟨i,hi,by rw [gd l d hi];exact h⟩
theorem contains_key (l:List In)(hl:l.length≤1000000):slices_ContainsFunc_api_In_api_In_at_tx_Check_1.f l=some (decide (∃ i∈l,80 < i.Key.length)):=by
 obtain ⟨r,h1,h2⟩:=find_run (step:=slices_IndexFunc_api_In_api_In_at_tx_Check_1.s0 l) l.length (fun i=>80 < (l.getD i default).Key.length) (by omega) (fun i hi=>by
  simp only [slices_IndexFunc_api_In_api_In_at_tx_Check_1.s0,tx_Check_1.f,Int.toNat_natCast]
  rw [if_pos (by omega),if_pos (by omega),Option.bind_some]
  by_cases c:80 < (l.getD i default).Key.length
  ·rw [if_pos c,if_pos (by simp only [decide_eq_true_eq];omega)]
  ·rw [if_neg c,if_neg (by simp only [decide_eq_true_eq];omega)]) (by simp [slices_IndexFunc_api_In_api_In_at_tx_Check_1.s0])
 simp only [slices_ContainsFunc_api_In_api_In_at_tx_Check_1.f,slices_IndexFunc_api_In_api_In_at_tx_Check_1.f]
 rw [h1,Option.bind_some]
 exact congrArg some (decide_eq_decide.2 (h2.trans (ex_getD l default fun i=>80 < i.Key.length)))
theorem isnull_eq (p:Point):spend_IsNull.f p=some (decide (p=nullP)):=by
 simp only [spend_IsNull.f,spend_Null.f,Option.bind_some]
 exact congrArg some (decide_eq_decide.2 (point_iff p nullP).symm)
theorem contains_null (l:List In)(hl:l.length≤1000000):slices_ContainsFunc_api_In_api_In_at_tx_base_1.f l=some (decide (∃ i∈l,i.From=nullP)):=by
 obtain ⟨r,h1,h2⟩:=find_run (step:=slices_IndexFunc_api_In_api_In_at_tx_base_1.s0 l) l.length (fun i=>(l.getD i default).From=nullP) (by omega) (fun i hi=>by
  simp only [slices_IndexFunc_api_In_api_In_at_tx_base_1.s0,tx_base_1.f,Int.toNat_natCast]
  rw [if_pos (by omega),if_pos (by omega),isnull_eq,Option.bind_some,Option.bind_some]
  by_cases c:(l.getD i default).From=nullP
  ·rw [if_pos c,if_pos (decide_eq_true c)]
  ·rw [if_neg c,if_neg (by simp only [decide_eq_true_eq];exact c)]) (by simp [slices_IndexFunc_api_In_api_In_at_tx_base_1.s0])
 simp only [slices_ContainsFunc_api_In_api_In_at_tx_base_1.f,slices_IndexFunc_api_In_api_In_at_tx_base_1.f]
 rw [h1,Option.bind_some]
 exact congrArg some (decide_eq_decide.2 (h2.trans (ex_getD l default fun i=>i.From=nullP)))
theorem mget_put {K V:Type}[DecidableEq K](l:List (K×V))(k k':K)(v:V):mget (mput l k v) k'=if k=k' then some v else mget l k':=by
 induction l with
 | nil=>simp [mput,mget]
 | cons p l ih =>
  unfold mput
  by_cases h:p.1=k
  ·rw [if_pos h]
   subst h
   by_cases c:p.1=k'
   ·simp [mget,c]
   ·simp [mget,c]
  ·rw [if_neg h]
   simp only [mget]
   by_cases c:p.1=k'
   ·rw [if_pos c,if_pos c,if_neg (fun e=>h (c.trans e.symm))]
   ·rw [if_neg c,if_neg c,ih]
def frs (t:Tx):List Point:=t.Ins.map (·.From)
theorem frs_next (t:Tx)(i:Nat)(h:i < t.Ins.length):(t.Ins.take (i+1)).map (·.From)=(t.Ins.take i).map (·.From)++[(t.Ins.getD i default).From]:=by
 rw [← take_next t.Ins i default h];simp
theorem twice_loop (t:Tx)(hl:t.Ins.length≤1000000):∀ (m i:Nat) (s:List (Point×Bool)),m+i=t.Ins.length→(∀ k,((mget s k).getD false=true ↔ k∈(t.Ins.take i).map (·.From)))→((t.Ins.take i).map (·.From)).Nodup →
  loopO (tx_twice.s0 t) ((i:Int),s)=some (decide (¬ (frs t).Nodup)):=by
 intro m
 induction m with
 | zero =>
  intro i s e h hn
  obtain rfl:i=t.Ins.length:=by omega
  rw [List.take_length] at hn
  rw [loopO_inr (by simp only [tx_twice.s0];rw [if_neg (by omega)]),decide_eq_false (fun h=>h hn)]
 | succ m ih =>
  intro i s e h hn
  by_cases c:(t.Ins.getD i default).From∈(t.Ins.take i).map (·.From)
  ·rw [loopO_inr (by
    simp only [tx_twice.s0,Int.toNat_natCast]
    rw [if_pos (by omega),if_pos (by omega),if_pos ((h _).2 c)])]
   have h2:¬ (frs t).Nodup:=fun hd=>by
    have h3:((t.Ins.take (i+1)).map (·.From)).Nodup:=hd.sublist ((List.take_sublist _ _).map _)
    rw [frs_next t i (by omega)] at h3
    exact (List.nodup_append.1 h3).2.2 _ c _ (by simp) rfl
   rw [decide_eq_true h2]
  ·rw [loopO_inl (by
    simp only [tx_twice.s0,Int.toNat_natCast]
    rw [if_pos (by omega),if_pos (by omega),if_neg (fun h2=>c ((h _).1 h2)),winc i (by omega)])]
   refine ih (i+1) _ (by omega) (fun k=>?_) ?_
   ·rw [mget_put,frs_next t i (by omega)]
    by_cases ck:(t.Ins.getD i default).From=k
    ·rw [if_pos ck,← ck];simp
    ·rw [if_neg ck,h k,List.mem_append]
     refine ⟨.inl,fun h=>?_⟩
     rcases h with h | h
     ·exact h
     ·exact absurd (by simpa using h) (fun e=>ck (Eq.symm e))
   ·rw [frs_next t i (by omega)]
    refine List.nodup_append.2 ⟨hn,by simp,fun a ha b hb=>?_⟩
    have hb':b=(t.Ins.getD i default).From:=by simpa using hb
    intro e
    exact c (by rw [← hb',← e];exact ha)
theorem twice_eq' (t:Tx)(hl:t.Ins.length≤1000000):tx_twice.f t=some (decide (¬ (frs t).Nodup)):=by
 have:=twice_loop t hl t.Ins.length 0 [] (by omega) (fun k=>by simp [mget]) (by simp)
 exact this
theorem values_eq (t:Tx)(hl:t.Outs.length≤1000000):tx_values.f t=some (t.Outs.map (·.Value)):=by
 simp only [tx_values.f]
 rw [show loopO (tx_values.s0 t) ([],0)=_ from loop_run (step:=tx_values.s0 t) (fun i=>((t.Outs.take i).map (·.Value),(i:Int))) t.Outs.length (r:=t.Outs.map (·.Value)) rfl (fun i hi=>by
  simp only [tx_values.s0,Int.toNat_natCast]
  rw [if_pos (by omega),if_pos (by omega),if_pos (by simp;omega),winc i (by omega),← take_next t.Outs i default hi]
  simp) (by simp only [tx_values.s0];rw [if_neg (by omega),List.take_length])]
 rfl
theorem values1_eq (t:Tx)(hl:t.Outs.length≤1000000):q1_Values.f t=some (t.Outs.map (·.Value)):=by
 simp only [q1_Values.f]
 rw [show loopO (q1_Values.s0 t) ([],0)=_ from loop_run (step:=q1_Values.s0 t) (fun i=>((t.Outs.take i).map (·.Value),(i:Int))) t.Outs.length (r:=t.Outs.map (·.Value)) rfl (fun i hi=>by
  simp only [q1_Values.s0,Int.toNat_natCast]
  rw [if_pos (by omega),if_pos (by omega),if_pos (by simp;omega),winc i (by omega),← take_next t.Outs i default hi]
  simp) (by simp only [q1_Values.s0];rw [if_neg (by omega),List.take_length])]
 rfl
def vs (t:Tx):List Int:=t.Outs.map (·.Value)
theorem vs_in {t:Tx}(h:TxOk t):∀ x∈vs t,InR .u64 x:=fun x hx=>by
 obtain ⟨o,ho,rfl⟩:=List.mem_map.1 hx
 exact (h.outs o ho).val
theorem txsum_eq {t:Tx}(h:TxOk t)(hl:t.Outs.length≤1000000):tx_Sum.f t=some (goSum 0 (vs t)):=by
 simp only [tx_Sum.f]
 rw [values_eq t hl,Option.bind_some,show t.Outs.map (·.Value)=vs t from rfl,sum_eq _ (by simp [vs];omega) (vs_in h)]
 rfl
def isBase (t:Tx):Prop:=t.Ins.length=1∧(t.Ins.getD 0 default).From=nullP
instance (t:Tx):Decidable (isBase t):=inferInstanceAs (Decidable (_∧_))
theorem base_eq (t:Tx):tx_Base.f t=some (decide (isBase t)):=by
 simp only [tx_Base.f]
 by_cases c:t.Ins.length=1
 ·rw [if_pos (by omega),if_pos (by omega),isnull_eq]
  simp only [Option.bind_some]
  exact congrArg some (decide_eq_decide.2 ⟨fun h=>⟨c,h⟩,fun h=>h.2⟩)
 ·rw [if_neg (by omega),Option.bind_some,decide_eq_false (fun h=>c h.1)]
noncomputable def bs (t:Tx):Er:=if isBase t then (if (t.Ins.getD 0 default).Key.length < 4 then xErrBase else .b 0) else if ∃ i∈t.Ins,i.From=nullP then xErrBase else .b 0
theorem base1_eq (t:Tx)(hl:t.Ins.length≤1000000):tx_base.f t=some (bs t):=by
 simp only [tx_base.f]
 rw [base_eq,Option.bind_some]
 unfold bs
 by_cases c:isBase t
 ·rw [if_pos (decide_eq_true c),if_pos c,if_pos (by have:=c.1;omega)]
  by_cases k:(t.Ins.getD 0 default).Key.length < 4
  ·rw [if_pos k,if_pos (show (((t.Ins.getD (0:Int).toNat default).Key).length:Int) < 4 by rw [show (0:Int).toNat=0 from rfl];omega)]
  ·rw [if_neg k,if_neg (show ¬ (((t.Ins.getD (0:Int).toNat default).Key).length:Int) < 4 by rw [show (0:Int).toNat=0 from rfl];omega)]
 ·rw [if_neg (by simp only [decide_eq_true_eq];exact c),if_neg c,contains_null _ hl,Option.bind_some]
  by_cases k:∃ i∈t.Ins,i.From=nullP
  ·rw [if_pos (decide_eq_true k),if_pos k]
  ·rw [if_neg (by simp only [decide_eq_true_eq];exact k),if_neg k]
def mn (t:Tx):Prop:=t.Ins.length=0∨50 < t.Ins.length∨t.Outs.length=0∨50 < t.Outs.length
instance (t:Tx):Decidable (mn t):=inferInstanceAs (Decidable (_∨_))
noncomputable def ck (t:Tx):Er:=if mn t then xErrMany else if 4000 < (tb t).length then xErrLong else if ∃ i∈t.Ins,80 < i.Key.length then xErrKey else if (goSum 0 (vs t)).2=false then xErrValue else if ¬ (frs t).Nodup then xErrTwice else bs t
theorem many_eq (t:Tx):(if (t.Ins.length:Int)=0 then some true else (if 50 < (t.Ins.length:Int) then some true else (if (t.Outs.length:Int)=0 then some true else some (decide (50 < (t.Outs.length:Int))))))=some (decide (mn t)):=by
 have hm:mn t ↔ (t.Ins.length=0∨50 < t.Ins.length∨t.Outs.length=0∨50 < t.Outs.length):=Iff.rfl
 by_cases c1:t.Ins.length=0
 ·rw [if_pos (by omega),decide_eq_true (hm.2 (.inl c1))]
 ·by_cases c2:50 < t.Ins.length
  ·rw [if_neg (by omega),if_pos (by omega),decide_eq_true (hm.2 (.inr (.inl c2)))]
  ·by_cases c3:t.Outs.length=0
   ·rw [if_neg (by omega),if_neg (by omega),if_pos (by omega),decide_eq_true (hm.2 (.inr (.inr (.inl c3))))]
   ·rw [if_neg (by omega),if_neg (by omega),if_neg (by omega)]
    exact congrArg some (decide_eq_decide.2 ⟨fun h=>hm.2 (by omega),fun h=>by have:=hm.1 h;omega⟩)
theorem size_eq {t:Tx}(h:TxOk t)(hf:Few 60 100 t):tx_Size.f t=some ((tb t).length:Int):=by
 simp only [tx_Size.f]
 rw [tbytes_eq h (hf.mono (by omega) (by omega)),Option.bind_some]
theorem check_eq {t:Tx}(h:TxOk t)(hf:Few 60 100 t):tx_Check.f t=some (ck t):=by
 have h1:=hf.ins
 have h2:=hf.outs
 simp only [tx_Check.f]
 rw [many_eq,Option.bind_some]
 unfold ck
 by_cases c1:mn t
 ·rw [if_pos (decide_eq_true c1),if_pos c1]
 ·rw [if_neg (by simp only [decide_eq_true_eq];exact c1),if_neg c1,size_eq h hf,Option.bind_some]
  by_cases c2:4000 < (tb t).length
  ·rw [if_pos (by omega),if_pos c2]
  ·rw [if_neg (by omega),if_neg c2,contains_key _ (by omega),Option.bind_some]
   by_cases c3:∃ i∈t.Ins,80 < i.Key.length
   ·rw [if_pos (decide_eq_true c3),if_pos c3]
   ·rw [if_neg (by simp only [decide_eq_true_eq];exact c3),if_neg c3,txsum_eq h (by omega),Option.bind_some]
    by_cases c4:(goSum 0 (vs t)).2=false
    ·rw [if_neg (by rw [c4];decide),if_pos c4]
    ·rw [if_pos (by simpa using c4),if_neg c4,twice_eq' t (by omega),Option.bind_some]
     by_cases c5:¬ (frs t).Nodup
     ·rw [if_pos (decide_eq_true c5),if_pos c5]
     ·rw [if_neg (by simp only [decide_eq_true_eq];exact c5),if_neg c5,base1_eq t (by omega),Option.bind_some]
theorem kn_ck (t:Tx):Kn (ck t):=by
 unfold ck bs
 repeat' split
 all_goals first | exact .inl rfl | exact kn_sl (by decide)
theorem ck_ok {t:Tx}(h:ck t=.b 0):¬ mn t∧(tb t).length≤4000∧(∀ i∈t.Ins,i.Key.length≤80)∧(frs t).Nodup:=by
 unfold ck at h
 by_cases c1:mn t
 ·rw [if_pos c1] at h;exact absurd h (by decide)
 rw [if_neg c1] at h
 by_cases c2:4000 < (tb t).length
 ·rw [if_pos c2] at h;exact absurd h (by decide)
 rw [if_neg c2] at h
 by_cases c3:∃ i∈t.Ins,80 < i.Key.length
 ·rw [if_pos c3] at h;exact absurd h (by decide)
 rw [if_neg c3] at h
 by_cases c4:(goSum 0 (vs t)).2=false
 ·rw [if_pos c4] at h;exact absurd h (by decide)
 rw [if_neg c4] at h
 by_cases c5:¬ (frs t).Nodup
 ·rw [if_pos c5] at h;exact absurd h (by decide)
 exact ⟨c1,by omega,fun i hi=>Nat.le_of_not_lt fun h=>c3 ⟨i,hi,h⟩,Classical.not_not.1 c5⟩
theorem ck_of {t:Tx}(h1:¬ mn t)(h2:(tb t).length≤4000)(h3:∀ i∈t.Ins,i.Key.length≤80)(h4:(goSum 0 (vs t)).2=true)(h5:(frs t).Nodup):ck t=bs t:=by
 unfold ck
 rw [if_neg h1,if_neg (by omega),if_neg (fun ⟨i,hi,h⟩=>by have:=h3 i hi;omega),if_neg (by rw [h4];decide),if_neg (fun h=>h h5)]
theorem tb_small {t:Tx}(h:TxOk t)(h1:t.Ins.length≤10)(h2:t.Outs.length≤10)(h3:∀ i∈t.Ins,i.Key.length≤80):(tb t).length≤4000:=by
 have k1:=flat_le ib 130 t.Ins fun i hi=>by
  rw [ib_len (h.ins i hi)]
  have:=(ln_le i.Key.length).2
  have:=h3 i hi
  omega
 have k2:=outs_le h
 have k3:=(ln_le t.Ins.length).2
 have k4:=(ln_le t.Outs.length).2
 simp only [tb,List.length_append,lb_len,pt_len]
 omega
theorem little_eq' (r:List Int)(a k:Nat)(hk:k≤8)(hl:r.length+k≤140737488355328):q1_little.f r (a:Int) (k:Int)=some (r++lb a k):=by
 simp only [q1_little.f]
 have h:loopO (q1_little.s0 (a:Int) (k:Int)) (r,0)=some (r++lb a k):=by
  refine loop_run (fun j=>(r++lb a j,(j:Int))) k (by simp [lb]) (fun j hj=>?_) ?_
  ·simp only [q1_little.s0]
   have ew:IntKind.u64.wrap (IntKind.i64.wrap (8 * (j:Int)))=((8 * j:Nat):Int):=by rw [w64 (by omega) (by omega),wu64 (by omega) (by omega)];omega
   have e1:IntKind.u8.wrap (sR .u64 (a:Int) ((8 * j:Nat):Int))=((a / 2 ^ (8 * j) % 256:Nat):Int):=by
    rw [sR_div .u64 (n:=8 * j) (by simp only [IntKind.bits];omega),u8e]
    generalize a / 2 ^ (8 * j)=q
    omega
   rw [if_pos (by omega),ew,e1,if_pos (by omega),if_pos (by simp [lb_len];omega),winc j (by omega),List.append_assoc]
   have:lb a j++[((a / 2 ^ (8 * j) % 256:Nat):Int)]=lb a (j+1):=by
    unfold lb;rw [range_map_succ]
   rw [this]
  ·simp only [q1_little.s0]
   rw [if_neg (by omega)]
 rw [h,Option.bind_some]
theorem four1_eq (b:List Int)(a:Nat)(ha:a < 4294967296)(hl:b.length+4≤140737488355328):q1_Four.f b (a:Int)=some (b++lb a 4):=by
 have:=little_eq' b a 4 (by omega) hl
 simp only [q1_Four.f]
 rw [wu64 (by omega) (by omega)]
 rw [show ((4:Nat):Int)=4 from rfl] at this
 rw [this,Option.bind_some]
theorem put1_eq (b:List Int)(n:Nat)(hn:n < 18446744073709551616)(hl:b.length≤1000000):q1_Put.f b (n:Int)=some (b++pt n):=by
 simp only [q1_Put.f]
 rw [len1_eq,Option.bind_some]
 unfold ln pt
 by_cases h1:n < 253
 ·rw [if_pos h1,if_pos h1,if_pos (by rfl),if_pos (by omega),u8e,lb_one]
  congr 3
 ·rw [if_neg h1,if_neg h1]
  by_cases h2:n < 65536
  ·have:=little_eq' (b++[253]) n 2 (by omega) (by simp;omega)
   rw [show ((2:Nat):Int)=2 from rfl] at this
   rw [if_pos h2,if_pos h2,if_neg (by decide),if_pos (by rfl),if_pos (by omega),this,Option.bind_some,List.append_assoc];rfl
  ·rw [if_neg h2,if_neg h2]
   by_cases h3:n < 4294967296
   ·have:=little_eq' (b++[254]) n 4 (by omega) (by simp;omega)
    rw [show ((4:Nat):Int)=4 from rfl] at this
    rw [if_pos h3,if_pos h3,if_neg (by decide),if_neg (by decide),if_pos (by rfl),if_pos (by omega),this,Option.bind_some,List.append_assoc];rfl
   ·have:=little_eq' (b++[255]) n 8 (by omega) (by simp;omega)
    rw [show ((8:Nat):Int)=8 from rfl] at this
    rw [if_neg h3,if_neg h3,if_neg (by decide),if_neg (by decide),if_neg (by decide),if_pos (by omega),this,Option.bind_some,List.append_assoc];rfl
theorem eight1_eq (b:List Int)(a:Nat)(hl:b.length≤1000000):q1_Eight.f b (a:Int)=some (b++lb a 8):=by
 have:=little_eq' b a 8 (by omega) (by omega)
 simp only [q1_Eight.f]
 rw [show ((8:Nat):Int)=8 from rfl] at this
 rw [this,Option.bind_some]
theorem tbytes1_eq {t:Tx}(h:TxOk t)(hf:Few 100 1000 t):q1_TxBytes.f t=some (tb t):=by
 obtain ⟨v1,v2⟩:=nat4 h.v
 obtain ⟨t1,t2⟩:=nat4 h.t
 have hi:=hf.ins
 have ho:=hf.outs
 have hil:∀ i∈t.Ins,(ib i).length≤2000:=fun i hi=>by
  rw [ib_len (h.ins i hi)]
  have:=(ln_le i.Key.length).2
  have:=hf.key i hi
  omega
 have hol:∀ o∈t.Outs,(ob o).length≤40:=fun o ho=>by rw [ob_len (h.outs o ho)];omega
 have lp:=(ln_le t.Ins.length).2
 have lq:=(ln_le t.Outs.length).2
 have L1:∀ P:List Int,P.length≤100→loopO (q1_TxBytes.s0 t) (P,0)=some (P++(t.Ins.map ib).flatten):=fun P hP=>by
  refine loop_run (fun i=>(P++((t.Ins.take i).map ib).flatten,(i:Int))) t.Ins.length (by simp) (fun i hi=>?_) ?_
  ·have hm:=getD_mem (l:=t.Ins) (d:=default) hi
   have ok:=h.ins _ hm
   have hk:=hf.key _ hm
   have hb:=take_few ib 2000 t.Ins hil i (by omega)
   rw [flat_next ib t.Ins default i hi]
   simp only [q1_TxBytes.s0,Int.toNat_natCast]
   generalize t.Ins.getD i default=x at *
   obtain ⟨n1,n2⟩:=nat4 ok.n
   obtain ⟨s1,s2⟩:=nat4 ok.seq
   have ltx:=ok.tx
   have lk:=(ln_le x.Key.length).2
   have hf4:=four1_eq (P++((t.Ins.take i).map ib).flatten++x.From.Tx) x.From.N.toNat n2 (by simp only [List.length_append];omega)
   have hp:=put1_eq (P++((t.Ins.take i).map ib).flatten++x.From.Tx++lb x.From.N.toNat 4) x.Key.length (by omega) (by simp only [List.length_append,lb_len];omega)
   have hf5:=four1_eq (P++((t.Ins.take i).map ib).flatten++x.From.Tx++lb x.From.N.toNat 4++pt x.Key.length++x.Key) x.Seq.toNat s2 (by simp only [List.length_append,lb_len,pt_len];omega)
   rw [← n1] at hf4
   rw [← s1] at hf5
   rw [if_pos (by omega),if_pos (by omega),if_pos (by simp only [List.length_append];omega),hf4,Option.bind_some,wu64 (by omega) (by omega),hp,Option.bind_some,if_pos (by simp only [List.length_append,lb_len,pt_len];omega),hf5,Option.bind_some,winc i (by omega)]
   simp only [ib,List.append_assoc]
  ·simp only [q1_TxBytes.s0]
   rw [if_neg (by omega),List.take_length]
 have L2:∀ P:List Int,P.length≤300000→loopO (q1_TxBytes.s1 t) (P,0)=some (P++(t.Outs.map ob).flatten):=fun P hP=>by
  refine loop_run (fun i=>(P++((t.Outs.take i).map ob).flatten,(i:Int))) t.Outs.length (by simp) (fun i hi=>?_) ?_
  ·have hm:=getD_mem (l:=t.Outs) (d:=default) hi
   have ok:=h.outs _ hm
   have hb:=take_few ob 40 t.Outs hol i (by omega)
   rw [flat_next ob t.Outs default i hi]
   simp only [q1_TxBytes.s1,Int.toNat_natCast]
   generalize t.Outs.getD i default=x at *
   obtain ⟨n1,n2⟩:=nat8 ok.val
   have ltx:=ok.lock
   have h8:=eight1_eq (P++((t.Outs.take i).map ob).flatten) x.Value.toNat (by simp only [List.length_append];omega)
   rw [← n1] at h8
   rw [show Int.toNat 32=32 from rfl,show Int.toNat 0=0 from rfl,List.take_of_length_le (l:=x.Lock) (by omega),List.drop_zero,if_pos (by omega),if_pos (by omega),h8,Option.bind_some,if_pos (by simp only [List.length_append,lb_len];omega),winc i (by omega)]
   simp only [ob,List.append_assoc]
  ·simp only [q1_TxBytes.s1]
   rw [if_neg (by omega),List.take_length]
 have hI:=flat_le ib 2000 t.Ins hil
 have hO:=flat_le ob 40 t.Outs hol
 have f1:=four1_eq [] t.Version.toNat v2 (by simp)
 rw [← v1] at f1
 have p1:=put1_eq (lb t.Version.toNat 4) t.Ins.length (by omega) (by rw [lb_len];omega)
 have p2:=put1_eq (lb t.Version.toNat 4++pt t.Ins.length++(t.Ins.map ib).flatten) t.Outs.length (by omega) (by simp only [List.length_append,lb_len,pt_len];omega)
 have f2:=four1_eq (lb t.Version.toNat 4++pt t.Ins.length++(t.Ins.map ib).flatten++pt t.Outs.length++(t.Outs.map ob).flatten) t.Time.toNat t2 (by simp only [List.length_append,lb_len,pt_len];omega)
 rw [← t1] at f2
 simp only [q1_TxBytes.f]
 rw [f1,Option.bind_some,List.nil_append,wu64 (x:=(t.Ins.length:Int)) (by omega) (by omega),p1,Option.bind_some,L1 _ (by simp only [List.length_append,lb_len,pt_len];omega),Option.bind_some,wu64 (x:=(t.Outs.length:Int)) (by omega) (by omega),p2,Option.bind_some,L2 _ (by simp only [List.length_append,lb_len,pt_len];omega),Option.bind_some,f2,Option.bind_some]
 simp only [tb,List.append_assoc]
theorem size1_eq {t:Tx}(h:TxOk t)(hf:Few 60 100 t):q1_Size.f t=some ((tb t).length:Int):=by
 simp only [q1_Size.f]
 rw [tbytes1_eq h (hf.mono (by omega) (by omega)),Option.bind_some]
theorem basep_eq {t:Tx}(h:TxOk t):q1_Base.f t=some (decide (isBase t)):=by
 simp only [q1_Base.f]
 by_cases c:t.Ins.length=1
 ·have hm:=h.ins _ (getD_mem (l:=t.Ins) (d:=default) (i:=0) (by omega))
  rw [if_pos (by omega),if_pos (by omega),show Int.toNat 0=0 from rfl]
  simp only [q1_Null.f,Option.bind_some]
  rw [samepoint_eq _ _ hm.tx (by simp),Option.bind_some,Option.bind_some]
  exact congrArg some (decide_eq_decide.2 ⟨fun h=>⟨c,h⟩,fun h=>h.2⟩)
 ·rw [if_neg (by omega),Option.bind_some,decide_eq_false (fun h=>c h.1)]
theorem nullp_eq (i:In)(h:InOk i):((q1_Null.f).bind fun r6=>q0_SamePoint.f i.From r6)=some (decide (i.From=nullP)):=by
 simp only [q1_Null.f,Option.bind_some]
 exact samepoint_eq _ _ h.tx (by simp)
noncomputable def bsc (t:Tx):Int:=if isBase t then (if (t.Ins.getD 0 default).Key.length < 4 then 107 else 0) else if ∃ i∈t.Ins,i.From=nullP then 107 else 0
noncomputable def ckc (t:Tx):Int:=if mn t then 104 else if 4000 < (tb t).length then 103 else if ∃ i∈t.Ins,80 < i.Key.length then 114 else if (goSum 0 (vs t)).2=false then 105 else if ¬ (frs t).Nodup then 106 else bsc t
theorem cd_ck (t:Tx):cd (ck t)=ckc t:=by
 unfold ck ckc bs bsc
 repeat' split
 all_goals decide
theorem nodup_iff (t:Tx):(∀ i,i < t.Ins.length→∀ j,j < i→(t.Ins.getD i default).From≠(t.Ins.getD j default).From) ↔ (frs t).Nodup:=by
 have hl:(frs t).length=t.Ins.length:=by simp [frs]
 have hg:∀ i,i < t.Ins.length→(frs t).getD i default=(t.Ins.getD i default).From:=fun i hi=>by
  rw [gd _ _ (by rw [hl];exact hi),gd _ _ hi]
  simp [frs]
 unfold List.Nodup
 rw [List.pairwise_iff_getElem]
 constructor
 ·intro h i j hi hj hij e
  have h1:=h j (by omega) i hij
  rw [← hg j (by omega),← hg i (by omega),gd _ _ hj,gd _ _ hi] at h1
  exact h1 e.symm
 ·intro h i hi j hj e
  have h1:=h j i (by omega) (by omega) hj
  rw [← gd _ default (by omega),← gd _ default (by omega),hg j (by omega),hg i hi] at h1
  exact h1 e.symm
theorem checktx_eq {t:Tx}(h:TxOk t)(hf:Few 60 100 t):q1_CheckTx.f t=some (ckc t):=by
 have h1:=hf.ins
 have h2:=hf.outs
 simp only [q1_CheckTx.f]
 rw [many_eq,Option.bind_some]
 unfold ckc
 by_cases c1:mn t
 ·rw [if_pos (decide_eq_true c1),if_pos c1]
 rw [if_neg (by simp only [decide_eq_true_eq];exact c1),if_neg c1,size1_eq h hf,Option.bind_some]
 by_cases c2:4000 < (tb t).length
 ·rw [if_pos (by omega),if_pos c2]
 rw [if_neg (by omega),if_neg c2]
 have e3:loopO (q1_CheckTx.s3 t) 0=some (if ∀ i,i < t.Ins.length→(t.Ins.getD i default).From≠nullP then (Sum.inr (Sum.inr 0):Int⊕(Int⊕Int)) else Sum.inr (Sum.inr 107)):=look_run t.Ins.length (fun i=>(t.Ins.getD i default).From≠nullP) (Sum.inr (Sum.inr 0)) (Sum.inr (Sum.inr 107)) (by omega) (fun i hi=>by
  have hm:=nullp_eq _ (h.ins _ (getD_mem (l:=t.Ins) (d:=default) hi))
  simp only [q1_CheckTx.s3,Int.toNat_natCast]
  simp only [q1_Null.f,Option.bind_some] at hm ⊢
  rw [if_pos (by omega),if_pos (by omega),hm,Option.bind_some]
  by_cases c:(t.Ins.getD i default).From=nullP
  ·rw [if_pos (decide_eq_true c),if_neg (fun h=>h c)]
  ·rw [if_neg (by simp only [decide_eq_true_eq];exact c),if_pos c]) (by simp only [q1_CheckTx.s3];rw [if_neg (by omega)])
 have e2:∀ k,k < t.Ins.length→loopO (q1_CheckTx.s2 t (k:Int)) 0=some (if ∀ j,j < k→(t.Ins.getD k default).From≠(t.Ins.getD j default).From then (Sum.inl (IntKind.i64.wrap ((k:Int)+1)):Int⊕(Int⊕Int)) else Sum.inr (Sum.inr 106)):=fun k hk=>look_run k (fun j=>(t.Ins.getD k default).From≠(t.Ins.getD j default).From) (Sum.inl (IntKind.i64.wrap ((k:Int)+1))) (Sum.inr (Sum.inr 106)) (by omega) (fun j hj=>by
  have hm:=h.ins _ (getD_mem (l:=t.Ins) (d:=default) hk)
  have hn:=h.ins _ (getD_mem (l:=t.Ins) (d:=default) (show j < t.Ins.length by omega))
  simp only [q1_CheckTx.s2,Int.toNat_natCast]
  rw [if_pos (by omega),if_pos (by omega),if_pos (by omega),samepoint_eq _ _ hm.tx hn.tx,Option.bind_some]
  by_cases c:(t.Ins.getD k default).From=(t.Ins.getD j default).From
  ·rw [if_pos (decide_eq_true c),if_neg (fun h=>h c)]
  ·rw [if_neg (by simp only [decide_eq_true_eq];exact c),if_pos c]) (by simp only [q1_CheckTx.s2];rw [if_neg (by omega)])
 have eb:q1_CheckTx.s1 t (t.Ins.length:Int)=some (.inr (.inr (bsc t))):=by
  simp only [q1_CheckTx.s1]
  rw [if_neg (by omega),basep_eq h,Option.bind_some,e3]
  unfold bsc
  by_cases c:isBase t
  ·rw [if_pos (decide_eq_true c),if_pos c,if_pos (by have:=c.1;omega)]
   by_cases k:(t.Ins.getD 0 default).Key.length < 4
   ·rw [if_pos k,if_pos (show (((t.Ins.getD (0:Int).toNat default).Key).length:Int) < 4 by rw [show (0:Int).toNat=0 from rfl];omega)]
   ·rw [if_neg k,if_neg (show ¬ (((t.Ins.getD (0:Int).toNat default).Key).length:Int) < 4 by rw [show (0:Int).toNat=0 from rfl];omega)]
  ·rw [if_neg (by simp only [decide_eq_true_eq];exact c),if_neg c]
   have ea:=all_getD t.Ins default (fun i=>i.From≠nullP)
   by_cases k:∃ i∈t.Ins,i.From=nullP
   ·rw [if_pos k,if_neg (fun h=>by obtain ⟨i,hi,e⟩:=k;exact ea.1 h i hi e)]
   ·rw [if_neg k,if_pos (ea.2 fun i hi e=>k ⟨i,hi,e⟩)]
 have e1:loopO (q1_CheckTx.s1 t) 0=some (if ∀ i,i < t.Ins.length→∀ j,j < i→(t.Ins.getD i default).From≠(t.Ins.getD j default).From then (Sum.inr (bsc t):Int⊕Int) else Sum.inr 106):=look_run t.Ins.length (fun i=>∀ j,j < i→(t.Ins.getD i default).From≠(t.Ins.getD j default).From) (Sum.inr (bsc t)) (Sum.inr 106) (by omega) (fun i hi=>by
  simp only [q1_CheckTx.s1]
  rw [if_pos (by omega),e2 i hi]
  by_cases c:∀ j,j < i→(t.Ins.getD i default).From≠(t.Ins.getD j default).From
  ·rw [if_pos c,if_pos c]
  ·rw [if_neg c,if_neg c]) eb
 have ek:q1_CheckTx.s0 t (t.Ins.length:Int)=some (.inr (if (goSum 0 (vs t)).2=false then 105 else if ¬ (frs t).Nodup then 106 else bsc t)):=by
  simp only [q1_CheckTx.s0]
  rw [if_neg (by omega),values1_eq t (by omega),Option.bind_some,show t.Outs.map (·.Value)=vs t from rfl,sum1_eq _ (by simp [vs];omega) (vs_in h),Option.bind_some,e1]
  by_cases c4:(goSum 0 (vs t)).2=false
  ·rw [if_neg (by rw [c4];decide),if_pos c4]
  ·rw [if_pos (by simpa using c4),if_neg c4]
   by_cases c5:(frs t).Nodup
   ·rw [if_pos ((nodup_iff t).2 c5),if_neg (fun h=>h c5)]
   ·rw [if_neg (fun h=>c5 ((nodup_iff t).1 h)),if_pos c5]
 rw [look_run t.Ins.length (fun i=>(t.Ins.getD i default).Key.length≤80) (if (goSum 0 (vs t)).2=false then 105 else if ¬ (frs t).Nodup then 106 else bsc t) 114 (by omega) (fun i hi=>by
  simp only [q1_CheckTx.s0,Int.toNat_natCast]
  rw [if_pos (by omega),if_pos (by omega)]
  by_cases c:(t.Ins.getD i default).Key.length≤80
  ·rw [if_neg (by omega),if_pos c]
  ·rw [if_pos (by omega),if_neg c]) ek]
 have ea:=all_getD t.Ins default (fun i=>i.Key.length≤80)
 by_cases c3:∃ i∈t.Ins,80 < i.Key.length
 ·rw [if_pos c3,if_neg (fun h=>by obtain ⟨i,hi,e⟩:=c3;have:=ea.1 h i hi;omega)]
 ·rw [if_neg c3,if_pos (ea.2 fun i hi=>Nat.le_of_not_lt fun h=>c3 ⟨i,hi,h⟩)]
theorem txclone_eq {t:Tx}(h:TxOk t)(hf:Few 60 100 t):tx_Clone.f t=some t:=by
 have h1:=hf.ins
 have h2:=hf.outs
 simp only [tx_Clone.f,slices_Clone_api_In_api_In.f,slices_Clone_api_Out_api_Out.f]
 rw [if_pos (by omega),if_pos (by omega),Option.bind_some,Option.bind_some,show loopO (tx_Clone.s0 t.Ins) (0,t.Ins)=_ from loop_run (step:=tx_Clone.s0 t.Ins) (fun i=>((i:Int),t.Ins)) t.Ins.length (r:=t.Ins) rfl (fun i hi=>by
  have hk:=hf.key _ (getD_mem (d:=default) hi)
  simp only [tx_Clone.s0,Int.toNat_natCast,bytes_Clone.f]
  rw [if_pos (by omega),if_pos (by omega),if_pos (by omega),Option.bind_some,winc i (by omega)]
  have:t.Ins.set i (⟨(t.Ins.getD i default).From,(t.Ins.getD i default).Key,(t.Ins.getD i default).Seq⟩:In)=t.Ins:=by
   rw [gd _ _ hi]
   exact List.set_getElem_self hi
  rw [this]) (by simp only [tx_Clone.s0];rw [if_neg (by omega)])]
 rfl
def idt (t:Tx):List Int:=sha (sha (tb t))
theorem idt_len (t:Tx):(idt t).length=32:=sha_len _
def T1 (h:Nat)(v:Int)(l e:List Int):Tx:=⟨1,[⟨nullP,lb h 4++e,4294967295⟩],[⟨v,l⟩],0⟩
theorem zB:Bs (List.replicate 32 0):=fun x hx=>by
 obtain rfl:x=0:=List.eq_of_mem_replicate hx
 simp [InR]
theorem T1_ok {h:Nat}{v:Int}{l e:List Int}(hv:InR .u64 v)(hl:l.length=32)(lb_:Bs l)(he:Bs e):TxOk (T1 h v l e):=by
 refine ⟨by simp [T1,InR],fun i hi=>?_,fun o ho=>?_,by simp [T1,InR]⟩
 ·obtain rfl:=List.mem_singleton.1 hi
  exact ⟨by simp [nullP],zB,by simp [nullP,InR],(bs_lb _ _).app he,by simp [InR]⟩
 ·obtain rfl:=List.mem_singleton.1 ho
  exact ⟨hv,hl,lb_⟩
theorem T1_few {h:Nat}{v:Int}{l e:List Int}(he:e.length≤90):Few 60 100 (T1 h v l e):=by
 refine ⟨by simp [T1],by simp [T1],fun i hi=>?_⟩
 obtain rfl:=List.mem_singleton.1 hi
 simp only [List.length_append,lb_len];omega
theorem u32_nat (x:Int):IntKind.u32.wrap x=(((IntKind.u32.wrap x).toNat:Nat):Int)∧(IntKind.u32.wrap x).toNat < 4294967296:=nat4 (wrap_in _ _)
theorem first_eq (x0 x1:Int)(x2 x3:List Int)(h3:x3.length≤90):block_First.f x0 x1 x2 x3=some (T1 (IntKind.u32.wrap x0).toNat x1 x2 x3):=by
 obtain ⟨e,hl⟩:=u32_nat x0
 have h:=four_eq [] _ hl (by simp)
 rw [← e] at h
 simp only [block_First.f]
 rw [h,Option.bind_some,concat_eq _ (by simp) (fun x hx=>by
  have:x=[]++lb (IntKind.u32.wrap x0).toNat 4∨x=x3:=by simpa using hx
  rcases this with rfl | rfl
  ·simp [lb_len]
  ·omega),Option.bind_some]
 simp [spend_Null.f,T1,nullP]
theorem id_eq {t:Tx}(h:TxOk t)(hf:Few 60 100 t):tx_ID.f t=some (idt t):=by
 have n0:=tb_le h (hf.mono (by omega) (by omega))
 simp only [tx_ID.f]
 rw [tbytes_eq h (hf.mono (by omega) (by omega)),Option.bind_some,twice_eq _ (by omega),Option.bind_some]
 rfl
theorem id1_eq {t:Tx}(h:TxOk t)(hf:Few 60 100 t):q1_ID.f t=some (idt t):=by
 have n0:=tb_le h (hf.mono (by omega) (by omega))
 simp only [q1_ID.f]
 rw [tbytes1_eq h (hf.mono (by omega) (by omega)),Option.bind_some,ref_twice_eq _ (by omega),Option.bind_some]
 rfl
structure TsOk (l:List Tx):Prop where
 n:l.length≤1000
 ok:∀ t∈l,TxOk t
 few:∀ t∈l,Few 60 100 t
theorem ids_eq {b:Block}(h:TsOk b.Txs):block_IDs.f b=some (b.Txs.map idt):=by
 have hn:=h.n
 simp only [block_IDs.f]
 rw [show loopO (block_IDs.s0 b) ([],0)=_ from loop_run (step:=block_IDs.s0 b) (fun i=>((b.Txs.take i).map idt,(i:Int))) b.Txs.length (r:=b.Txs.map idt) rfl (fun i hi=>by
  have hm:=getD_mem (l:=b.Txs) (d:=default) hi
  simp only [block_IDs.s0,Int.toNat_natCast]
  rw [if_pos (by omega),if_pos (by omega),id_eq (h.ok _ hm) (h.few _ hm),Option.bind_some,if_pos (by simp;omega),winc i (by omega),← take_next b.Txs i default hi]
  simp) (by simp only [block_IDs.s0];rw [if_neg (by omega),List.take_length])]
 rfl
theorem ids1_eq {l:List Tx}(h:TsOk l):q1_IDs.f l=some (l.map idt):=by
 have hn:=h.n
 simp only [q1_IDs.f]
 rw [show loopO (q1_IDs.s0 l) ([],0)=_ from loop_run (step:=q1_IDs.s0 l) (fun i=>((l.take i).map idt,(i:Int))) l.length (r:=l.map idt) rfl (fun i hi=>by
  have hm:=getD_mem (l:=l) (d:=default) hi
  simp only [q1_IDs.s0,Int.toNat_natCast]
  rw [if_pos (by omega),if_pos (by omega),id1_eq (h.ok _ hm) (h.few _ hm),Option.bind_some,if_pos (by simp;omega),winc i (by omega),← take_next l i default hi]
  simp) (by simp only [q1_IDs.s0];rw [if_neg (by omega),List.take_length])]
 rfl
theorem ids_hs (l:List Tx):Hs (l.map idt):=fun x hx=>by
 obtain ⟨t,_,rfl⟩:=List.mem_map.1 hx
 exact idt_len t
def rt (l:List Tx):List Int:=rootL (l.map idt)
theorem rt_len (l:List Tx):(rt l).length=32:=rootL_len _ (ids_hs l)
theorem broot_eq {b:Block}(h:TsOk b.Txs):block_Root.f b=some (rt b.Txs):=by
 have hn:=h.n
 simp only [block_Root.f]
 rw [ids_eq h,Option.bind_some,root_eq _ (ids_hs _) (by simp;omega),Option.bind_some]
 rfl
def tbs (l:List Tx):List Int:=(l.map tb).flatten
def bb (h:HN)(l:List Tx):List Int:=hb h++(pt l.length++tbs l)
theorem bbytes_eq {h:HN}(o:h.Ok){l:List Tx}(k:TsOk l):block_Bytes.f ⟨h.h,l⟩=some (bb h l):=by
 have hn:=k.n
 have hl:=hb_len o
 have lp:=(ln_le l.length).2
 have ht:∀ t∈l,(tb t).length≤210000:=fun t ht=>tb_le (k.ok t ht) ((k.few t ht).mono (by omega) (by omega))
 simp only [block_Bytes.f]
 rw [hbytes_eq o,Option.bind_some,wu64 (by omega) (by omega),put_eq _ _ (by omega) (by omega),Option.bind_some,show loopO (block_Bytes.s0 ⟨h.h,l⟩) (hb h++pt l.length,0)=_ from loop_run (step:=block_Bytes.s0 ⟨h.h,l⟩) (fun i=>(hb h++pt l.length++((l.take i).map tb).flatten,(i:Int))) l.length (r:=hb h++pt l.length++tbs l) (by simp) (fun i hi=>by
  have hm:=getD_mem (l:=l) (d:=default) hi
  have hb_:=take_few tb 210000 l ht i (by omega)
  have h2:=ht _ hm
  rw [flat_next tb l default i hi]
  simp only [block_Bytes.s0,Int.toNat_natCast]
  rw [if_pos (by omega),if_pos (by omega),tbytes_eq (k.ok _ hm) ((k.few _ hm).mono (by omega) (by omega)),Option.bind_some,if_pos (by simp only [List.length_append,pt_len];omega),winc i (by omega)]
  simp only [List.append_assoc]) (by simp only [block_Bytes.s0];rw [if_neg (by omega),List.take_length];rfl),Option.bind_some]
 simp only [bb,List.append_assoc]
theorem bsize_eq {h:HN}(o:h.Ok){l:List Tx}(k:TsOk l):block_Size.f ⟨h.h,l⟩=some ((bb h l).length:Int):=by
 simp only [block_Size.f]
 rw [bbytes_eq o k,Option.bind_some]
theorem hcheck_eq (h:HN):head_Check.f h.h=some (if h.w=0∨16777216 < h.w then xErrRange else .b 0):=by
 have hw:h.h.Work=(h.w:Int):=rfl
 simp only [head_Check.f]
 by_cases c1:h.w=0
 ·rw [if_pos (show h.h.Work=0 by omega),Option.bind_some,if_pos rfl,if_pos (.inl c1)]
 ·rw [if_neg (show ¬ h.h.Work=0 by omega),Option.bind_some]
  by_cases c2:16777216 < h.w
  ·rw [if_pos (decide_eq_true (by omega)),if_pos (.inr c2)]
  ·rw [if_neg (by simp only [decide_eq_true_eq];omega),if_neg (by omega)]
theorem parts_ok {b:Block}(h:TsOk b.Txs)(h1:∀ i,i < b.Txs.length→ck (b.Txs.getD i default)=.b 0)(h2:∀ i,i < b.Txs.length→(isBase (b.Txs.getD i default) ↔ i=0)):block_parts.f b=some (.b 0):=by
 have hn:=h.n
 simp only [block_parts.f]
 have e1:loopO (block_parts.s1 b) 0=some (.inr (.b 0)):=loop_run (step:=block_parts.s1 b) (fun i=>(i:Int)) b.Txs.length rfl (fun i hi=>by
  simp only [block_parts.s1,Int.toNat_natCast]
  rw [if_pos (by omega),if_pos (by omega),base_eq,Option.bind_some,if_neg (fun h=>h (decide_eq_decide.2 ((h2 i hi).trans (by omega)))),winc i (by omega)]) (by simp only [block_parts.s1];rw [if_neg (by omega)])
 refine loop_run (step:=block_parts.s0 b) (fun i=>(i:Int)) b.Txs.length rfl (fun i hi=>?_) ?_
 ·have hm:=getD_mem (l:=b.Txs) (d:=default) hi
  simp only [block_parts.s0,Int.toNat_natCast]
  rw [if_pos (by omega),if_pos (by omega),check_eq (h.ok _ hm) (h.few _ hm),h1 i hi,Option.bind_some,if_neg (fun h=>h rfl),winc i (by omega)]
 ·simp only [block_parts.s0]
  rw [if_neg (by omega),e1]
theorem twice_one {b:Block}{t:Tx}(h:TsOk b.Txs)(e:b.Txs=[t])(ht:t.Ins.length=1):block_twice.f b=some false:=by
 simp only [block_twice.f]
 rw [ids_eq h,Option.bind_some,e]
 have hg:b.Txs.getD 0 default=t:=by rw [e];rfl
 have e1:loopO (block_twice.s1 b [idt t] 0 []) (0,[])=some (.inl (1,mput [] (t.Ins.getD 0 default).From true,mput [] (idt t) true)):=by
  rw [loopO_inl (s':=(1,mput [] (t.Ins.getD 0 default).From true)) (by
   simp only [block_twice.s1]
   rw [show (0:Int).toNat=0 from rfl,hg,ht,if_pos (by omega),if_pos (by omega),if_neg (by simp [mget])]
   rfl),loopO_inr (by
   simp only [block_twice.s1]
   rw [show (0:Int).toNat=0 from rfl,hg,ht,if_neg (by omega)])]
  rfl
 show loopO (block_twice.s0 b [idt t]) (0,[],[])=some false
 rw [loopO_inl (s':=(1,mput [] (t.Ins.getD 0 default).From true,mput [] (idt t) true)) (by
  simp only [block_twice.s0]
  rw [if_pos (by simp),if_pos (by simp),if_neg (by simp [mget]),if_pos (by rw [e];simp),e1]),loopO_inr (by
  simp only [block_twice.s0]
  rw [if_neg (by simp)])]
def T0:Tx:=T1 0 0 (sha []) []
def H0:HN:=⟨1,List.replicate 32 0,rt [T0],1000,1,0⟩
theorem sha_bs (m:List Int):Bs (sha m):=(sha_arr m).2
theorem T0_ok:TxOk T0:=T1_ok (by simp [InR]) (sha_len _) (sha_bs _) bs_nil
theorem T0_few:Few 60 100 T0:=T1_few (by simp)
theorem Ts0:TsOk [T0]:=⟨by simp,fun t ht=>by obtain rfl:=List.mem_singleton.1 ht;exact T0_ok,fun t ht=>by obtain rfl:=List.mem_singleton.1 ht;exact T0_few⟩
theorem H0_ok:H0.Ok:=⟨by decide,by simp [H0],show (rt [T0]).length=32 from rt_len _,by decide,by decide,by decide⟩
theorem start_eq:block_Start.f=some ⟨H0.h,[T0]⟩:=by
 simp only [block_Start.f,spend_Lock.f]
 rw [sha_eq _ (by simp),Option.bind_some,Option.bind_some,first_eq _ _ _ _ (by simp),Option.bind_some,show T1 (IntKind.u32.wrap 0).toNat 0 (sha []) []=T0 from rfl,broot_eq (b:=⟨⟨1,List.replicate 32 0,List.replicate 32 0,1000,1,0⟩,[T0]⟩) Ts0,Option.bind_some]
 rfl
theorem T1_base (h:Nat)(v:Int)(l e:List Int):isBase (T1 h v l e):=⟨rfl,rfl⟩
theorem T1_tb {h:Nat}{v:Int}{l e:List Int}(ok:TxOk (T1 h v l e))(he:e.length≤76):(tb (T1 h v l e)).length≤4000:=tb_small ok (by simp [T1]) (by simp [T1]) fun i hi=>by
 obtain rfl:=List.mem_singleton.1 hi
 simp only [List.length_append,lb_len];omega
theorem ck_T0:ck T0=.b 0:=by
 rw [ck_of (t:=T0) (fun h=>by
  have:T0.Ins.length=0∨50 < T0.Ins.length∨T0.Outs.length=0∨50 < T0.Outs.length:=h
  simp [T0,T1] at this) (T1_tb T0_ok (by simp)) (fun i hi=>by
  obtain rfl:=List.mem_singleton.1 hi
  simp [lb_len]) (by simp [vs,T0,T1,goSum]) (by simp [frs,T0,T1])]
 unfold bs
 rw [if_pos (show isBase T0 from T1_base _ _ _ _),if_neg (by simp [T0,T1,lb_len])]
theorem bb0_len:(bb H0 [T0]).length≤5000:=by
 have h1:=T1_tb T0_ok (by simp)
 have h2:(tb T0).length≤4000:=h1
 simp only [bb,tbs,List.length_append,hb_len H0_ok,pt_len,List.map_cons,List.map_nil,List.flatten_cons,List.flatten_nil,List.length_nil]
 have:=(ln_le [T0].length).2
 omega
theorem check0:block_Check.f ⟨H0.h,[T0]⟩=some (.b 0):=by
 simp only [block_Check.f]
 rw [hcheck_eq,if_neg (by decide),Option.bind_some,if_neg (fun h=>h rfl),if_neg (by simp),Option.bind_some,if_neg (by simp),bsize_eq H0_ok Ts0,Option.bind_some,if_neg (by have:=bb0_len;omega),parts_ok (b:=⟨H0.h,[T0]⟩) Ts0 (fun i hi=>by
  have hi:i < 1:=hi
  obtain rfl:i=0:=by omega
  exact ck_T0) (fun i hi=>by
  have hi:i < 1:=hi
  obtain rfl:i=0:=by omega
  exact ⟨fun _=>rfl,fun _=>T1_base _ _ _ _⟩),Option.bind_some,if_neg (fun h=>h rfl),twice_one (b:=⟨H0.h,[T0]⟩) Ts0 rfl rfl,Option.bind_some,if_neg (by decide),broot_eq (b:=⟨H0.h,[T0]⟩) Ts0,Option.bind_some,if_neg (fun h=>h rfl)]
theorem first7:q7_first.f=some true:=by
 simp only [q7_first.f]
 rw [start_eq,Option.bind_some,check0,Option.bind_some,if_pos rfl,Option.bind_some,ids_eq (b:=⟨H0.h,[T0]⟩) Ts0]
 rfl
theorem sametxs_eq {xs ys:List Tx}(h:TsOk xs)(k:∀ t∈ys,TxOk t):q0_SameTxs.f xs ys=some (decide (xs=ys)):=by
 have hn:=h.n
 simp only [q0_SameTxs.f]
 by_cases c:xs.length=ys.length
 ·rw [if_neg (by omega),all_run xs.length (fun i=>xs.getD i default=ys.getD i default) (by omega) (fun i hi=>by
   have hm:=getD_mem (l:=xs) (d:=default) hi
   have hf:=h.few _ hm
   have a1:=hf.ins
   have a2:=hf.outs
   simp only [q0_SameTxs.s0,Int.toNat_natCast]
   rw [if_pos (by omega),if_pos (by omega),if_pos (by omega),sametx_eq (h.ok _ hm) (k _ (getD_mem (show i < ys.length by omega))) (by omega) (by omega) (fun j hj=>by have:=hf.key j hj;omega),Option.bind_some]
   by_cases e:xs.getD i default=ys.getD i default
   ·rw [if_pos e,if_pos (decide_eq_true e)]
   ·rw [if_neg e,if_neg (by simp only [decide_eq_true_eq];exact e)]) (by simp [q0_SameTxs.s0])]
  exact congrArg some (decide_eq_decide.2 (ext_iff xs ys default c))
 ·rw [if_pos (by omega),decide_eq_false (fun e=>c (by rw [e]))]
theorem sameblock_self {h:HN}(o:h.Ok){l:List Tx}(k:TsOk l):q0_SameBlock.f ⟨h.h,l⟩ ⟨h.h,l⟩=some true:=by
 simp only [q0_SameBlock.f]
 rw [same_eq o o,decide_eq_true rfl,Option.bind_some,if_pos rfl,sametxs_eq k k.ok,decide_eq_true rfl]
 rfl
def run:List Nat→List Int×Er→List Int×Er
 | [],s=>s
 | n::ns,s=>run ns (nx n s).2
def hns:List Nat:=[4,32,32,4,4,4]
def zhead:Head:=⟨0,List.replicate 32 0,List.replicate 32 0,0,0,0⟩
def hparse (s:List Int×Er):Head:=⟨(wh 4 s).1,(h32 (run [4] s)).1,(h32 (run [4,32] s)).1,(wh 4 (run [4,32,32] s)).1,(wh 4 (run [4,32,32,4] s)).1,(wh 4 (run [4,32,32,4,4] s)).1⟩
theorem htake_eq {r:cRd}{s:List Int×Er}(h:Rep r s):∃ r',head_Take.f r=some ((if (run hns s).2≠.b 0 then zhead else hparse s),r')∧Rep r' (run hns s):=by
 obtain ⟨r1,e1,p1⟩:=rfour_eq h
 obtain ⟨r2,e2,p2⟩:=rhash_eq p1
 obtain ⟨r3,e3,p3⟩:=rhash_eq p2
 obtain ⟨r4,e4,p4⟩:=rfour_eq p3
 obtain ⟨r5,e5,p5⟩:=rfour_eq p4
 obtain ⟨r6,e6,p6⟩:=rfour_eq p5
 simp only [head_Take.f]
 rw [e1,Option.bind_some,e2,Option.bind_some,e3,Option.bind_some,e4,Option.bind_some,e5,Option.bind_some,e6,Option.bind_some,err_eq p6,Option.bind_some]
 have hr:(wh 4 (wh 4 (wh 4 (h32 (h32 (wh 4 s).2).2).2).2).2).2=run hns s:=rfl
 rw [hr] at p6 ⊢
 refine ⟨r6,?_,p6⟩
 by_cases hc:(run hns s).2=.b 0
 ·rw [if_neg (fun h=>h hc),if_neg (fun h=>h hc)];rfl
 ·rw [if_pos hc,if_pos hc];rfl
section
variable {α:Type}
def zX (z:α)(f:Stp α):Stp α:=fun s=>(if (f s).2.2≠.b 0 then z else (f s).1,(f s).2)
theorem ext_z {z:α}{f:Stp α}(h:Ext f):Ext (zX z f):=by
 refine ⟨fun l e he=>h.err l e he,fun l l' e he=>?_,fun l m=>?_⟩
 ·have h1:=h.err l e he
  have h2:=h.err l' e he
  simp only [zX,h1,h2]
  rw [if_pos he,if_pos he]
 ·rcases h.ext l m with h1 | h1
  ·exact .inl h1
  ·right
   simp only [zX,h1]
theorem can_z {z:α}{f:Stp α}{en:α→List Int}{p:α→Prop}(h:Can f en p):Can (zX z f) en p:=fun l hl he=>by
 have he:(f (l,.b 0)).2.2=.b 0:=he
 have h1:=h l hl he
 simp only [zX]
 rw [if_neg (fun h=>h he)]
 exact h1
end
theorem zX_def {α:Type}(z:α)(f:Stp α)(s:List Int×Er):zX z f s=(if (f s).2.2≠.b 0 then z else (f s).1,(f s).2):=rfl
def hdM:Stp Head:=bnd (wh 4) fun v=>bnd h32 fun p=>bnd h32 fun r=>bnd (wh 4) fun t=>bnd (wh 4) fun w=>bnd (wh 4) fun n=>ret ⟨(v:Int),p,r,(t:Int),(w:Int),(n:Int)⟩
theorem hdM_eq (s:List Int×Er):hdM s=(hparse s,run hns s):=rfl
theorem ext_hd:Ext hdM:=ext_bnd (ext_wh 4) fun _=>ext_bnd ext_h32 fun _=>ext_bnd ext_h32 fun _=>ext_bnd (ext_wh 4) fun _=>ext_bnd (ext_wh 4) fun _=>ext_bnd (ext_wh 4) fun _=>ext_ret _
def he (h:Head):List Int:=lb h.Version.toNat 4++(h.Prev++(h.Root++(lb h.Time.toNat 4++(lb h.Work.toNat 4++lb h.Nonce.toNat 4))))
def HdOk (x:Head):Prop:=∃ y:HN,x=y.h∧y.Ok∧Bs y.p∧Bs y.r
theorem can_hd:Can hdM he HdOk:=by
 intro l hl h
 unfold hdM at h ⊢
 obtain ⟨v,l1,hv,rfl,b1,e1⟩:=can_step (can_wh 4) (fun _=>ext_bnd ext_h32 fun _=>ext_bnd ext_h32 fun _=>ext_bnd (ext_wh 4) fun _=>ext_bnd (ext_wh 4) fun _=>ext_bnd (ext_wh 4) fun _=>ext_ret _) hl h
 rw [e1] at h ⊢
 obtain ⟨p,l2,⟨p1,p2⟩,rfl,b2,e2⟩:=can_step can_h32 (fun _=>ext_bnd ext_h32 fun _=>ext_bnd (ext_wh 4) fun _=>ext_bnd (ext_wh 4) fun _=>ext_bnd (ext_wh 4) fun _=>ext_ret _) b1 h
 rw [e2] at h ⊢
 obtain ⟨r,l3,⟨r1,r2⟩,rfl,b3,e3⟩:=can_step can_h32 (fun _=>ext_bnd (ext_wh 4) fun _=>ext_bnd (ext_wh 4) fun _=>ext_bnd (ext_wh 4) fun _=>ext_ret _) b2 h
 rw [e3] at h ⊢
 obtain ⟨t,l4,ht,rfl,b4,e4⟩:=can_step (can_wh 4) (fun _=>ext_bnd (ext_wh 4) fun _=>ext_bnd (ext_wh 4) fun _=>ext_ret _) b3 h
 rw [e4] at h ⊢
 obtain ⟨w,l5,hw,rfl,b5,e5⟩:=can_step (can_wh 4) (fun _=>ext_bnd (ext_wh 4) fun _=>ext_ret _) b4 h
 rw [e5] at h ⊢
 obtain ⟨n,l6,hn,rfl,b6,e6⟩:=can_step (can_wh 4) (fun _=>ext_ret _) b5 h
 rw [e6]
 refine ⟨?_,⟨v,p,r,t,w,n⟩,rfl,⟨hv,p1,r1,ht,hw,hn⟩,p2,r2⟩
 simp only [ret,he,Int.toNat_natCast,List.append_assoc]
def hdX:Stp Head:=zX zhead hdM
def txX:Stp Tx:=zX ztx txM
theorem ext_hdX:Ext hdX:=ext_z ext_hd
theorem ext_txX:Ext txX:=ext_z ext_tx
theorem can_hdX:Can hdX he HdOk:=can_z can_hd
theorem can_txX:Can txX tb (fun t=>TxOk t∧Few 50 80 t):=can_z can_tx
def bkG (hd:Stp Head)(tx:Stp Tx):Stp Block:=bnd hd fun h=>bnd (nm 200) fun n=>bnd (rpt n tx) fun ts=>ret ⟨h,ts⟩
def bkM:Stp Block:=bkG hdX txX
def be (b:Block):List Int:=he b.Head++(pt b.Txs.length++tbs b.Txs)
def BkOk (b:Block):Prop:=HdOk b.Head∧b.Txs.length≤200∧∀ t∈b.Txs,TxOk t∧Few 50 80 t
theorem can_bkG {hd:Stp Head}{tx:Stp Tx}(ch:Can hd he HdOk)(xh:Ext hd)(ct:Can tx tb (fun t=>TxOk t∧Few 50 80 t))(xt:Ext tx):Can (bkG hd tx) be BkOk:=by
 intro l hl h
 unfold bkG at h ⊢
 have cn:=can_nm 200
 rw [show ((200:Nat):Int)=200 from rfl] at cn
 obtain ⟨x,l1,hx,rfl,b1,e1⟩:=can_step ch (fun _=>ext_bnd (ext_nm 200) fun _=>ext_bnd (ext_rpt xt _) fun _=>ext_ret _) hl h
 rw [e1] at h ⊢
 obtain ⟨n,l2,hn,rfl,b2,e2⟩:=can_step cn (fun _=>ext_bnd (ext_rpt xt _) fun _=>ext_ret _) b1 h
 rw [e2] at h ⊢
 obtain ⟨ts,l3,⟨t1,t2⟩,rfl,b3,e3⟩:=can_step (can_rpt ct xt n) (fun _=>ext_ret _) b2 h
 rw [e3]
 refine ⟨?_,hx,?_,t2⟩
 ·simp only [ret,be,t1,tbs,List.append_assoc]
 ·simp only [ret];omega
theorem can_bk:Can bkM be BkOk:=can_bkG can_hdX ext_hdX can_txX ext_txX
theorem txs_run {tx:Stp Tx}(ht:∀ r s,Rep r s→∃ r',tx_Take.f r=some ((tx s).1,r')∧Rep r' (tx s).2){r:cRd}{q:List Int×Er}(h:Rep r q)(n:Nat)(hn:n≤200)(x:cRd) :
  ∃ r',loopO (block_Read.s0 ((n:Int),x)) (0,r.b,r.at_,r.err,[])=some r'∧r'.1=(rpt n tx q).1∧Rep ⟨r'.2.1,r'.2.2.1,r'.2.2.2⟩ (rpt n tx q).2:=by
 refine loop_exists2 (fun i s=>s.1=(i:Int)∧Rep ⟨s.2.1,s.2.2.1,s.2.2.2.1⟩ (rpt i tx q).2∧s.2.2.2.2=(rpt i tx q).1) _ n ⟨rfl,h,rfl⟩ ?_ ?_
 ·rintro i hi ⟨s1,s2,s3,s4,s5⟩ ⟨h1,h2,h3⟩
  simp only at h1 h2 h3
  subst h1
  have hl:=rpt_len tx i q
  have hsucc:=rpt_succ tx i q
  rw [hsucc]
  rw [← h3] at hl ⊢
  generalize (rpt i tx q).2=z at h2 ⊢
  obtain ⟨r4,e4,p4⟩:=ht _ _ h2
  simp only [block_Read.s0]
  rw [if_pos (by omega),e4,Option.bind_some,if_pos (by omega),wu64 (by omega) (by omega)]
  exact ⟨_,rfl,by simp only;omega,p4,rfl⟩
 ·rintro ⟨s1,s2,s3,s4,s5⟩ ⟨h1,h2,h3⟩
  simp only at h1 h2 h3
  subst h1
  simp only [block_Read.s0]
  rw [if_neg (by omega)]
  exact ⟨_,rfl,h3,h2⟩
def zbk:Block:=⟨zhead,[]⟩
theorem bread_eqG {hd:Stp Head}{tx:Stp Tx}(hh:∀ r s,Rep r s→∃ r',head_Take.f r=some ((hd s).1,r')∧Rep r' (hd s).2)(ht:∀ r s,Rep r s→∃ r',tx_Take.f r=some ((tx s).1,r')∧Rep r' (tx s).2){b:List Int}(hb:Bs b)(hl:b.length≤1000000):block_Read.f b=some (if (bkG hd tx (b,.b 0)).2.2≠.b 0 then (zbk,(bkG hd tx (b,.b 0)).2.2) else if 0 < (bkG hd tx (b,.b 0)).2.1.length then (zbk,xErrShape) else ((bkG hd tx (b,.b 0)).1,.b 0)):=by
 obtain ⟨r1,e1,p1⟩:=read_eq hb hl
 obtain ⟨r2,e2,p2⟩:=hh _ _ p1
 simp only [block_Read.f]
 rw [e1,Option.bind_some,e2,Option.bind_some]
 unfold bkG
 rw [bnd_eq]
 generalize hd (b,.b 0)=w1 at *
 obtain ⟨r3,e3,p3⟩:=num_eq p2 200
 have k3:=nm_le 200 w1.2
 rw [show ((200:Nat):Int)=200 from rfl] at k3
 simp only
 rw [e3,Option.bind_some,bnd_eq]
 generalize nm 200 w1.2=w2 at *
 obtain ⟨r4,e4,q4,p4⟩:=txs_run ht p3 _ k3 r3
 rw [e4,Option.bind_some,bnd_eq]
 generalize rpt w2.1 tx w2.2=w3 at *
 obtain ⟨c1,c2,c3,c4⟩:=r4
 simp only at q4 p4 ⊢
 generalize hz:ret (⟨w1.1,w3.1⟩:Block) w3.2=z
 have z1:z.1=⟨w1.1,c1⟩:=by rw [← hz,q4];rfl
 have z2:w3.2=z.2:=by rw [← hz];rfl
 rw [z2] at p4
 rw [err_eq p4,Option.bind_some]
 by_cases hc:z.2.2=.b 0
 ·have n1:¬ (z.2.2≠.b 0):=fun h=>h hc
  rw [if_neg n1,left_eq p4,Option.bind_some,if_neg n1]
  by_cases hp:0 < z.2.1.length
  ·rw [if_pos (show 0 < (z.2.1.length:Int) by omega),if_pos hp];rfl
  ·rw [if_neg (show ¬ 0 < (z.2.1.length:Int) by omega),if_neg hp,z1]
 ·rw [if_pos hc,Option.bind_some,if_pos hc]
  rfl
theorem hdX_take {r:cRd}{s:List Int×Er}(h:Rep r s):∃ r',head_Take.f r=some ((hdX s).1,r')∧Rep r' (hdX s).2:=by
 have e:=htake_eq h
 have hx:hdX s=zX zhead hdM s:=rfl
 rw [hx,zX_def,hdM_eq]
 exact e
theorem txX_take {r:cRd}{s:List Int×Er}(h:Rep r s):∃ r',tx_Take.f r=some ((txX s).1,r')∧Rep r' (txX s).2:=by
 have e:=txtake_eq h
 have hx:txX s=zX ztx txM s:=rfl
 rw [hx,zX_def]
 generalize txM s=z at *
 exact e
theorem bread_eq {b:List Int}(hb:Bs b)(hl:b.length≤1000000):block_Read.f b=some (if (bkM (b,.b 0)).2.2≠.b 0 then (zbk,(bkM (b,.b 0)).2.2) else if 0 < (bkM (b,.b 0)).2.1.length then (zbk,xErrShape) else ((bkM (b,.b 0)).1,.b 0)):=by
 have h:=bread_eqG (hd:=hdX) (tx:=txX) (fun r s h=>hdX_take h) (fun r s h=>txX_take h) hb hl
 unfold bkM
 exact h
theorem loop_ends {τ ρ:Type}{step:τ→Option (τ⊕ρ)}(I:Nat→τ→Prop)(Post:ρ→Prop)(n:Nat){s:τ}(h0:I 0 s)(h:∀ i,i < n→∀ s,I i s→(∃ s',step s=some (.inl s')∧I (i+1) s')∨∃ r,step s=some (.inr r)∧Post r)(hn:∀ s,I n s→∃ r,step s=some (.inr r)∧Post r):∃ r,loopO step s=some r∧Post r:=by
 have key:∀ m k s,k+m=n→I k s→∃ r,loopO step s=some r∧Post r:=by
  intro m
  induction m with
  | zero =>
   intro k s e hI
   obtain ⟨r,h1,h2⟩:=hn s (by rw [← e];exact hI)
   exact ⟨r,loopO_inr h1,h2⟩
  | succ m ih =>
   intro k s e hI
   rcases h k (by omega) s hI with ⟨s',h1,h2⟩ | ⟨r,h1,h2⟩
   ·rw [loopO_inl h1]
    exact ih (k+1) s' (by omega) h2
   ·exact ⟨r,loopO_inr h1,h2⟩
 exact key n 0 s (by omega) h0
def rf (s:List Int×Er):q1Rd:=⟨s.1,cd s.2⟩
theorem cd_nil:cd (.b 0)=0:=rfl
theorem cd_zero {e:Er}(h:Kn e):cd e=0 ↔ e=.b 0:=by rw [← cd_nil];exact cd_eq h (.inl rfl)
theorem kn_end:Kn xErrEnd:=.inr (by decide)
theorem kn_shape:Kn xErrShape:=.inr (by decide)
theorem kn_many:Kn xErrMany:=.inr (by decide)
theorem nx_kn {n:Nat}{s:List Int×Er}(h:Kn s.2):Kn (nx n s).2.2:=by
 unfold nx
 split
 ·exact h
 ·split
  ·exact kn_end
  ·exact h
theorem nx_short {n:Nat}{s:List Int×Er}:(nx n s).2.1.length≤s.1.length∧(nx n s).1.length≤s.1.length:=by
 unfold nx
 split
 ·simp
 ·split
  ·simp
  ·simp;omega
theorem take_eq {s:List Int×Er}(hk:Kn s.2)(hl:s.1.length≤1000000)(n:Nat):q1R_take.f (rf s) (n:Int)=some ((nx n s).1,rf (nx n s).2):=by
 obtain ⟨b,e⟩:=s
 simp only at hk hl
 show q1R_take.f ⟨b,cd e⟩ (n:Int)=some ((nx n (b,e)).1,⟨(nx n (b,e)).2.1,cd (nx n (b,e)).2.2⟩)
 simp only [q1R_take.f,nx]
 by_cases he:e=.b 0
 ·subst he
  have h00:(if cd (Er.b 0)≠0 then some true else some (decide ((n:Int) < 0)))=some false:=by
   rw [cd_nil,if_neg (fun h=>h rfl),decide_eq_false (by omega)]
  rw [h00,Option.bind_some,if_neg (by decide)]
  rw [if_neg (show ¬ (Er.b 0≠Er.b 0) from fun h=>h rfl)]
  by_cases hc:b.length < n
  ·rw [if_pos (by omega),if_pos hc];rfl
  ·rw [if_neg (by omega),if_neg hc,if_pos (by omega),Int.toNat_natCast,show Int.toNat 0=0 from rfl,List.drop_zero,bytes_eq _ (by rw [List.length_take];omega),Option.bind_some,Int.toNat_natCast,List.take_length]
 ·have h0:cd e≠0:=fun h=>he ((cd_zero hk).1 h)
  rw [if_pos h0,Option.bind_some,if_pos rfl,if_pos he]
theorem num1_eq {s:List Int×Er}(hk:Kn s.2)(hb:Bs s.1)(hl:s.1.length≤1000000)(n:Nat)(hn:n≤8):q1R_num.f (rf s) (n:Int)=some (((wh n s).1:Int),rf (wh n s).2):=by
 simp only [q1R_num.f,wh]
 rw [take_eq hk hl,Option.bind_some]
 have hlen:=nx_len n s
 have hbs:=(nx_bs (n:=n) hb).1
 generalize (nx n s).1=l at *
 have h:loopO (q1R_num.s0 (l,rf (nx n s).2)) (0,0)=some (vl l:Int):=by
  refine loop_run (fun i=>(((vl (l.take i):Nat):Int),(i:Int))) l.length (by simp [vl]) (fun i hi=>?_) ?_
  ·simp only [q1R_num.s0,Int.toNat_natCast]
   have w8:IntKind.u64.wrap (IntKind.i64.wrap (8 * (i:Int)))=((8 * i:Nat):Int):=by rw [w64 (by omega) (by omega),wu64 (by omega) (by omega)];omega
   rw [if_pos (by omega),if_pos (by omega),w8,if_pos (by omega),winc i (by omega),vl_step l hbs i hi (by omega)]
  ·simp only [q1R_num.s0]
   rw [if_neg (by omega),List.take_length]
 rw [h,Option.bind_some]
theorem wh_lt {n:Nat}{s:List Int×Er}(hb:Bs s.1):(wh n s).1 < 256 ^ n:=by
 have h3:=vl_lt (nx_bs (n:=n) hb).1
 exact Nat.lt_of_lt_of_le h3 (Nat.pow_le_pow_right (by decide) (nx_len n s))
theorem wh_kn {n:Nat}{s:List Int×Er}(h:Kn s.2):Kn (wh n s).2.2:=nx_kn h
theorem wh_bs {n:Nat}{s:List Int×Er}(h:Bs s.1):Bs (wh n s).2.1:=(nx_bs h).2
theorem wh_short {n:Nat}{s:List Int×Er}:(wh n s).2.1.length≤s.1.length:=nx_short.1
theorem rd4_eq {s:List Int×Er}(hk:Kn s.2)(hb:Bs s.1)(hl:s.1.length≤1000000):q1R_Four.f (rf s)=some (((wh 4 s).1:Int),rf (wh 4 s).2):=by
 have h:=num1_eq hk hb hl 4 (by omega)
 have h4:=wh_lt (n:=4) hb
 rw [show ((4:Nat):Int)=4 from rfl] at h
 simp only [q1R_Four.f]
 rw [h,Option.bind_some,wu32 (by omega) (by omega)]
theorem rd8_eq {s:List Int×Er}(hk:Kn s.2)(hb:Bs s.1)(hl:s.1.length≤1000000):q1R_Eight.f (rf s)=some (((wh 8 s).1:Int),rf (wh 8 s).2):=by
 have h:=num1_eq hk hb hl 8 (by omega)
 rw [show ((8:Nat):Int)=8 from rfl] at h
 simp only [q1R_Eight.f]
 rw [h,Option.bind_some]
theorem bytes1_eq {s:List Int×Er}(hk:Kn s.2)(hl:s.1.length≤1000000)(n:Int):q1R_Bytes.f (rf s) n=some ((by_ n s).1,rf (by_ n s).2):=by
 simp only [q1R_Bytes.f,by_]
 by_cases h0:n≤0
 ·rw [if_pos h0]
  by_cases hz:n=0
  ·subst hz
   have h:=take_eq hk hl 0
   rw [show ((0:Nat):Int)=0 from rfl] at h
   rw [h,Option.bind_some]
   unfold nx
   by_cases he:s.2≠.b 0
   ·rw [if_pos he]
   ·rw [if_neg he,if_neg (by omega)]
    simp
  ·simp only [q1R_take.f]
   have:(if (rf s).E≠0 then some true else some (decide (n < 0)))=some true:=by
    split
    ·rfl
    ·rw [decide_eq_true (by omega)]
   rw [this,Option.bind_some,if_pos rfl,Option.bind_some]
 ·rw [if_neg h0]
  have h:=take_eq hk hl n.toNat
  rw [Int.toNat_of_nonneg (by omega)] at h
  rw [h,Option.bind_some]
theorem hash1_eq {s:List Int×Er}(hk:Kn s.2)(hl:s.1.length≤1000000):q1R_Hash.f (rf s)=some ((h32 s).1,rf (h32 s).2):=by
 have h:=take_eq hk hl 32
 rw [show ((32:Nat):Int)=32 from rfl] at h
 simp only [q1R_Hash.f,h32]
 rw [h,Option.bind_some]
 have hfull:=nx_full 32 s
 generalize (nx 32 s).1=l at *
 have hlen:l.length≤32:=by rcases hfull with e | e <;> simp_all
 have h:loopO (q1R_Hash.s0 (l,rf (nx 32 s).2)) (0,List.replicate 32 0)=some (l++List.replicate (32 - l.length) 0):=by
  refine loop_run (fun i=>((i:Int),l.take i++List.replicate (32 - i) 0)) l.length (by simp) (fun i hi=>?_) ?_
  ·simp only [q1R_Hash.s0,Int.toNat_natCast]
   rw [if_pos (by omega),if_pos (by omega),if_pos (by omega),winc i (by omega),← take_next l i 0 hi]
   congr 3
   have e1:32 - i=(32 - (i+1))+1:=by omega
   rw [e1,List.replicate_succ]
   have e2:(l.take i).length=i:=by rw [List.length_take];omega
   rw [List.set_append,if_neg (by omega),e2,Nat.sub_self,List.set_cons_zero,List.append_assoc]
   rfl
  ·simp only [q1R_Hash.s0]
   rw [if_neg (by omega),List.take_length]
 rw [h,Option.bind_some]
 rcases hfull with e | e
 ·subst e;rfl
 ·rw [if_neg (fun h=>by rw [h] at e;cases e),e];simp
theorem nm_kn {most:Int}{s:List Int×Er}(h:Kn s.2):Kn (nm most s).2.2:=by
 unfold nm
 have h1:=wh_kn (n:=1) h
 generalize wh 1 s=a at *
 have h2:Kn (if 0 < my a.1 then wh (my a.1) a.2 else a).2.2:=by
  split
  ·exact wh_kn h1
  ·exact h1
 simp only
 generalize (if 0 < my a.1 then wh (my a.1) a.2 else a)=b at *
 split
 ·exact h2
 ·split
  ·exact kn_shape
  ·split
   ·exact kn_many
   ·exact h2
theorem nm_bs {most:Int}{s:List Int×Er}(h:Bs s.1):Bs (nm most s).2.1∧(nm most s).2.1.length≤s.1.length:=by
 unfold nm
 have h1:=wh_bs (n:=1) h
 have l1:=wh_short (n:=1) (s:=s)
 generalize wh 1 s=a at *
 have h2:Bs (if 0 < my a.1 then wh (my a.1) a.2 else a).2.1∧(if 0 < my a.1 then wh (my a.1) a.2 else a).2.1.length≤s.1.length:=by
  split
  ·exact ⟨wh_bs h1,Nat.le_trans wh_short l1⟩
  ·exact ⟨h1,l1⟩
 simp only
 generalize (if 0 < my a.1 then wh (my a.1) a.2 else a)=b at *
 split
 ·exact h2
 ·split
  ·exact h2
  ·split
   ·exact h2
   ·exact h2
theorem nm1_eq {s:List Int×Er}(hk:Kn s.2)(hb:Bs s.1)(hl:s.1.length≤1000000)(most:Int):q1R_Num.f (rf s) most=some (((nm most s).1:Int),rf (nm most s).2):=by
 simp only [q1R_Num.f]
 by_cases he:s.2=.b 0
 ·have h0:(rf s).E=0:=by rw [rf,he];rfl
  rw [if_neg (fun h=>h h0)]
  have h1:=num1_eq hk hb hl 1 (by omega)
  rw [show ((1:Nat):Int)=1 from rfl] at h1
  rw [h1,Option.bind_some]
  unfold nm
  have hlt:=wh_lt (n:=1) hb
  have hk1:=wh_kn (n:=1) hk
  have hb1:=wh_bs (n:=1) hb
  have hl1:=wh_short (n:=1) (s:=s)
  generalize wh 1 s=a at *
  obtain ⟨a1,a2⟩:=a
  simp only at hlt hk1 hb1 hl1 ⊢
  have hmid:(if (a1:Int)=253 then ((q1R_num.f (rf a2) 2).bind fun r2=>some (r2.1,r2.2.B,r2.2.E)) else (if (a1:Int)=254 then ((q1R_num.f (rf a2) 4).bind fun r3=>some (r3.1,r3.2.B,r3.2.E)) else (if (a1:Int)=255 then ((q1R_num.f (rf a2) 8).bind fun r4=>some (r4.1,r4.2.B,r4.2.E)) else some ((a1:Int),(rf a2).B,(rf a2).E)))) =
    some ((((if 0 < my a1 then wh (my a1) a2 else (a1,a2)).1:Nat):Int),(rf (if 0 < my a1 then wh (my a1) a2 else (a1,a2)).2).B,(rf (if 0 < my a1 then wh (my a1) a2 else (a1,a2)).2).E):=by
   have g:∀ k:Nat,k≤8→q1R_num.f (rf a2) (k:Int)=some (((wh k a2).1:Int),rf (wh k a2).2):=fun k hk8=>num1_eq hk1 hb1 (by omega) k hk8
   have g2:=g 2 (by omega)
   have g4:=g 4 (by omega)
   have g8:=g 8 (by omega)
   by_cases c1:a1=253
   ·subst c1
    rw [if_pos (by rfl),show my 253=2 from rfl,if_pos (by omega),show (2:Int)=((2:Nat):Int) from rfl,g2,Option.bind_some]
   ·rw [if_neg (by omega)]
    by_cases c2:a1=254
    ·subst c2
     rw [if_pos (by rfl),show my 254=4 from rfl,if_pos (by omega),show (4:Int)=((4:Nat):Int) from rfl,g4,Option.bind_some]
    ·rw [if_neg (by omega)]
     by_cases c3:a1=255
     ·subst c3
      rw [if_pos (by rfl),show my 255=8 from rfl,if_pos (by omega),show (8:Int)=((8:Nat):Int) from rfl,g8,Option.bind_some]
     ·rw [if_neg (by omega)]
      have e0:my a1=0:=by unfold my;rw [if_neg c1,if_neg c2,if_neg c3]
      rw [e0,if_neg (Nat.lt_irrefl 0)]
  rw [hmid,Option.bind_some]
  have hkb:Kn (if 0 < my a1 then wh (my a1) a2 else (a1,a2)).2.2:=by
   split
   ·exact wh_kn hk1
   ·exact hk1
  generalize (if 0 < my a1 then wh (my a1) a2 else (a1,a2))=b at *
  obtain ⟨b1,b2,b3⟩:=b
  simp only at hkb ⊢
  by_cases c1:b3=.b 0
  ·subst c1
   rw [if_neg (show ¬ ((rf (b2,Er.b 0)).E≠0) from fun h=>h rfl),if_neg (show ¬ (Er.b 0≠Er.b 0) from fun h=>h rfl)]
   have hmany:(if 253≤(a1:Int) then (if 0≤(IntKind.u64.wrap ((a1:Int) - 253)) then some (IntKind.i64.wrap (1+(sL .i64 2 (IntKind.u64.wrap ((a1:Int) - 253))))) else none) else some 1)=some ((1+my a1:Nat):Int):=by
    by_cases d:a1 < 253
    ·rw [if_neg (by omega)]
     have e0:my a1=0:=by unfold my;rw [if_neg (by omega),if_neg (by omega),if_neg (by omega)]
     rw [e0];rfl
    ·have:a1=253∨a1=254∨a1=255:=by omega
     rcases this with rfl | rfl | rfl <;> decide
   rw [hmany,Option.bind_some,len1_eq,Option.bind_some]
   by_cases c2:ln b1=1+my a1
   ·rw [if_neg (show ¬ (((ln b1:Nat):Int)≠((1+my a1:Nat):Int)) from fun h=>h (by rw [c2])),if_neg (show ¬ (ln b1≠1+my a1) from fun h=>h c2)]
    by_cases c3:most < (b1:Int)
    ·rw [if_pos c3,if_pos c3,Option.bind_some];rfl
    ·rw [if_neg c3,if_neg c3,Option.bind_some];rfl
   ·rw [if_pos (by omega),if_pos c2,Option.bind_some];rfl
  ·have h0:(rf (b2,b3)).E≠0:=fun h=>c1 ((cd_zero hkb).1 h)
   rw [if_pos h0,if_pos c1];rfl
 ·have h0:(rf s).E≠0:=fun h=>he ((cd_zero hk).1 h)
  obtain ⟨l,e⟩:=s
  rw [if_pos h0,nm_err he];rfl
structure Ok_ (s:List Int×Er):Prop where
 k:Kn s.2
 b:Bs s.1
 n:s.1.length≤1000000
section
variable {α β:Type}
def Wf (f:Stp α):Prop:=∀ s,Ok_ s→Ok_ (f s).2
theorem wf_ret (x:α):Wf (ret x):=fun s h=>h
theorem wf_bnd {f:Stp α}{g:α→Stp β}(hf:Wf f)(hg:∀ x,Wf (g x)):Wf (bnd f g):=fun s h=>hg _ _ (hf s h)
theorem wf_nx (n:Nat):Wf (nx n):=fun s h=>⟨nx_kn h.k,(nx_bs h.b).2,Nat.le_trans nx_short.1 h.n⟩
theorem wf_wh (n:Nat):Wf (wh n):=fun s h=>wf_nx n s h
theorem wf_h32:Wf h32:=fun s h=>wf_nx 32 s h
theorem wf_by (n:Int):Wf (by_ n):=fun s h=>by
 unfold by_
 split
 ·exact h
 ·exact wf_nx _ s h
theorem wf_nm (m:Int):Wf (nm m):=fun s h=>⟨nm_kn h.k,(nm_bs h.b).1,Nat.le_trans (nm_bs h.b).2 h.n⟩
theorem wf_rpt {f:Stp α}(h:Wf f):∀ n,Wf (rpt n f)
 | 0=>wf_ret []
 | n+1=>wf_bnd h fun _=>wf_bnd (wf_rpt h n) fun _=>wf_ret _
theorem wf_in:Wf inM:=wf_bnd wf_h32 fun _=>wf_bnd (wf_wh 4) fun _=>wf_bnd (wf_nm 80) fun _=>wf_bnd (wf_by _) fun _=>wf_bnd (wf_wh 4) fun _=>wf_ret _
theorem wf_out:Wf outM:=wf_bnd (wf_wh 8) fun _=>wf_bnd wf_h32 fun _=>wf_ret _
theorem wf_tx:Wf txM:=wf_bnd (wf_wh 4) fun _=>wf_bnd (wf_nm 50) fun _=>wf_bnd (wf_rpt wf_in _) fun _=>wf_bnd (wf_nm 50) fun _=>wf_bnd (wf_rpt wf_out _) fun _=>wf_bnd (wf_wh 4) fun _=>wf_ret _
theorem wf_z {z:α}{f:Stp α}(h:Wf f):Wf (zX z f):=fun s hs=>h s hs
theorem ext_back {f:Stp α}(h:Ext f){s:List Int×Er}(e:(f s).2.2=.b 0):s.2=.b 0:=by
 rcases Classical.em (s.2=.b 0) with h1 | h1
 ·exact h1
 ·have:=h.err s.1 s.2 h1
  rw [show (s.1,s.2)=s from rfl] at this
  rw [this] at e
  exact e
theorem rpt_stay {f:Stp α}(h:Ext f)(q:List Int×Er)(i:Nat)(he:(rpt i f q).2.2≠.b 0):∀ m,(rpt (i+m) f q).2=(rpt i f q).2
 | 0=>rfl
 | m+1=>by
  have ih:=rpt_stay h q i he m
  rw [show i+(m+1)=(i+m)+1 by omega,rpt_succ,ih]
  exact h.err (rpt i f q).2.1 (rpt i f q).2.2 he
theorem loop_doc {f:Stp α}(hf:Ext f)(hw:Wf f){step:Int×List Int×Int×List α→Option ((Int×List Int×Int×List α)⊕(List Int×Int×List α))}(n:Nat)
  (hs:∀ i ts z,i < n→Ok_ z→z.2=.b 0→ts.length=i→step ((i:Int),z.1,cd z.2,ts)=some (.inl (((i+1:Nat):Int),(f z).2.1,cd (f z).2.2,ts++[(f z).1])))
  (he:∀ i ts z,i≤n→Ok_ z→(i=n∨z.2≠.b 0)→step ((i:Int),z.1,cd z.2,ts)=some (.inr (z.1,cd z.2,ts))) (q:List Int×Er) (hq:Ok_ q) :
  ∃ ts,loopO step (0,q.1,cd q.2,[])=some ((rpt n f q).2.1,cd (rpt n f q).2.2,ts)∧((rpt n f q).2.2=.b 0→ts=(rpt n f q).1):=by
 obtain ⟨r,h1,ts,rfl,h2⟩:=loop_ends (step:=step) (fun i s=>s=((i:Int),(rpt i f q).2.1,cd (rpt i f q).2.2,(rpt i f q).1)) (fun r=>∃ ts,r=((rpt n f q).2.1,cd (rpt n f q).2.2,ts)∧((rpt n f q).2.2=.b 0→ts=(rpt n f q).1)) n (s:=(0,q.1,cd q.2,[])) rfl (fun i hi s e=>by
  subst e
  have ok:=wf_rpt hw i q hq
  have hl:=rpt_len f i q
  by_cases c:(rpt i f q).2.2=.b 0
  ·refine .inl ⟨_,hs i _ _ hi ok c hl,?_⟩
   rw [rpt_succ]
  ·refine .inr ⟨_,he i _ _ (by omega) ok (.inr c),(rpt i f q).1,?_,fun h=>?_⟩
   ·have:=rpt_stay hf q i c (n - i)
    rw [show i+(n - i)=n by omega] at this
    rw [this]
   ·have:=rpt_stay hf q i c (n - i)
    rw [show i+(n - i)=n by omega] at this
    rw [this] at h
    exact absurd h c) (fun s e=>by
  subst e
  exact ⟨_,he n _ _ (Nat.le_refl _) (wf_rpt hw n q hq) (.inl rfl),(rpt n f q).1,rfl,fun _=>rfl⟩)
 exact ⟨ts,h1,h2⟩
end
theorem cd0 {z:List Int×Er}(h:Ok_ z):cd z.2=0 ↔ z.2=.b 0:=cd_zero h.k
theorem rd_hash {z:List Int×Er}(h:Ok_ z):q1R_Hash.f ⟨z.1,cd z.2⟩=some ((h32 z).1,⟨(h32 z).2.1,cd (h32 z).2.2⟩):=hash1_eq h.k h.n
theorem rd_four {z:List Int×Er}(h:Ok_ z):q1R_Four.f ⟨z.1,cd z.2⟩=some (((wh 4 z).1:Int),⟨(wh 4 z).2.1,cd (wh 4 z).2.2⟩):=rd4_eq h.k h.b h.n
theorem rd_eight {z:List Int×Er}(h:Ok_ z):q1R_Eight.f ⟨z.1,cd z.2⟩=some (((wh 8 z).1:Int),⟨(wh 8 z).2.1,cd (wh 8 z).2.2⟩):=rd8_eq h.k h.b h.n
theorem rd_bytes {z:List Int×Er}(h:Ok_ z)(n:Int):q1R_Bytes.f ⟨z.1,cd z.2⟩ n=some ((by_ n z).1,⟨(by_ n z).2.1,cd (by_ n z).2.2⟩):=bytes1_eq h.k h.n n
theorem rd_num {z:List Int×Er}(h:Ok_ z)(m:Int):q1R_Num.f ⟨z.1,cd z.2⟩ m=some (((nm m z).1:Int),⟨(nm m z).2.1,cd (nm m z).2.2⟩):=nm1_eq h.k h.b h.n m
theorem ins_doc (q:List Int×Er)(hq:Ok_ q)(n:Nat)(hn:n≤50)(x:q1Rd) :
  ∃ ts,loopO (q1_TakeTx.s0 ((n:Int),x)) (0,q.1,cd q.2,[])=some ((rpt n inM q).2.1,cd (rpt n inM q).2.2,ts)∧((rpt n inM q).2.2=.b 0→ts=(rpt n inM q).1):=by
 refine loop_doc ext_in wf_in n (fun i ts z hi ok hz hl=>?_) (fun i ts z hi ok hz=>?_) q hq
 ·simp only [q1_TakeTx.s0]
  have o1:=wf_h32 _ ok
  have o2:=wf_wh 4 _ o1
  have o3:=wf_nm 80 _ o2
  have k5:=nm_le 80 (wh 4 (h32 z).2).2
  rw [show ((80:Nat):Int)=80 from rfl] at k5
  rw [if_pos (by omega),hz,show cd (Er.b 0)=0 from rfl,Option.bind_some,if_pos (by decide)]
  have hz':(⟨z.1,0⟩:q1Rd)=⟨z.1,cd z.2⟩:=by rw [hz];rfl
  rw [hz',rd_hash ok,Option.bind_some,rd_four o1,Option.bind_some,rd_num o2,Option.bind_some]
  unfold inM
  rw [bnd_eq,bnd_eq,bnd_eq,bnd_eq,bnd_eq]
  generalize nm 80 (wh 4 (h32 z).2).2=w at *
  have o4:=wf_by (w.1:Int) _ o3
  rw [w64 (by omega) (by omega),rd_bytes o3,Option.bind_some,rd_four o4,Option.bind_some,if_pos (by omega),wu64 (by omega) (by omega)]
  rfl
 ·simp only [q1_TakeTx.s0]
  rcases hz with rfl | hz
  ·rw [if_neg (by omega),Option.bind_some,if_neg (by decide)]
  ·have h0:¬ cd z.2=0:=fun h=>hz ((cd0 ok).1 h)
   have:(if (i:Int) < (n:Int) then some (decide (cd z.2=0)) else some false)=some false:=by
    split
    ·rw [decide_eq_false h0]
    ·rfl
   rw [this,Option.bind_some,if_neg (by decide)]
theorem outs_doc (q:List Int×Er)(hq:Ok_ q)(n:Nat)(hn:n≤50)(x:q1Rd) :
  ∃ ts,loopO (q1_TakeTx.s1 ((n:Int),x)) (0,q.1,cd q.2,[])=some ((rpt n outM q).2.1,cd (rpt n outM q).2.2,ts)∧((rpt n outM q).2.2=.b 0→ts=(rpt n outM q).1):=by
 refine loop_doc ext_out wf_out n (fun i ts z hi ok hz hl=>?_) (fun i ts z hi ok hz=>?_) q hq
 ·simp only [q1_TakeTx.s1]
  have o1:=wf_wh 8 _ ok
  rw [if_pos (by omega),hz,show cd (Er.b 0)=0 from rfl,Option.bind_some,if_pos (by decide)]
  have hz':(⟨z.1,0⟩:q1Rd)=⟨z.1,cd z.2⟩:=by rw [hz];rfl
  rw [hz',rd_eight ok,Option.bind_some,rd_hash o1,Option.bind_some,if_pos (by omega),wu64 (by omega) (by omega)]
  rfl
 ·simp only [q1_TakeTx.s1]
  rcases hz with rfl | hz
  ·rw [if_neg (by omega),Option.bind_some,if_neg (by decide)]
  ·have h0:¬ cd z.2=0:=fun h=>hz ((cd0 ok).1 h)
   have:(if (i:Int) < (n:Int) then some (decide (cd z.2=0)) else some false)=some false:=by
    split
    ·rw [decide_eq_false h0]
    ·rfl
   rw [this,Option.bind_some,if_neg (by decide)]
theorem tx_doc (s:List Int×Er)(h:Ok_ s):q1_TakeTx.f ⟨s.1,cd s.2⟩=some ((if (txM s).2.2≠.b 0 then ztx else (txM s).1),⟨(txM s).2.1,cd (txM s).2.2⟩):=by
 simp only [q1_TakeTx.f]
 unfold txM
 rw [rd_four h,Option.bind_some,bnd_eq]
 have o1:=wf_wh 4 _ h
 generalize wh 4 s=w1 at *
 have k2:=nm_le 50 w1.2
 rw [show ((50:Nat):Int)=50 from rfl] at k2
 have o2:=wf_nm 50 _ o1
 rw [rd_num o1,Option.bind_some,bnd_eq]
 generalize nm 50 w1.2=w2 at *
 obtain ⟨t1,e1,q1⟩:=ins_doc w2.2 o2 w2.1 k2 ⟨w2.2.1,cd w2.2.2⟩
 have o3:=wf_rpt wf_in w2.1 _ o2
 simp only
 rw [e1,Option.bind_some,bnd_eq]
 generalize rpt w2.1 inM w2.2=w3 at *
 have k4:=nm_le 50 w3.2
 rw [show ((50:Nat):Int)=50 from rfl] at k4
 have o4:=wf_nm 50 _ o3
 have b4:=ext_back (ext_nm 50) (s:=w3.2)
 rw [rd_num o3,Option.bind_some,bnd_eq]
 generalize nm 50 w3.2=w4 at *
 obtain ⟨t2,e2,q2⟩:=outs_doc w4.2 o4 w4.1 k4 ⟨w4.2.1,cd w4.2.2⟩
 have o5:=wf_rpt wf_out w4.1 _ o4
 have b5:=ext_back (ext_rpt ext_out w4.1) (s:=w4.2)
 simp only
 rw [e2,Option.bind_some,bnd_eq]
 generalize rpt w4.1 outM w4.2=w5 at *
 have o6:=wf_wh 4 _ o5
 have b6:=ext_back (ext_wh 4) (s:=w5.2)
 rw [rd_four o5,Option.bind_some,bnd_eq]
 generalize wh 4 w5.2=w6 at *
 show (if cd w6.2.2≠0 then some ((⟨0,[],[],0⟩:Tx),(⟨w6.2.1,cd w6.2.2⟩:q1Rd)) else some ((⟨(w1.1:Int),t1,t2,(w6.1:Int)⟩:Tx),⟨w6.2.1,cd w6.2.2⟩))=some ((if w6.2.2≠Er.b 0 then ztx else (⟨(w1.1:Int),w3.1,w5.1,(w6.1:Int)⟩:Tx)),⟨w6.2.1,cd w6.2.2⟩)
 by_cases hc:w6.2.2=.b 0
 ·have c0:=(cd0 o6).2 hc
  rw [if_neg (fun h=>h c0),if_neg (fun h=>h hc),q2 (b6 hc),q1 (b4 (b5 (b6 hc)))]
 ·have c0:cd w6.2.2≠0:=fun h=>hc ((cd0 o6).1 h)
  rw [if_pos c0,if_pos hc]
  rfl
theorem both_run {A B:Type}{s1:Int→Option (Int⊕A)}{s2:Int→Option (Int⊕B)}(n:Nat)(p:Nat→Prop)(a:Nat→A)(b:Nat→B)(a':A)(b':B)(hn:n < 9223372036854775807)
  (h1:∀ i,i < n→p i→s1 (i:Int)=some (.inl (IntKind.i64.wrap ((i:Int)+1)))∧s2 (i:Int)=some (.inl (IntKind.i64.wrap ((i:Int)+1))))
  (h2:∀ i,i < n→¬ p i→s1 (i:Int)=some (.inr (a i))∧s2 (i:Int)=some (.inr (b i))) (h3:(∀ i,i < n→p i)→s1 (n:Int)=some (.inr a')∧s2 (n:Int)=some (.inr b')) :
  (∃ i,i < n∧¬ p i∧loopO s1 0=some (a i)∧loopO s2 0=some (b i))∨((∀ i,i < n→p i)∧loopO s1 0=some a'∧loopO s2 0=some b'):=by
 have key:∀ m k,m+k=n→(∀ i,i < k→p i)→(∃ i,i < n∧¬ p i∧loopO s1 (k:Int)=some (a i)∧loopO s2 (k:Int)=some (b i))∨((∀ i,i < n→p i)∧loopO s1 (k:Int)=some a'∧loopO s2 (k:Int)=some b'):=by
  intro m
  induction m with
  | zero =>
   intro k e h
   obtain rfl:k=n:=by omega
   obtain ⟨e1,e2⟩:=h3 h
   exact .inr ⟨h,loopO_inr e1,loopO_inr e2⟩
  | succ m ih =>
   intro k e h
   rcases Classical.em (p k) with hp | hp
   ·obtain ⟨e1,e2⟩:=h1 k (by omega) hp
    rw [winc k (by omega)] at e1 e2
    rw [loopO_inl e1,loopO_inl e2]
    refine ih (k+1) (by omega) fun i hi=>?_
    rcases Nat.lt_or_ge i k with h2 | h2
    ·exact h i h2
    ·obtain rfl:i=k:=by omega
     exact hp
   ·obtain ⟨e1,e2⟩:=h2 k (by omega) hp
    exact .inl ⟨k,by omega,hp,loopO_inr e1,loopO_inr e2⟩
 exact key n 0 (by omega) (by simp)
def apart (t u:Tx):Prop:=idt t≠idt u∧∀ p∈frs t,p ∉ frs u
instance (t u:Tx):Decidable (apart t u):=inferInstanceAs (Decidable (_∧_))
def allp (l:List Tx):List Point:=(l.map frs).flatten
theorem apart_iff (l:List Tx)(h:∀ t∈l,(frs t).Nodup):((l.map idt).Nodup∧(allp l).Nodup) ↔ ∀ i,i < l.length→∀ j,j < i→apart (l.getD j default) (l.getD i default):=by
 have h1:(l.map idt).Nodup ↔ l.Pairwise fun t u=>idt t≠idt u:=by
  unfold List.Nodup
  rw [List.pairwise_map]
 have h2:(allp l).Nodup ↔ l.Pairwise fun t u=>∀ p∈frs t,p ∉ frs u:=by
  unfold allp
  unfold List.Nodup
  rw [List.pairwise_flatten,List.pairwise_map]
  constructor
  ·rintro ⟨_,h3⟩
   exact h3.imp fun hd p hp hq=>hd p hp p hq rfl
  ·intro h3
   refine ⟨fun x hx=>?_,h3.imp (by intro a b hd p hp q hq e;subst e;exact hd p hp hq)⟩
   obtain ⟨t,ht,rfl⟩:=List.mem_map.1 hx
   exact h t ht
 rw [h1,h2,List.pairwise_iff_getElem,List.pairwise_iff_getElem]
 constructor
 ·rintro ⟨a,b⟩ i hi j hj
  rw [gd _ _ hi,gd _ _ (show j < l.length by omega)]
  exact ⟨a j i (by omega) hi hj,b j i (by omega) hi hj⟩
 ·intro a
  refine ⟨fun j i hj hi hji=>?_,fun j i hj hi hji=>?_⟩
  ·have:=(a i hi j hji).1
   rw [gd _ _ hi,gd _ _ hj] at this
   exact this
  ·have:=(a i hi j hji).2
   rw [gd _ _ hi,gd _ _ hj] at this
   exact this
def pok (l:List Tx):Prop:=(l.map idt).Nodup∧(allp l).Nodup
instance (l:List Tx):Decidable (pok l):=inferInstanceAs (Decidable (_∧_))
theorem frs_at (t:Tx)(j:Nat)(h:j < t.Ins.length):(frs t).take (j+1)=(frs t).take j++[(t.Ins.getD j default).From]:=by
 have:=frs_next t j h
 simp only [frs,← List.map_take]
 exact this
theorem twice_is {b:Block}(h:TsOk b.Txs):block_twice.f b=some (decide (¬ pok b.Txs)):=by
 have hn:=h.n
 simp only [block_twice.f]
 rw [ids_eq h,Option.bind_some]
 have hl:(b.Txs.map idt).length=b.Txs.length:=by simp
 have hg:∀ i,i < b.Txs.length→(b.Txs.map idt).getD i []=idt (b.Txs.getD i default):=fun i hi=>by
  rw [gd _ _ (by simpa using hi),gd _ _ hi];simp
 have hap:∀ i,i < b.Txs.length→allp (b.Txs.take (i+1))=allp (b.Txs.take i)++frs (b.Txs.getD i default):=fun i hi=>by
  unfold allp
  rw [← take_next b.Txs i default hi];simp
 have hid:∀ i,i < b.Txs.length→(b.Txs.take (i+1)).map idt=(b.Txs.take i).map idt++[idt (b.Txs.getD i default)]:=fun i hi=>by
  rw [← take_next b.Txs i default hi];simp
 obtain ⟨r,h1,rfl⟩:=loop_ends (step:=block_twice.s0 b (b.Txs.map idt)) (fun i (s:Int×(List (Point×Bool))×(List ((List Int)×Bool)))=>s.1=(i:Int)∧(∀ p,((mget s.2.1 p).getD false=true ↔ p∈allp (b.Txs.take i)))∧(∀ x,((mget s.2.2 x).getD false=true ↔ x∈(b.Txs.take i).map idt))∧((b.Txs.take i).map idt).Nodup∧(allp (b.Txs.take i)).Nodup) (fun r=>r=decide (¬ pok b.Txs)) b.Txs.length (s:=(0,[],[])) ⟨rfl,fun p=>by simp [mget,allp],fun x=>by simp [mget],by simp,by simp [allp]⟩ (fun i hi s hs=>by
  obtain ⟨s1,s2,s3⟩:=s
  obtain ⟨hs1,hs2,hs3,hs4,hs5⟩:=hs
  simp only at hs1 hs2 hs3
  subst hs1
  have hm:=getD_mem (l:=b.Txs) (d:=default) hi
  have hf:=(h.few _ hm).ins
  have hgi:(b.Txs.map idt).getD ((i:Int)).toNat []=idt (b.Txs.getD i default):=hg i hi
  simp only [block_twice.s0]
  rw [if_pos (by omega),if_pos (by omega),if_pos (show 0≤(i:Int)∧(i:Int) < (b.Txs.length:Int) by omega),hgi]
  by_cases c:idt (b.Txs.getD i default)∈(b.Txs.take i).map idt
  ·rw [if_pos ((hs3 _).2 c)]
   refine .inr ⟨_,rfl,(decide_eq_true ?_).symm⟩
   rintro ⟨hp,_⟩
   have:((b.Txs.take (i+1)).map idt).Nodup:=hp.sublist ((List.take_sublist _ _).map _)
   rw [hid i hi] at this
   exact (List.nodup_append.1 this).2.2 _ c _ (by simp) rfl
  ·rw [if_neg (fun h=>c ((hs3 _).1 h))]
   have hi4:((b.Txs.take (i+1)).map idt).Nodup:=by
    rw [hid i hi]
    refine List.nodup_append.2 ⟨hs4,by simp,fun x hx y hy e=>?_⟩
    obtain rfl:y=idt (b.Txs.getD i default):=by simpa using hy
    exact c (e ▸ hx)
   obtain ⟨q,e1,e2⟩:=loop_ends (step:=block_twice.s1 b (b.Txs.map idt) (i:Int) s3) (fun j (s:Int×List (Point×Bool))=>s.1=(j:Int)∧(∀ p,((mget s.2 p).getD false=true ↔ p∈allp (b.Txs.take i)++(frs (b.Txs.getD i default)).take j))∧(allp (b.Txs.take i)++(frs (b.Txs.getD i default)).take j).Nodup)
    (fun q=>(∃ m,q=.inl (((i+1:Nat):Int),m,mput s3 (idt (b.Txs.getD i default)) true)∧(∀ p,((mget m p).getD false=true ↔ p∈allp (b.Txs.take (i+1))))∧(allp (b.Txs.take (i+1))).Nodup)∨(q=.inr true∧¬ (allp (b.Txs.take (i+1))).Nodup)) (b.Txs.getD i default).Ins.length (s:=(0,s2)) ⟨rfl,fun p=>by simpa using hs2 p,by simpa using hs5⟩ (fun j hj s hs=>by
    obtain ⟨t1,t2⟩:=s
    obtain ⟨ht1,ht2,ht3⟩:=hs
    simp only at ht1 ht2
    subst ht1
    simp only [block_twice.s1,Int.toNat_natCast]
    rw [if_pos (by omega),if_pos (by omega)]
    have hfr:=frs_at (b.Txs.getD i default) j hj
    by_cases d:((b.Txs.getD i default).Ins.getD j default).From∈allp (b.Txs.take i)++(frs (b.Txs.getD i default)).take j
    ·rw [if_pos ((ht2 _).2 d)]
     refine .inr ⟨_,rfl,.inr ⟨rfl,fun hd=>?_⟩⟩
     rw [hap i hi] at hd
     have:(allp (b.Txs.take i)++(frs (b.Txs.getD i default)).take (j+1)).Nodup:=hd.sublist ((List.append_sublist_append_left _).2 (List.take_sublist _ _))
     rw [hfr,← List.append_assoc] at this
     exact (List.nodup_append.1 this).2.2 _ d _ (by simp) rfl
    ·rw [if_neg (fun h=>d ((ht2 _).1 h))]
     refine .inl ⟨_,rfl,winc j (by omega),fun p=>?_,?_⟩
     ·simp only
      rw [mget_put,hfr,← List.append_assoc]
      by_cases ck:((b.Txs.getD i default).Ins.getD j default).From=p
      ·rw [if_pos ck,← ck];simp
      ·rw [if_neg ck,ht2 p,List.mem_append (t:=[_])]
       refine ⟨.inl,fun h=>?_⟩
       rcases h with h | h
       ·exact h
       ·exact absurd (by simpa using h) (fun e=>ck (Eq.symm e))
     ·rw [hfr,← List.append_assoc]
      refine List.nodup_append.2 ⟨ht3,by simp,fun x hx y hy e=>?_⟩
      obtain rfl:y=((b.Txs.getD i default).Ins.getD j default).From:=by simpa using hy
      exact d (e ▸ hx)) (fun s hs=>by
    obtain ⟨t1,t2⟩:=s
    obtain ⟨ht1,ht2,ht3⟩:=hs
    simp only at ht1 ht2
    subst ht1
    have hall:(frs (b.Txs.getD i default)).take (b.Txs.getD i default).Ins.length=frs (b.Txs.getD i default):=List.take_of_length_le (by simp [frs])
    rw [hall] at ht2 ht3
    simp only [block_twice.s1,Int.toNat_natCast]
    rw [if_neg (by omega),winc i (by omega),hg i hi]
    exact ⟨_,rfl,.inl ⟨t2,rfl,fun p=>by rw [hap i hi];exact ht2 p,by rw [hap i hi];exact ht3⟩⟩)
   rcases e2 with ⟨m,rfl,m2,m3⟩ | ⟨rfl,m3⟩
   ·refine .inl ⟨_,e1,rfl,m2,fun x=>?_,hi4,m3⟩
    simp only
    rw [mget_put,hid i hi]
    by_cases ck:idt (b.Txs.getD i default)=x
    ·rw [if_pos ck,← ck];simp
    ·rw [if_neg ck,hs3 x,List.mem_append]
     refine ⟨.inl,fun h=>?_⟩
     rcases h with h | h
     ·exact h
     ·exact absurd (by simpa using h) (fun e=>ck (Eq.symm e))
   ·refine .inr ⟨_,e1,(decide_eq_true ?_).symm⟩
    rintro ⟨_,hp⟩
    refine m3 (hp.sublist ?_)
    have e:=congrArg (fun l=>(l.map frs).flatten) (List.take_append_drop (i+1) b.Txs)
    simp only [List.map_append,List.flatten_append] at e
    show ((b.Txs.take (i+1)).map frs).flatten.Sublist (b.Txs.map frs).flatten
    rw [← e]
    exact List.sublist_append_left _ _) (fun s hs=>by
  obtain ⟨s1,s2,s3⟩:=s
  obtain ⟨hs1,hs2,hs3,hs4,hs5⟩:=hs
  simp only at hs1
  subst hs1
  rw [List.take_length] at hs4 hs5
  simp only [block_twice.s0]
  rw [if_neg (by omega)]
  exact ⟨_,rfl,(decide_eq_false (fun h=>h ⟨hs4,hs5⟩)).symm⟩)
 exact h1
theorem mem_frs {t:Tx}{p:Point}:p∈frs t ↔ ∃ i,i < t.Ins.length∧(t.Ins.getD i default).From=p:=by
 unfold frs
 rw [List.mem_map]
 constructor
 ·rintro ⟨x,hx,rfl⟩
  obtain ⟨i,hi,rfl⟩:=List.getElem_of_mem hx
  exact ⟨i,hi,by rw [gd _ _ hi]⟩
 ·rintro ⟨i,hi,rfl⟩
  exact ⟨_,getD_mem hi,rfl⟩
instance (a b:Tx):Decidable (∃ p∈frs a,p∈frs b):=inferInstance
theorem meet_eq {a b:Tx}(ha:TxOk a)(hb:TxOk b)(la:a.Ins.length≤60)(lb_:b.Ins.length≤60):q1_meet.f a b=some (decide (∃ p∈frs a,p∈frs b)):=by
 simp only [q1_meet.f]
 have e1:∀ i,i < a.Ins.length→loopO (q1_meet.s1 a b (i:Int)) 0=some (if ∀ j,j < b.Ins.length→(a.Ins.getD i default).From≠(b.Ins.getD j default).From then (Sum.inl (IntKind.i64.wrap ((i:Int)+1)):Int⊕Bool) else Sum.inr true):=fun i hi=>look_run b.Ins.length (fun j=>(a.Ins.getD i default).From≠(b.Ins.getD j default).From) (Sum.inl (IntKind.i64.wrap ((i:Int)+1))) (Sum.inr true) (by omega) (fun j hj=>by
  have hm:=ha.ins _ (getD_mem (l:=a.Ins) (d:=default) hi)
  have hn:=hb.ins _ (getD_mem (l:=b.Ins) (d:=default) hj)
  simp only [q1_meet.s1,Int.toNat_natCast]
  rw [if_pos (by omega),if_pos (by omega),if_pos (by omega),samepoint_eq _ _ hm.tx hn.tx,Option.bind_some]
  by_cases c:(a.Ins.getD i default).From=(b.Ins.getD j default).From
  ·rw [if_pos (decide_eq_true c),if_neg (fun h=>h c)]
  ·rw [if_neg (by simp only [decide_eq_true_eq];exact c),if_pos c]) (by simp only [q1_meet.s1];rw [if_neg (by omega)])
 rw [look_run a.Ins.length (fun i=>∀ j,j < b.Ins.length→(a.Ins.getD i default).From≠(b.Ins.getD j default).From) false true (by omega) (fun i hi=>by
  simp only [q1_meet.s0]
  rw [if_pos (by omega),e1 i hi]
  by_cases c:∀ j,j < b.Ins.length→(a.Ins.getD i default).From≠(b.Ins.getD j default).From
  ·rw [if_pos c,if_pos c]
  ·rw [if_neg c,if_neg c]) (by simp only [q1_meet.s0];rw [if_neg (by omega)])]
 by_cases c:∃ p∈frs a,p∈frs b
 ·rw [decide_eq_true c,if_neg (fun h=>by
   obtain ⟨p,h1,h2⟩:=c
   obtain ⟨i,hi,rfl⟩:=mem_frs.1 h1
   obtain ⟨j,hj,e⟩:=mem_frs.1 h2
   exact h i hi j hj e.symm)]
 ·rw [decide_eq_false c,if_pos (fun i hi j hj e=>c ⟨_,mem_frs.2 ⟨i,hi,rfl⟩,mem_frs.2 ⟨j,hj,e.symm⟩⟩)]
theorem pairs_doc {b:Block}(h:TsOk b.Txs)(hr:b.Head.Root.length=32):loopO (q1_CheckBlock.s2 b (b.Txs.map idt)) 0=some (Sum.inr (Sum.inr (if ∀ i,i < b.Txs.length→∀ j,j < i→apart (b.Txs.getD j default) (b.Txs.getD i default) then (if rt b.Txs=b.Head.Root then (⟨0,false,0,false,0⟩:q0Ft) else ⟨108,false,0,false,0⟩) else ⟨106,false,0,false,0⟩)):Int⊕(Int⊕q0Ft)):=by
 have hn:=h.n
 have hl:(b.Txs.map idt).length=b.Txs.length:=by simp
 have hg:∀ i,i < b.Txs.length→(b.Txs.map idt).getD i []=idt (b.Txs.getD i default):=fun i hi=>by
  rw [gd _ _ (by simpa using hi),gd _ _ hi];simp
 have e3:∀ i,i < b.Txs.length→loopO (q1_CheckBlock.s3 b (b.Txs.map idt) (i:Int)) 0=some (if ∀ j,j < i→apart (b.Txs.getD j default) (b.Txs.getD i default) then (Sum.inl (IntKind.i64.wrap ((i:Int)+1)):Int⊕(Int⊕(Int⊕q0Ft))) else Sum.inr (Sum.inr (Sum.inr ⟨106,false,0,false,0⟩))):=fun i hi=>by
  exact look_run (step:=q1_CheckBlock.s3 b (b.Txs.map idt) (i:Int)) i (fun j=>apart (b.Txs.getD j default) (b.Txs.getD i default)) (Sum.inl (IntKind.i64.wrap ((i:Int)+1)):Int⊕(Int⊕(Int⊕q0Ft))) (Sum.inr (Sum.inr (Sum.inr (⟨106,false,0,false,0⟩:q0Ft))):Int⊕(Int⊕(Int⊕q0Ft))) (by omega) (fun j hj=>by
   have hm:=getD_mem (l:=b.Txs) (d:=default) hi
   have hk:=getD_mem (l:=b.Txs) (d:=default) (show j < b.Txs.length by omega)
   simp only [q1_CheckBlock.s3]
   rw [show ((b.Txs.map idt).getD ((i:Int)).toNat [])=idt (b.Txs.getD i default) from hg i hi,show ((b.Txs.map idt).getD ((j:Int)).toNat [])=idt (b.Txs.getD j default) from hg j (by omega),Int.toNat_natCast,Int.toNat_natCast]
   rw [if_pos (by omega),if_pos (by omega),if_pos (by omega),samehash_eq _ _ (idt_len _) (idt_len _),Option.bind_some,meet_eq (h.ok _ hm) (h.ok _ hk) (h.few _ hm).ins (h.few _ hk).ins,Option.bind_some]
   by_cases c1:idt (b.Txs.getD i default)=idt (b.Txs.getD j default)
   ·rw [if_pos (decide_eq_true c1),Option.bind_some,if_pos rfl,if_neg (fun h=>h.1 c1.symm)]
    rfl
   ·rw [if_neg (by simp only [decide_eq_true_eq];exact c1),if_pos (by omega),if_pos (by omega),Option.bind_some]
    by_cases c2:∃ p∈frs (b.Txs.getD i default),p∈frs (b.Txs.getD j default)
    ·rw [if_pos (decide_eq_true c2),if_neg (fun h=>by
      obtain ⟨p,h1,h2⟩:=c2
      exact h.2 p h2 h1)]
     rfl
    ·rw [if_neg (by simp only [decide_eq_true_eq];exact c2),if_pos ⟨fun e=>c1 e.symm,fun p h1 h2=>c2 ⟨p,h2,h1⟩⟩]) (by
   simp only [q1_CheckBlock.s3]
   rw [if_neg (by omega)])
 rw [look_run (step:=q1_CheckBlock.s2 b (b.Txs.map idt)) b.Txs.length (fun i=>∀ j,j < i→apart (b.Txs.getD j default) (b.Txs.getD i default)) (Sum.inr (Sum.inr (if rt b.Txs=b.Head.Root then (⟨0,false,0,false,0⟩:q0Ft) else ⟨108,false,0,false,0⟩)):Int⊕(Int⊕q0Ft)) (Sum.inr (Sum.inr ⟨106,false,0,false,0⟩)) (by omega) (fun i hi=>by
  simp only [q1_CheckBlock.s2]
  rw [if_pos (by omega),e3 i hi]
  by_cases c:∀ j,j < i→apart (b.Txs.getD j default) (b.Txs.getD i default)
  ·rw [if_pos c,if_pos c]
  ·rw [if_neg c,if_neg c]) (by
  simp only [q1_CheckBlock.s2]
  rw [if_neg (by omega),root1_eq _ (ids_hs _) (by simp;omega),Option.bind_some,show rootL (b.Txs.map idt)=rt b.Txs from rfl,samehash_eq _ _ (rt_len _) hr,Option.bind_some]
  by_cases c:rt b.Txs=b.Head.Root
  ·rw [if_pos (decide_eq_true c),if_pos c];rfl
  ·rw [if_neg (by simp only [decide_eq_true_eq];exact c),if_neg c];rfl)]
 by_cases c:∀ i,i < b.Txs.length→∀ j,j < i→apart (b.Txs.getD j default) (b.Txs.getD i default)
 ·rw [if_pos c,if_pos c]
 ·rw [if_neg c,if_neg c]
theorem same_at (k:Nat)(hk:k < 25):q2_Same.f (sl.getD k (.b 0)) ⟨101+(k:Int),false,0,false,0⟩=some true:=by
 simp only [q2_Same.f]
 rw [fault_at k hk,Option.bind_some,samefault_bare,decide_eq_true rfl]
 rfl
theorem same_none:q2_Same.f (.b 0) ⟨0,false,0,false,0⟩=some true:=by
 simp [q2_Same.f,q2_Fault.f,q0_None.f,q0_SameFault.f]
theorem same_pl {e:Er}(h:e∈sl)(i:Int):q2_Same.f (.pl i e) ⟨cd e,true,i,false,0⟩=some true:=by
 obtain ⟨h1,h2⟩:=sl_plain _ h
 have hk:sl.idxOf e < 25:=List.idxOf_lt_length_of_mem h
 have e1:sl.getD (sl.idxOf e) (.b 0)=e:=by
  rw [gd sl (.b 0) (List.idxOf_lt_length_of_mem h)]
  exact List.getElem_idxOf _
 have h3:q2_sentinel.f e=some (cd e):=by
  have:=sentinel_at (sl.idxOf e) hk
  rw [e1] at this
  rw [this]
  unfold cd
  rw [if_neg h1]
 have hc:cd e≠0:=by
  unfold cd
  rw [if_neg h1]
  omega
 have k1:(Er.pl i e)≠.b 0:=fun h=>by cases h
 have k2:(Er.pl i e).isP=true:=rfl
 have k3:(Er.pl i e).err=e:=rfl
 have k4:(Er.pl i e).pos=i:=rfl
 simp only [q2_Same.f,q2_Fault.f]
 rw [if_neg k1,if_pos k2,k3,k4,Option.bind_some,decide_eq_false h1,if_neg (by decide),if_neg (by rw [h2];decide),h3]
 simp [q0_Placed.f,q0_SameFault.f,hc]
theorem placed_eq {c:Int}(h:c≠0)(i:Int):q0_Placed.f c i=some ⟨c,true,i,false,0⟩:=by
 simp only [q0_Placed.f]
 rw [if_neg h]
theorem ckc_zero (t:Tx):ckc t=0 ↔ ck t=.b 0:=by rw [← cd_ck];exact cd_zero (kn_ck t)
theorem ck_sl {t:Tx}(h:ck t≠.b 0):ck t∈sl:=(kn_ck t).resolve_left h
def f2 (b:Block):q0Ft:=if ∀ i,i < b.Txs.length→∀ j,j < i→apart (b.Txs.getD j default) (b.Txs.getD i default) then (if rt b.Txs=b.Head.Root then ⟨0,false,0,false,0⟩ else ⟨108,false,0,false,0⟩) else ⟨106,false,0,false,0⟩
theorem parts_both {b:Block}(h:TsOk b.Txs)(hr:b.Head.Root.length=32):(∃ p f,block_parts.f b=some p∧p≠.b 0∧loopO (q1_CheckBlock.s0 b) 0=some f∧q2_Same.f p f=some true)∨(block_parts.f b=some (.b 0)∧loopO (q1_CheckBlock.s0 b) 0=some (f2 b)∧∀ t∈b.Txs,ck t=.b 0):=by
 have hn:=h.n
 have inner:=both_run (s1:=block_parts.s1 b) (s2:=q1_CheckBlock.s1 b) b.Txs.length (fun i=>isBase (b.Txs.getD i default) ↔ i=0) (fun i=>(Sum.inr (Er.pl (i:Int) xErrBase):Int⊕Er)) (fun i=>(Sum.inr (⟨107,true,(i:Int),false,0⟩:q0Ft):Int⊕q0Ft)) (Sum.inr (Er.b 0)) (Sum.inr (f2 b)) (by omega) (fun i hi hp=>by
  have hm:=getD_mem (l:=b.Txs) (d:=default) hi
  have e:decide (isBase (b.Txs.getD i default))=decide ((i:Int)=0):=decide_eq_decide.2 (hp.trans (by omega))
  simp only [block_parts.s1,q1_CheckBlock.s1,Int.toNat_natCast]
  rw [if_pos (by omega),if_pos (by omega),base_eq,Option.bind_some,if_neg (fun h=>h e),if_pos (by omega),if_pos (by omega),basep_eq (h.ok _ hm),Option.bind_some,if_neg (fun h=>h e)]
  exact ⟨rfl,rfl⟩) (fun i hi hp=>by
  have hm:=getD_mem (l:=b.Txs) (d:=default) hi
  have e:decide (isBase (b.Txs.getD i default))≠decide ((i:Int)=0):=fun e=>hp ((decide_eq_decide.1 e).trans (by omega))
  simp only [block_parts.s1,q1_CheckBlock.s1,Int.toNat_natCast]
  rw [if_pos (by omega),if_pos (by omega),base_eq,Option.bind_some,if_pos e,if_pos (by omega),if_pos (by omega),basep_eq (h.ok _ hm),Option.bind_some,if_pos e,placed_eq (by decide)]
  exact ⟨rfl,rfl⟩) (fun _=>by
  simp only [block_parts.s1,q1_CheckBlock.s1]
  rw [if_neg (by omega),if_neg (by omega),ids1_eq h,Option.bind_some,pairs_doc h hr]
  exact ⟨rfl,rfl⟩)
 obtain ⟨p1,f1,hp1,hf1,hsame⟩:∃ p1 q1,loopO (block_parts.s1 b) 0=some (Sum.inr p1:Int⊕Er)∧loopO (q1_CheckBlock.s1 b) 0=some (Sum.inr q1:Int⊕q0Ft)∧((p1≠.b 0∧q2_Same.f p1 q1=some true)∨(p1=.b 0∧q1=f2 b)):=by
  rcases inner with ⟨i,hi,hp,e1,e2⟩ | ⟨_,e1,e2⟩
  ·exact ⟨_,_,e1,e2,.inl ⟨(fun h=>by cases h),same_pl (e:=xErrBase) (by decide) i⟩⟩
  ·exact ⟨_,_,e1,e2,.inr ⟨rfl,rfl⟩⟩
 have outer:=both_run (s1:=block_parts.s0 b) (s2:=q1_CheckBlock.s0 b) b.Txs.length (fun i=>ck (b.Txs.getD i default)=.b 0) (fun i=>Er.pl (i:Int) (ck (b.Txs.getD i default))) (fun i=>(⟨cd (ck (b.Txs.getD i default)),true,(i:Int),false,0⟩:q0Ft)) p1 f1 (by omega) (fun i hi hp=>by
  have hm:=getD_mem (l:=b.Txs) (d:=default) hi
  simp only [block_parts.s0,q1_CheckBlock.s0,Int.toNat_natCast]
  rw [if_pos (by omega),if_pos (by omega),check_eq (h.ok _ hm) (h.few _ hm),Option.bind_some,if_neg (fun h=>h hp),if_pos (by omega),if_pos (by omega),checktx_eq (h.ok _ hm) (h.few _ hm),Option.bind_some,if_neg (fun h=>h ((ckc_zero _).2 hp))]
  exact ⟨rfl,rfl⟩) (fun i hi hp=>by
  have hm:=getD_mem (l:=b.Txs) (d:=default) hi
  have h0:ckc (b.Txs.getD i default)≠0:=fun h=>hp ((ckc_zero _).1 h)
  simp only [block_parts.s0,q1_CheckBlock.s0,Int.toNat_natCast]
  rw [if_pos (by omega),if_pos (by omega),check_eq (h.ok _ hm) (h.few _ hm),Option.bind_some,if_pos hp,if_pos (by omega),if_pos (by omega),checktx_eq (h.ok _ hm) (h.few _ hm),Option.bind_some,if_pos h0,placed_eq h0,Option.bind_some,cd_ck]
  exact ⟨rfl,rfl⟩) (fun _=>by
  simp only [block_parts.s0,q1_CheckBlock.s0]
  rw [if_neg (by omega),if_neg (by omega),hp1,hf1]
  exact ⟨rfl,rfl⟩)
 simp only [block_parts.f]
 rcases outer with ⟨i,hi,hp,e1,e2⟩ | ⟨hall,e1,e2⟩
 ·exact .inl ⟨_,_,e1,(fun h=>by cases h),e2,same_pl (ck_sl hp) i⟩
 ·rcases hsame with ⟨h1,h2⟩ | ⟨rfl,rfl⟩
  ·exact .inl ⟨_,_,e1,h1,e2,h2⟩
  ·exact .inr ⟨e1,e2,(all_getD b.Txs default fun t=>ck t=.b 0).1 hall⟩
theorem bbytes1_eq {h:HN}(o:h.Ok){l:List Tx}(k:TsOk l):q1_BlockBytes.f ⟨h.h,l⟩=some (bb h l):=by
 have hn:=k.n
 have hl:=hb_len o
 have lp:=(ln_le l.length).2
 have ht:∀ t∈l,(tb t).length≤210000:=fun t ht=>tb_le (k.ok t ht) ((k.few t ht).mono (by omega) (by omega))
 have hh:q1_HeadBytes.f h.h=some (hb h):=by
  simp only [q1_HeadBytes.f]
  have hv:=o.v
  have ht:=o.t
  have hw:=o.w
  have hn:=o.n
  rw [show h.h.Version=(h.v:Int) from rfl,show h.h.Prev=h.p from rfl,show h.h.Root=h.r from rfl,show h.h.Time=(h.t:Int) from rfl,show h.h.Work=(h.w:Int) from rfl,show h.h.Nonce=(h.n:Int) from rfl]
  rw [four1_eq [] h.v hv (by simp),Option.bind_some,if_pos (by simp [lb_len,o.p]),if_pos (by simp [lb_len,o.p,o.r]),four1_eq _ h.t ht (by simp [lb_len,o.p,o.r]),Option.bind_some,four1_eq _ h.w hw (by simp [lb_len,o.p,o.r]),Option.bind_some,four1_eq _ h.n hn (by simp [lb_len,o.p,o.r]),Option.bind_some]
  simp [hb]
 simp only [q1_BlockBytes.f]
 rw [hh,Option.bind_some,wu64 (by omega) (by omega),put1_eq _ _ (by omega) (by omega),Option.bind_some,show loopO (q1_BlockBytes.s0 ⟨h.h,l⟩) (hb h++pt l.length,0)=_ from loop_run (step:=q1_BlockBytes.s0 ⟨h.h,l⟩) (fun i=>(hb h++pt l.length++((l.take i).map tb).flatten,(i:Int))) l.length (r:=hb h++pt l.length++tbs l) (by simp) (fun i hi=>by
  have hm:=getD_mem (l:=l) (d:=default) hi
  have hb_:=take_few tb 210000 l ht i (by omega)
  have h2:=ht _ hm
  rw [flat_next tb l default i hi]
  simp only [q1_BlockBytes.s0,Int.toNat_natCast]
  rw [if_pos (by omega),if_pos (by omega),tbytes1_eq (k.ok _ hm) ((k.few _ hm).mono (by omega) (by omega)),Option.bind_some,if_pos (by simp only [List.length_append,pt_len];omega),winc i (by omega)]
  simp only [List.append_assoc]) (by simp only [q1_BlockBytes.s0];rw [if_neg (by omega),List.take_length];rfl),Option.bind_some]
 simp only [bb,List.append_assoc]
theorem hid1_eq {h:HN}(o:h.Ok):q1_HeadID.f h.h=some (sha (sha (hb h))):=by
 have hh:q1_HeadBytes.f h.h=some (hb h):=by
  simp only [q1_HeadBytes.f]
  have hv:=o.v
  have ht:=o.t
  have hw:=o.w
  have hn:=o.n
  rw [show h.h.Version=(h.v:Int) from rfl,show h.h.Prev=h.p from rfl,show h.h.Root=h.r from rfl,show h.h.Time=(h.t:Int) from rfl,show h.h.Work=(h.w:Int) from rfl,show h.h.Nonce=(h.n:Int) from rfl]
  rw [four1_eq [] h.v hv (by simp),Option.bind_some,if_pos (by simp [lb_len,o.p]),if_pos (by simp [lb_len,o.p,o.r]),four1_eq _ h.t ht (by simp [lb_len,o.p,o.r]),Option.bind_some,four1_eq _ h.w hw (by simp [lb_len,o.p,o.r]),Option.bind_some,four1_eq _ h.n hn (by simp [lb_len,o.p,o.r]),Option.bind_some]
  simp [hb]
 simp only [q1_HeadID.f]
 rw [hh,Option.bind_some,ref_twice_eq _ (by rw [hb_len o];omega),Option.bind_some]
theorem check_same {h:HN}(o:h.Ok){l:List Tx}(k:TsOk l):∃ e f,block_Check.f ⟨h.h,l⟩=some e∧q1_CheckBlock.f ⟨h.h,l⟩=some f∧q2_Same.f e f=some true:=by
 have hw:h.h.Work=(h.w:Int):=rfl
 have hc:q1_CheckHead.f h.h=some (if h.w=0∨16777216 < h.w then 122 else 0):=by
  simp only [q1_CheckHead.f]
  by_cases c1:h.w=0
  ·rw [if_pos (show h.h.Work=0 by omega),Option.bind_some,if_pos rfl,if_pos (.inl c1)]
  ·rw [if_neg (show ¬ h.h.Work=0 by omega),Option.bind_some]
   by_cases c2:16777216 < h.w
   ·rw [if_pos (decide_eq_true (by omega)),if_pos (.inr c2)]
   ·rw [if_neg (by simp only [decide_eq_true_eq];omega),if_neg (by omega)]
 simp only [block_Check.f,q1_CheckBlock.f]
 rw [hcheck_eq,hc,Option.bind_some,Option.bind_some]
 by_cases c0:h.w=0∨16777216 < h.w
 ·rw [if_pos c0,if_pos c0,if_pos (by decide)]
  refine ⟨_,⟨122,false,0,false,0⟩,rfl,?_,same_at 21 (by decide)⟩
  simp [q0_Bare.f]
 rw [if_neg c0,if_neg c0,if_neg (fun h=>h rfl),if_pos rfl]
 by_cases c1:l.length=0
 ·rw [if_pos (show (l.length:Int)=0 by omega),Option.bind_some,if_pos rfl]
  refine ⟨_,⟨104,false,0,false,0⟩,rfl,?_,same_at 3 (by decide)⟩
  rw [Option.bind_some,if_pos rfl,Option.bind_some,if_neg (by decide),Option.bind_some,if_neg (by decide),Option.bind_some,if_pos (by decide)]
  rfl
 rw [if_neg (show ¬ (l.length:Int)=0 by omega),Option.bind_some,Option.bind_some]
 by_cases c2:200 < l.length
 ·rw [if_pos (decide_eq_true (show (200:Int) < (l.length:Int) by omega)),if_pos (decide_eq_true (show (200:Int) < (l.length:Int) by omega)),Option.bind_some,if_neg (by decide),Option.bind_some,if_neg (by decide),Option.bind_some,if_pos (by decide)]
  exact ⟨_,⟨104,false,0,false,0⟩,rfl,rfl,same_at 3 (by decide)⟩
 have n2:¬ decide ((200:Int) < (l.length:Int))=true:=by simp only [decide_eq_true_eq];omega
 rw [if_neg n2,if_neg n2,bsize_eq o k,Option.bind_some,Option.bind_some,if_pos rfl,bbytes1_eq o k,Option.bind_some,Option.bind_some]
 by_cases c3:20000 < (bb h l).length
 ·rw [if_pos (show (20000:Int) < ((bb h l).length:Int) by omega),if_pos (decide_eq_true (show (20000:Int) < ((bb h l).length:Int) by omega)),Option.bind_some,if_pos (by decide)]
  exact ⟨_,⟨103,false,0,false,0⟩,rfl,rfl,same_at 2 (by decide)⟩
 rw [if_neg (show ¬ (20000:Int) < ((bb h l).length:Int) by omega),if_neg (by simp only [decide_eq_true_eq];omega),Option.bind_some,if_neg (fun h=>h rfl)]
 have hr:(⟨h.h,l⟩:Block).Head.Root.length=32:=o.r
 rcases parts_both (b:=⟨h.h,l⟩) k hr with ⟨p,f,e1,e2,e3,e4⟩ | ⟨e1,e3,hall⟩
 ·rw [e1,Option.bind_some,if_pos e2,e3]
  exact ⟨_,_,rfl,rfl,e4⟩
 ·have hnd:∀ t∈l,(frs t).Nodup:=fun t ht=>(ck_ok (hall t ht)).2.2.2
  have hap:=apart_iff l hnd
  rw [e1,Option.bind_some,if_neg (fun h=>h rfl),twice_is (b:=⟨h.h,l⟩) k,Option.bind_some,e3]
  by_cases c5:pok l
  ·rw [if_neg (by simp only [decide_eq_true_eq];exact fun h=>h c5),broot_eq (b:=⟨h.h,l⟩) k,Option.bind_some]
   have hp2:∀ i,i < (⟨h.h,l⟩:Block).Txs.length→∀ j,j < i→apart ((⟨h.h,l⟩:Block).Txs.getD j default) ((⟨h.h,l⟩:Block).Txs.getD i default):=hap.1 c5
   have hf:f2 ⟨h.h,l⟩=if rt l=h.h.Root then (⟨0,false,0,false,0⟩:q0Ft) else ⟨108,false,0,false,0⟩:=by
    unfold f2
    rw [if_pos hp2]
   rw [hf]
   by_cases c6:rt l=h.h.Root
   ·rw [if_neg (fun h=>h c6),if_pos c6]
    exact ⟨_,_,rfl,rfl,same_none⟩
   ·rw [if_pos c6,if_neg c6]
    exact ⟨_,_,rfl,rfl,same_at 7 (by decide)⟩
  ·rw [if_pos (decide_eq_true c5)]
   have hp2:¬ ∀ i,i < (⟨h.h,l⟩:Block).Txs.length→∀ j,j < i→apart ((⟨h.h,l⟩:Block).Txs.getD j default) ((⟨h.h,l⟩:Block).Txs.getD i default):=fun h=>c5 (hap.2 h)
   have hf:f2 ⟨h.h,l⟩=⟨106,false,0,false,0⟩:=by
    unfold f2
    rw [if_neg hp2]
   rw [hf]
   exact ⟨_,_,rfl,rfl,same_at 5 (by decide)⟩
theorem light7 (b:Block):∃ r,q7_light.f b=some r∧(r=true→b.Txs.length≤210∧∀ t∈b.Txs,Few 60 100 t):=by
 simp only [q7_light.f]
 by_cases c:210 < b.Txs.length
 ·rw [if_pos (by omega)]
  exact ⟨_,rfl,fun e=>by cases e⟩
 rw [if_neg (by omega)]
 obtain ⟨r,h1,h2⟩:=loop_ends (step:=q7_light.s0 b) (fun i (s:Int×Int)=>s.2=(i:Int)∧(0≤s.1∧s.1≤120 * (i:Int))∧∀ j,j < i→Few 60 100 (b.Txs.getD j default)) (fun r=>r=true→∀ j,j < b.Txs.length→Few 60 100 (b.Txs.getD j default)) b.Txs.length (s:=(0,0)) ⟨rfl,by simp,fun j hj=>by omega⟩ (fun i hi s hs=>by
  obtain ⟨s1,s2⟩:=s
  obtain ⟨h1,h2,h3⟩:=hs
  simp only at h1 h2
  subst h1
  simp only [q7_light.s0,Int.toNat_natCast]
  rw [if_pos (by omega),if_pos (show 0≤(i:Int)∧(i:Int) < (b.Txs.length:Int) by omega)]
  by_cases c1:60 < (b.Txs.getD i default).Ins.length
  ·rw [if_pos (by omega),Option.bind_some,if_pos rfl]
   exact .inr ⟨_,rfl,fun e=>by cases e⟩
  rw [if_neg (by omega),Option.bind_some]
  by_cases c2:60 < (b.Txs.getD i default).Outs.length
  ·rw [if_pos (decide_eq_true (by omega))]
   exact .inr ⟨_,rfl,fun e=>by cases e⟩
  rw [if_neg (by simp only [decide_eq_true_eq];omega)]
  obtain ⟨q,e1,e2⟩:=loop_ends (step:=q7_light.s1 b s1 (i:Int)) (fun j (s:Int)=>s=(j:Int)∧∀ k,k < j→((b.Txs.getD i default).Ins.getD k default).Key.length≤100) (fun q=>(q=.inl (s1+((b.Txs.getD i default).Ins.length:Int)+((b.Txs.getD i default).Outs.length:Int),((i+1:Nat):Int))∧∀ k,k < (b.Txs.getD i default).Ins.length→((b.Txs.getD i default).Ins.getD k default).Key.length≤100)∨q=.inr false) (b.Txs.getD i default).Ins.length (s:=0) ⟨rfl,fun k hk=>by omega⟩ (fun j hj s hs=>by
   obtain ⟨rfl,hs⟩:=hs
   simp only [q7_light.s1,Int.toNat_natCast]
   rw [if_pos (by omega),if_pos (by omega)]
   by_cases d:100 < ((b.Txs.getD i default).Ins.getD j default).Key.length
   ·rw [if_pos (by omega)];exact .inr ⟨_,rfl,.inr rfl⟩
   ·rw [if_neg (by omega)]
    refine .inl ⟨_,rfl,winc j (by omega),fun k hk=>?_⟩
    rcases Nat.lt_or_ge k j with h | h
    ·exact hs k h
    ·obtain rfl:k=j:=by omega
     omega) (fun s hs=>by
   obtain ⟨rfl,hs⟩:=hs
   simp only [q7_light.s1,Int.toNat_natCast]
   rw [if_neg (by omega),w64 (x:=s1+((b.Txs.getD i default).Ins.length:Int)) (by omega) (by omega),w64 (x:=s1+((b.Txs.getD i default).Ins.length:Int)+((b.Txs.getD i default).Outs.length:Int)) (by omega) (by omega),winc i (by omega)]
   exact ⟨_,rfl,.inl ⟨rfl,hs⟩⟩)
  rcases e2 with ⟨rfl,e2⟩ | rfl
  ·refine .inl ⟨_,e1,rfl,by simp only;omega,fun j hj=>?_⟩
   rcases Nat.lt_or_ge j i with h | h
   ·exact h3 j h
   ·obtain rfl:j=i:=by omega
    exact ⟨by omega,by omega,(all_getD _ default fun x:In=>x.Key.length≤100).1 e2⟩
  ·exact .inr ⟨_,e1,fun e=>by cases e⟩) (fun s hs=>by
  obtain ⟨s1,s2⟩:=s
  obtain ⟨h1,h2,h3⟩:=hs
  simp only at h1 h2
  subst h1
  simp only [q7_light.s0]
  rw [if_neg (by omega)]
  exact ⟨_,rfl,fun _=>h3⟩)
 exact ⟨r,h1,fun e=>⟨by omega,(all_getD b.Txs default fun t=>Few 60 100 t).1 (h2 e)⟩⟩
theorem samehashes_eq (xs ys:List (List Int))(hx:Hs xs)(hy:Hs ys)(h:xs.length≤100000):q0_SameHashes.f xs ys=some (decide (xs=ys)):=by
 simp only [q0_SameHashes.f]
 by_cases c:xs.length=ys.length
 ·have hs:∀ i,i < xs.length→q0_SameHashes.s0 xs ys (i:Int)=if xs.getD i []=ys.getD i [] then some (.inl (IntKind.i64.wrap ((i:Int)+1))) else some (.inr false):=fun i hi=>by
   simp only [q0_SameHashes.s0,Int.toNat_natCast]
   rw [if_pos (by omega),if_pos (by omega),if_pos (by omega),samehash_eq _ _ (hx.at hi) (hy.at (by omega)),Option.bind_some]
   by_cases d:xs.getD i []=ys.getD i []
   ·rw [if_pos (by simpa using d),if_pos d]
   ·rw [if_neg (by simpa using d),if_neg d]
  rw [if_neg (by omega),all_run xs.length (fun i=>xs.getD i []=ys.getD i []) (by omega) hs (by simp only [q0_SameHashes.s0];rw [if_neg (by omega)])]
  congr 1
  exact decide_eq_decide.2 (ext_iff xs ys [] c)
 ·rw [if_pos (by omega),decide_eq_false (fun e=>c (by rw [e]))]
theorem hd_doc (s:List Int×Er)(h:Ok_ s):q1_TakeHead.f ⟨s.1,cd s.2⟩=some ((if (run hns s).2≠.b 0 then zhead else hparse s),⟨(run hns s).1,cd (run hns s).2⟩):=by
 have o1:=wf_wh 4 _ h
 have o2:=wf_h32 _ o1
 have o3:=wf_h32 _ o2
 have o4:=wf_wh 4 _ o3
 have o5:=wf_wh 4 _ o4
 have o6:=wf_wh 4 _ o5
 simp only [q1_TakeHead.f]
 rw [rd_four h,Option.bind_some,rd_hash o1,Option.bind_some,rd_hash o2,Option.bind_some,rd_four o3,Option.bind_some,rd_four o4,Option.bind_some,rd_four o5,Option.bind_some]
 have hr:(wh 4 (wh 4 (wh 4 (h32 (h32 (wh 4 s).2).2).2).2).2).2=run hns s:=rfl
 rw [hr] at o6 ⊢
 by_cases hc:(run hns s).2=.b 0
 ·have c0:=(cd0 o6).2 hc
  rw [if_neg (fun h=>h c0),if_neg (fun h=>h hc)];rfl
 ·have c0:cd (run hns s).2≠0:=fun h=>hc ((cd0 o6).1 h)
  rw [if_pos c0,if_pos hc];rfl
theorem blk_doc {hd:Stp Head}{tx:Stp Tx}(hh:∀ s,Ok_ s→q1_TakeHead.f ⟨s.1,cd s.2⟩=some ((hd s).1,⟨(hd s).2.1,cd (hd s).2.2⟩))(wh_:Wf hd)(ht:∀ s,Ok_ s→q1_TakeTx.f ⟨s.1,cd s.2⟩=some ((tx s).1,⟨(tx s).2.1,cd (tx s).2.2⟩))(wt:Wf tx)(xt:Ext tx){x:List Int}(hb:Bs x)(hl:x.length≤1000000) :
  q1_ReadBlock.f x=some (if (bkG hd tx (x,.b 0)).2.2≠.b 0 then (zbk,cd (bkG hd tx (x,.b 0)).2.2) else if 0 < (bkG hd tx (x,.b 0)).2.1.length then (zbk,102) else ((bkG hd tx (x,.b 0)).1,0)):=by
 have o0:Ok_ (x,.b 0):=⟨.inl rfl,hb,hl⟩
 have e1:=hh _ o0
 have o1:=wh_ _ o0
 rw [show cd (Er.b 0)=0 from rfl] at e1
 simp only at e1
 simp only [q1_ReadBlock.f]
 rw [e1,Option.bind_some]
 unfold bkG
 rw [bnd_eq]
 generalize hd (x,.b 0)=w1 at *
 have k2:=nm_le 200 w1.2
 rw [show ((200:Nat):Int)=200 from rfl] at k2
 have o2:=wf_nm 200 _ o1
 rw [rd_num o1,Option.bind_some,bnd_eq]
 generalize nm 200 w1.2=w2 at *
 obtain ⟨ts,e3,q3⟩:=loop_doc (step:=q1_ReadBlock.s0 ((w2.1:Int),⟨w2.2.1,cd w2.2.2⟩)) xt wt w2.1 (fun i ts z hi ok hz hl=>by
  simp only [q1_ReadBlock.s0]
  rw [if_pos (by omega),hz,show cd (Er.b 0)=0 from rfl,Option.bind_some,if_pos (by decide)]
  have hz':(⟨z.1,0⟩:q1Rd)=⟨z.1,cd z.2⟩:=by rw [hz];rfl
  rw [hz',ht _ ok,Option.bind_some,if_pos (by omega),wu64 (by omega) (by omega)]
  rfl) (fun i ts z hi ok hz=>by
  simp only [q1_ReadBlock.s0]
  rcases hz with rfl | hz
  ·rw [if_neg (by omega),Option.bind_some,if_neg (by decide)]
  ·have h0:¬ cd z.2=0:=fun h=>hz ((cd0 ok).1 h)
   have:(if (i:Int) < (w2.1:Int) then some (decide (cd z.2=0)) else some false)=some false:=by
    split
    ·rw [decide_eq_false h0]
    ·rfl
   rw [this,Option.bind_some,if_neg (by decide)]) w2.2 o2
 have o3:=wf_rpt wt w2.1 _ o2
 simp only
 rw [e3,Option.bind_some,bnd_eq]
 generalize rpt w2.1 tx w2.2=w3 at *
 simp only
 generalize hz:ret (⟨w1.1,w3.1⟩:Block) w3.2=z
 have z1:z.1=⟨w1.1,w3.1⟩:=by rw [← hz];rfl
 have z2:w3.2=z.2:=by rw [← hz];rfl
 rw [z2] at o3 q3 ⊢
 by_cases hc:z.2.2=.b 0
 ·have c0:=(cd0 o3).2 hc
  rw [if_neg (show ¬ (z.2.2≠Er.b 0) from fun h=>h hc),if_pos c0,Option.bind_some]
  by_cases hp:0 < z.2.1.length
  ·rw [if_pos (decide_eq_true (show (0:Int) < (z.2.1.length:Int) by omega)),if_pos hp,Option.bind_some,if_pos (by decide)]
   rfl
  ·rw [if_neg (by simp only [decide_eq_true_eq];omega),if_neg hp,Option.bind_some,if_neg (fun h=>h c0),z1,q3 hc]
 ·have c0:cd z.2.2≠0:=fun h=>hc ((cd0 o3).1 h)
  rw [if_pos (show z.2.2≠Er.b 0 from hc),if_neg c0,Option.bind_some,if_neg (by decide),Option.bind_some,if_pos c0]
  rfl
theorem wf_hdX:Wf hdX:=wf_z (wf_bnd (wf_wh 4) fun _=>wf_bnd wf_h32 fun _=>wf_bnd wf_h32 fun _=>wf_bnd (wf_wh 4) fun _=>wf_bnd (wf_wh 4) fun _=>wf_bnd (wf_wh 4) fun _=>wf_ret _)
theorem wf_txX:Wf txX:=wf_z wf_tx
theorem hdX_doc (s:List Int×Er)(h:Ok_ s):q1_TakeHead.f ⟨s.1,cd s.2⟩=some ((hdX s).1,⟨(hdX s).2.1,cd (hdX s).2.2⟩):=by
 have e:=hd_doc s h
 have hx:hdX s=zX zhead hdM s:=rfl
 rw [hx,zX_def,hdM_eq]
 exact e
theorem txX_doc (s:List Int×Er)(h:Ok_ s):q1_TakeTx.f ⟨s.1,cd s.2⟩=some ((txX s).1,⟨(txX s).2.1,cd (txX s).2.2⟩):=by
 have e:=tx_doc s h
 have hx:txX s=zX ztx txM s:=rfl
 rw [hx,zX_def]
 generalize txM s=z at *
 exact e
theorem bread1_eq {b:List Int}(hb:Bs b)(hl:b.length≤1000000):q1_ReadBlock.f b=some (if (bkM (b,.b 0)).2.2≠.b 0 then (zbk,cd (bkM (b,.b 0)).2.2) else if 0 < (bkM (b,.b 0)).2.1.length then (zbk,102) else ((bkM (b,.b 0)).1,0)):=by
 have h:=blk_doc (hd:=hdX) (tx:=txX) hdX_doc wf_hdX txX_doc wf_txX ext_txX hb hl
 unfold bkM
 exact h
theorem wf_bkG {hd:Stp Head}{tx:Stp Tx}(h:Wf hd)(k:Wf tx):Wf (bkG hd tx):=wf_bnd h fun _=>wf_bnd (wf_nm 200) fun _=>wf_bnd (wf_rpt k _) fun _=>wf_ret _
theorem wf_bk:Wf bkM:=wf_bkG wf_hdX wf_txX
theorem read_same {b:List Int}(hb:Bs b)(hl:b.length≤1000000):∃ u e c,block_Read.f b=some (u,e)∧q1_ReadBlock.f b=some (u,c)∧q2_Is.f e c=some true∧q0_SameBlock.f u u=some true:=by
 have ok:=wf_bk (b,.b 0) ⟨.inl rfl,hb,hl⟩
 have hz:q0_SameBlock.f zbk zbk=some true:=by
  have:=sameblock_self (h:=⟨0,List.replicate 32 0,List.replicate 32 0,0,0,0⟩) ⟨by decide,by simp,by simp,by decide,by decide,by decide⟩ (l:=[]) ⟨by simp,by simp,by simp⟩
  exact this
 have hcan:=can_bk b hb
 rw [bread_eq hb hl,bread1_eq hb hl]
 generalize bkM (b,.b 0)=z at *
 by_cases hc:z.2.2=.b 0
 ·have hn:¬ (z.2.2≠Er.b 0):=fun h=>h hc
  rw [if_neg hn,if_neg hn]
  by_cases hp:0 < z.2.1.length
  ·rw [if_pos hp,if_pos hp]
   exact ⟨_,_,_,rfl,rfl,by rw [is_shape];rfl,hz⟩
  ·rw [if_neg hp,if_neg hp]
   refine ⟨_,_,_,rfl,rfl,by rw [is_nil];rfl,?_⟩
   obtain ⟨_,⟨y,ey,yo,_,_⟩,kn,kt⟩:=hcan hc
   obtain ⟨⟨ud,ul⟩,z2⟩:=z
   simp only at ey kn kt ⊢
   subst ey
   exact sameblock_self yo ⟨by omega,fun t ht=>(kt t ht).1,fun t ht=>(kt t ht).2.mono (by omega) (by omega)⟩
 ·rw [if_pos hc,if_pos hc]
  exact ⟨_,_,_,rfl,rfl,by rw [is_eq ok.k,decide_eq_true rfl],hz⟩
theorem clones_eq {l:List Tx}(h:TsOk l):tx_Clones.f l=some l:=by
 have hn:=h.n
 simp only [tx_Clones.f]
 rw [show loopO (tx_Clones.s0 l) ([],0)=_ from loop_run (step:=tx_Clones.s0 l) (fun i=>(l.take i,(i:Int))) l.length (r:=l) rfl (fun i hi=>by
  have hm:=getD_mem (l:=l) (d:=default) hi
  simp only [tx_Clones.s0,Int.toNat_natCast]
  rw [if_pos (by omega),if_pos (by omega),txclone_eq (h.ok _ hm) (h.few _ hm),Option.bind_some,if_pos (by simp;omega),winc i (by omega),take_next l i default hi]) (by simp only [tx_Clones.s0];rw [if_neg (by omega),List.take_length])]
 rfl
theorem q7_BlockSays.m (μ:Store)(x0:Block)(v0:Value)(h0:BlockW μ x0 v0)(x1:List Int)(u1:Value)(h1:Slc (RI .u8) 1 μ u1 x1):q7_BlockSays.f x0 x1=some true:=by
 obtain ⟨w1,w2,w3,w4,w5,w6,cs,w7,_⟩:=h0
 have tok:∀ t∈x0.Txs,TxOk t:=els_all w7 fun y c hc=>by
  obtain ⟨_,_,_,h⟩:=hc
  exact tx_ok h
 obtain ⟨h,eh,ho⟩:=hn_of (μ:=μ) (x:=x0.Head) ⟨w1,w2,w3,w4,w5,w6⟩
 obtain ⟨hd,l⟩:=x0
 simp only at eh tok
 subst eh
 have hb:Bs x1:=fun x hx=>slc_ints h1 x hx
 simp only [q7_BlockSays.f]
 obtain ⟨r,er,hl⟩:=light7 ⟨h.h,l⟩
 rw [first7,Option.bind_some,if_pos rfl,er,Option.bind_some]
 by_cases c1:r=true
 ·obtain ⟨ln,lf⟩:=hl c1
  have lf:∀ t∈l,Few 60 100 t:=lf
  have ln:l.length≤210:=ln
  have ts:TsOk l:=⟨by omega,tok,lf⟩
  rw [if_pos c1,Option.bind_some]
  by_cases c2:8000 < x1.length
  ·rw [if_pos (by simp only [decide_eq_true_eq];omega)]
  rw [if_neg (by simp only [decide_eq_true_eq];omega)]
  obtain ⟨u,e,c,e1,e2,e3,e4⟩:=read_same hb (by omega)
  obtain ⟨ce,cf,k1,k2,k3⟩:=check_same ho ts
  have hbl:(bb h l).length≤140737488355328:=by
   have:=flat_le tb 210000 l fun t ht=>tb_le (tok t ht) ((lf t ht).mono (by omega) (by omega))
   have:=(ln_le l.length).2
   simp only [bb,tbs,List.length_append,hb_len ho,pt_len]
   omega
  have hid:block_ID.f ⟨h.h,l⟩=some (sha (sha (T.hb h))):=by
   simp only [block_ID.f]
   rw [hid_eq ho,Option.bind_some]
  have hcl:block_Clone.f ⟨h.h,l⟩=some ⟨h.h,l⟩:=by
   simp only [block_Clone.f]
   rw [clones_eq ts,Option.bind_some]
  have hsh:q0_SameHashes.f (l.map idt) (l.map idt)=some true:=by
   rw [samehashes_eq _ _ (ids_hs l) (ids_hs l) (by simp;omega),decide_eq_true rfl]
  rw [bbytes1_eq ho ts,Option.bind_some,e1,Option.bind_some,e2,Option.bind_some,if_pos rfl,bbytes_eq ho ts,Option.bind_some,samebytes_eq _ hbl,Option.bind_some,if_pos rfl,bsize_eq ho ts,Option.bind_some,if_pos rfl,hid,Option.bind_some,show q1_HeadID.f h.h=some (sha (sha (T.hb h))) from hid1_eq ho,Option.bind_some,samehash_eq _ _ (sha_len _) (sha_len _),decide_eq_true rfl,Option.bind_some,if_pos rfl,broot_eq (b:=⟨h.h,l⟩) ts,Option.bind_some,ids1_eq ts,Option.bind_some,root1_eq _ (ids_hs _) (by simp;omega),Option.bind_some,show rootL (l.map idt)=rt l from rfl,samehash_eq _ _ (rt_len _) (rt_len _),decide_eq_true rfl,Option.bind_some,if_pos rfl,ids_eq (b:=⟨h.h,l⟩) ts,Option.bind_some,Option.bind_some,hsh,Option.bind_some,if_pos rfl,k1,Option.bind_some,k2,Option.bind_some,k3,Option.bind_some,if_pos rfl,e4,Option.bind_some,if_pos rfl,e3,Option.bind_some,if_pos rfl,hcl,Option.bind_some,sameblock_self ho ts]
  rfl
 ·rw [if_neg c1,Option.bind_some,if_pos rfl]
end Go.Proofs.YticejmbhhehfdaaGreatDoor.T
namespace Go.Proofs.YticejmbhhehfdaaGreatDoor.K
open Go Go.Proofs Go.ChangeShapes Go.WideShapes Go.RowKit
def mem (w:World):Store:=fun k=>w.heap[k]?
theorem agr_mem (w:World):Agr (mem w) w:=fun _ _ h=>h
theorem mem_cell {w:World}{g i:Nat}{v:Value}(h:w.cell? ⟨g,i,none⟩=some v):(mem w).cell g i=some v:=by
 unfold World.cell? at h
 unfold Store.cell mem
 cases hm:w.heap[g]? with
 | none=>simp [hm] at h
 | some o=>cases o <;> simp_all
theorem wf_in {k:IntKind}{n:Int}(h:(Lit.int k n).wf=true):InR k n:=by
 cases k <;> simp [Lit.wf,IntKind.min,IntKind.max,IntKind.signed,IntKind.bits] at h <;> simp [InR] <;> omega
section
variable {H:Type} {enc:TypeId×Value→H} {P:Program} {w:World} {base:Nat} {spare:Nat→Bool} {held:Bool} {t e:TypeId}
def Rd (enc:TypeId×Value→H)(P:Program)(w:World)(base:Nat)(spare:Nat→Bool)(held:Bool)(t:TypeId)(R:List Value→Prop):Prop :=
 ∀ fuel cs x,DataW.trod enc P w base spare held fuel t cs=some x→R cs
theorem rd_int {k:IntKind}(ht:P.underlying t=some (.int k)):Rd enc P w base spare held t (fun c=>∃ n,RI k n c):=by
 intro fuel cs x h
 obtain ⟨n,rfl,_,hw⟩:=DataW.trod_int ht h
 exact ⟨n,rfl,wf_in hw⟩
theorem rd_array {k:IntKind}{n:Nat}(ht:P.underlying t=some (.array n e))(he:P.underlying e=some (.int k))(hc:P.cellsOf e=1)(hn:P.cellsOf t=n) :
  Rd enc P w base spare held t (fun c=>∃ xs,RA k n xs c):=by
 intro fuel cs x h
 obtain ⟨xs,m,_,_,hl,hx,hf⟩:=DataW.trod_array ht h
 rw [hn] at hl
 have each:∀ i,i < n→∃ z,cs[i]?=some (.int k z)∧InR k z:=by
  intro i hi
  have h1:=hf i hi
  rw [hc,Nat.mul_one,List.getElem?_eq_getElem (by omega)] at h1
  obtain ⟨z,hz,_,hw⟩:=DataW.trod_int he h1
  refine ⟨z,?_,wf_in hw⟩
  have:=congrArg (·[0]?) hz
  simpa using this
 refine ⟨cs.map fun v=>match v with | .int _ z=>z | _=>0,?_,?_,?_⟩
 ·simp only [List.flatten_cons,List.flatten_nil,List.append_nil]
  apply List.ext_getElem?
  intro i
  by_cases hi:i < n
  ·obtain ⟨z,hz,_⟩:=each i hi
   rw [av_get _ _ _ hi,hz]
   simp [List.getD,hz]
  ·rw [List.getElem?_eq_none (by omega),List.getElem?_eq_none (by rw [av_len];omega)]
 ·simpa using hl
 ·intro y hy
  obtain ⟨v,hv,rfl⟩:=List.mem_map.1 hy
  obtain ⟨i,hi,rfl⟩:=List.getElem_of_mem hv
  obtain ⟨z,hz,hr⟩:=each i (by omega)
  rw [List.getElem?_eq_getElem hi] at hz
  rw [Option.some.inj hz]
  exact hr
theorem els_of {α:Type}{RE:α→List Value→Prop}{sz:Nat}:∀ {n:Nat} {Q:Nat→Value→Prop},(∀ i,i < n→∃ x c,RE x c∧c.length=sz∧∀ j v,c[j]?=some v→Q (i * sz+j) v) →
  ∃ xs cs,xs.length=n∧Els RE sz xs cs∧∀ j v,cs[j]?=some v→Q j v
 | 0,_,_=>⟨[],[],rfl,.nil,fun j v h=>by simp at h⟩
 | n+1,Q,f=>by
  obtain ⟨x,c,h1,h2,h3⟩:=f 0 (by omega)
  obtain ⟨xs,cs,e1,e2,e3⟩:=els_of (n:=n) (Q:=fun m v=>Q (sz+m) v) (fun i hi=>by
   obtain ⟨x,c,h1,h2,h3⟩:=f (i+1) (by omega)
   refine ⟨x,c,h1,h2,fun j v hj=>?_⟩
   have:=h3 j v hj
   rwa [Nat.add_mul,Nat.one_mul,Nat.add_comm (i * sz),Nat.add_assoc] at this)
  refine ⟨x::xs,c++cs,by simp [e1],.cons h1 h2 e2,fun j v hj=>?_⟩
  rcases Nat.lt_or_ge j c.length with h | h
  ·rw [List.getElem?_append_left h] at hj
   simpa using h3 j v hj
  ·rw [List.getElem?_append_right h] at hj
   have:=e3 _ _ hj
   rwa [h2,Nat.add_sub_cancel' (by omega)] at this
theorem rd_slice {α:Type}{RE:α→List Value→Prop}{sz:Nat}(ht:P.underlying t=some (.slice e))(hc:P.cellsOf e=sz)(h0:0 < sz)(hr:Rd enc P w base spare held e (fun c=>∃ x,RE x c)) :
  Rd enc P w base spare held t (fun c=>∃ v xs,c=[v]∧Slc RE sz (mem w) v xs):=by
 intro fuel cs x h
 rcases DataW.trod_slice ht h with ⟨rfl,_⟩ | ⟨a,len,cap,elems,rest,n,_,rfl,_,_,hl,hm,hlen,hel,_,_⟩
 ·exact ⟨_,[],rfl,[],.nil,none,0,rfl,Nat.le_refl _,Nat.zero_le _,fun h=>absurd rfl h,fun h=>absurd rfl h⟩
 have each0:∀ i,i < len→∃ x c,RE x c∧c.length=sz∧∀ j,j < sz→w.cell? ((a.add (i * sz)).add j)=c[j]?:=by
  intro i hi
  have h1:=hel i hi
  rw [List.getElem?_eq_getElem (by omega),hc] at h1
  obtain ⟨c,hc1,hc2⟩:=Option.bind_eq_some_iff.1 h1
  obtain ⟨_,l1,l2⟩:=World.cells?_some hc1
  obtain ⟨x,hx⟩:=hr _ _ _ hc2
  exact ⟨x,c,hx,l1,l2⟩
 have hs:0 < len→a.spot=none:=by
  intro hp
  obtain ⟨x,c,_,l1,l2⟩:=each0 0 hp
  have h2:=(l2 0 h0).trans (List.getElem?_eq_getElem (by omega))
  simpa [Addr.add] using World.cell?_spot h2
 obtain ⟨b,off,spot⟩:=a
 simp only at hs
 have each:∀ i,i < len→∃ x c,RE x c∧c.length=sz∧∀ j v,c[j]?=some v→(fun m v=>w.cell? ⟨b,off+m,none⟩=some v) (i * sz+j) v:=by
  intro i hi
  obtain ⟨x,c,hx,l1,l2⟩:=each0 i hi
  refine ⟨x,c,hx,l1,fun j v hj=>?_⟩
  have hjl:j < sz:=by
   have:=(List.getElem?_eq_some_iff.1 hj).1
   omega
  have h2:=(l2 j hjl).trans hj
  rw [hs (by omega),add_plain,add_plain] at h2
  simpa [Nat.add_assoc] using h2
 obtain ⟨xs,cs,e1,e2,e3⟩:=els_of (RE:=RE) (sz:=sz) (Q:=fun m v=>w.cell? ⟨b,off+m,none⟩=some v) each
 refine ⟨_,xs,rfl,cs,e2,some ⟨b,off,spot⟩,cap,by rw [e1],by omega,hm,fun hn=>by rw [hs (by omega)];rfl,fun hn j v hj=>mem_cell (e3 j v hj)⟩
theorem rd_struct {fs:Array Field}{fuel:Nat}{cs:List Value}{x:DataW H×List MemPlace}(ht:P.underlying t=some (.struct fs))(h:DataW.trod enc P w base spare held fuel t cs=some x) :
  cs.length=P.cellsOf t∧∀ (i:Nat) (f:Field),fs[i]?=some f→∃ n y,DataW.trod enc P w base spare held n f.type ((cs.drop f.offset).take (P.cellsOf f.type))=some y:=by
 obtain ⟨xs,n,_,_,hl,hx,hf⟩:=DataW.trod_struct ht h
 refine ⟨hl,fun i f hi=>?_⟩
 have h1:=hf i f hi
 have:i < fs.size:=(Array.getElem?_eq_some_iff.1 hi).1
 rw [List.getElem?_eq_getElem (by omega)] at h1
 exact ⟨n,_,h1⟩
theorem chop {α:Type}(cs:List α)(o n m:Nat)(h:o+n=m):cs.drop o=(cs.drop o).take n++cs.drop m:=by
 subst h
 rw [← List.drop_drop,List.take_append_drop]
theorem rd_at {R:List Value→Prop}{v:Value}{d:DataW H}{ps:List MemPlace}(hr:Rd enc P w base spare held t R)(h:DataW.Trod enc P w base spare held t v d ps):R v.cells.toList:=by
 obtain ⟨fuel,hf⟩:=h
 exact hr _ _ _ hf
theorem at_slice {α:Type}{RE:α→List Value→Prop}{sz:Nat}{r:Reach}{b0:Nat}{v:Value}{d:DataW H}{ps:List MemPlace}(ht:P.underlying t=some (.slice e))(hval:Value.okWide P w r b0 t v)
  (hr:Rd enc P w base spare held t (fun c=>∃ v xs,c=[v]∧Slc RE sz (mem w) v xs)) (h:DataW.Trod enc P w base spare held t v d ps):∃ xs,Slc RE sz (mem w) v xs:=by
 obtain ⟨a,len,cap,rfl⟩:=okWide_slice ht hval
 obtain ⟨u,xs,e1,h2⟩:=rd_at hr h
 simp [Value.cells] at e1
 subst e1
 exact ⟨xs,h2⟩
theorem at_agg {R:List Value→Prop}{v:Value}{d:DataW H}{ps:List MemPlace}(hv:∃ cs,v=.agg cs)(hr:Rd enc P w base spare held t R)(h:DataW.Trod enc P w base spare held t v d ps):∃ cs:List Value,v=.agg cs.toArray∧R cs:=by
 obtain ⟨cs,rfl⟩:=hv
 exact ⟨cs.toList,by simp,rd_at hr h⟩
theorem agg_struct {fs:Array Field}{r:Reach}{b0:Nat}{v:Value}(ht:P.underlying t=some (.struct fs))(hval:Value.okWide P w r b0 t v):∃ cs,v=.agg cs:=let ⟨cs,h,_⟩:=okWide_struct ht hval;⟨cs,h⟩
theorem again {W W':World}{v:Value}{d:DataW H}{ps:List MemPlace}(hl:laidOutB P=true)(hr:P.readableRec t=true)(hrow:t < P.types.size)(h:DataW.Trod enc P W 0 (fun _=>true) true t v d ps)(hb:Below W.heap.size W W') :
  DataW.Trod enc P W' 0 (fun b=>decide (b < W.heap.size)) true t v d ps :=
 Below.trod hl hr hrow h hb (fun p hp=>let ⟨n,hn⟩:=h;DataW.trod_lt n _ _ _ hn p hp)
end
end Go.Proofs.YticejmbhhehfdaaGreatDoor.K
namespace Go.Proofs.YticejmbhhehfdaaGreatDoor.K
open Go Go.Proofs
set_option linter.unusedVariables false
theorem laid_each {P:Program}{W:World}:∀ {l:List (String×DataW Unit)} {ps:List MemPlace},DataW.LaidVars P W l ps→∀ {n:String} {d:DataW Unit},(n,d)∈l →
  ∃ g t cs fuel p,P.globalNamed n=some g∧(P.globals[g]?).map (·.type)=some t∧W.var? P n=some cs∧DataW.trod (fun _=>()) P W 0 (fun _=>true) false fuel t cs.toList=some (d,p)∧∀ x∈MemPlace.row ⟨g,0,none⟩ cs.size++p,x∈ps
 | [],ps,h,n,d,hm=>by cases hm
 | (m,e)::r,ps,h,n,d,hm=>by
  obtain ⟨g,t,cs,fuel,p,q,hg,ht,hv,hd,hr,rfl⟩:=h
  rcases List.mem_cons.1 hm with e1 | hm
  ·cases e1
   exact ⟨g,t,cs,fuel,p,hg,ht,hv,hd,fun x hx=>List.mem_append_left _ hx⟩
  ·obtain ⟨g',t',cs',fuel',p',a1,a2,a3,a4,a5⟩:=laid_each hr hm
   exact ⟨g',t',cs',fuel',p',a1,a2,a3,a4,fun x hx=>List.mem_append_right _ (a5 x hx)⟩
theorem sent_of_laid {P:Program}{W:World}{laid:List (String×DataW Unit)}{code:ByteArray→Nat}{n:String}{text:List UInt8}{g:Nat}{ti tp ta te ts:TypeId}{ms:Array (String×TypeId)}{f:Field}
  (h : laidMet P laid W) (hm : (n, .iface "*errors.errorString" (.ptr (.agg [.lit (.string text)]))) ∈ laid) (hg : P.globalNamed n = some g) (ht : (P.globals[g]?).map (·.type) = some ti)
  (hi : P.underlying ti = some (.interface ms)) (hrow : ∀ u, P.typeName? 3 u = some "*errors.errorString" → u = tp) (hp : P.underlying tp = some (.pointer te)) (he : P.underlying te = some (.struct #[f])) (hft : f.type = ts) (hfo : f.offset = 0) (hs : P.underlying ts = some .string) (hc : P.cellsOf te = 1) (hcs : P.cellsOf ts = 1)
  (hcode:∀ s:ByteArray,s.data.toList=text→code s=g+1):∃ v,ErV tp ta code (mem W) (.b (g+1)) v:=by
 obtain ⟨ps,hl,hnd,hrows⟩:=h
 obtain ⟨g',t',cs,fuel,p,a1,a2,a3,a4,a5⟩:=laid_each hl hm
 obtain rfl:=Option.some.inj (hg.symm.trans a1)
 obtain rfl:=Option.some.inj (ht.symm.trans a2)
 obtain ⟨l⟩:=cs
 have ok:∀ u v,l=[.iface u v]→Value.okWide P W .any 0 u v:=fun u v e=>by
  subst e
  exact (hrows g 0 (a5 _ (by simp [MemPlace.row]))).2 u v (by simpa using World.var?_cell hg a3 0)
 obtain ⟨a,s,rfl,hcell,hst,hz,rfl⟩:=errorString_of_trod hi hrow hp he hft hfo hs hc hcs a4 ok
 obtain ⟨c,t,hb⟩:=(hrows a.block a.off (a5 _ (by simp [MemPlace.row]))).1
 refine ⟨.iface tp (.pointer (some a)),.inr ⟨by omega,mem_cell (by simpa using World.var?_cell hg a3 0),a,s,c,t,rfl,hb,hcode s hst,fun w hw=>?_⟩⟩
 have e:w.heap[a.block]?=W.heap[a.block]?:=(hw _ _ hb).trans hb.symm
 unfold World.cell? at hcell ⊢
 rw [e]
 exact hcell
end Go.Proofs.YticejmbhhehfdaaGreatDoor.K
namespace Go.Proofs.YticejmbhhehfdaaGreatDoor.T
open Go Go.Proofs Go.Proofs.YticejmbhhehfdaaGreatDoor.K
set_option linter.unusedVariables false
set_option linter.unusedSimpArgs false
set_option maxRecDepth 100000
theorem own:ownKnob Tryz.prog.godebug=none:=by kernel_rfl
noncomputable def low:Nat:=(World.holding Tryz.prog default ⟨#[],#[],[]⟩).heap.size
abbrev es0:ByteArray:={ data:=#[110,111,116,32,97,115,32,105,116,32,104,97,115,32,116,111,32,98,101] }
abbrev es1:ByteArray:={ data:=#[116,111,111,32,109,97,110,121,44,32,111,114,32,116,111,111,32,102,101,119] }
abbrev es2:ByteArray:={ data:=#[116,111,111,32,108,111,110,103] }
abbrev es3:ByteArray:={ data:=#[111,110,101,32,116,104,105,110,103,32,116,119,105,99,101] }
abbrev es4:ByteArray:={ data:=#[97,32,114,111,111,116,32,116,104,97,116,32,100,111,101,115,32,110,111,116,32,102,105,116] }
abbrev es5:ByteArray:={ data:=#[97,32,110,117,109,98,101,114,32,111,117,116,32,111,102,32,105,116,115,32,114,97,110,103,101] }
abbrev es6:ByteArray:={ data:=#[110,111,32,102,105,114,115,116,32,116,114,97,110,115,97,99,116,105,111,110,32,119,104,101,114,101,32,116,104,101,114,101,32,104,97,115,32,116,111,32,98,101,32,111,110,101,44,32,111,114,32,111,110,101,32,119,104,101,114,101,32,116,104,101,114,101,32,109,97,121,32,98,101,32,110,111,110,101] }
abbrev es7:ByteArray:={ data:=#[97,32,107,101,121,32,116,104,97,116,32,100,111,101,115,32,110,111,116,32,102,105,116] }
abbrev es8:ByteArray:={ data:=#[97,110,32,97,109,111,117,110,116,32,116,104,97,116,32,99,97,110,39,116,32,98,101] }
abbrev es9:ByteArray:={ data:=#[105,116,32,101,110,100,115,32,116,111,111,32,101,97,114,108,121] }
abbrev es10:ByteArray:={ data:=#[107,110,111,119,110,32,97,108,114,101,97,100,121] }
abbrev es11:ByteArray:={ data:=#[110,111,32,115,117,99,104,32,112,97,114,101,110,116] }
abbrev es12:ByteArray:={ data:=#[98,101,104,105,110,100,32,119,104,97,116,32,105,115,32,110,111,116,32,118,97,108,105,100] }
abbrev es13:ByteArray:={ data:=#[97,32,116,105,109,101,32,116,104,97,116,32,105,115,32,116,111,111,32,101,97,114,108,121] }
abbrev es14:ByteArray:={ data:=#[97,32,99,111,105,110,32,116,104,97,116,32,105,115,32,110,111,116,32,116,104,101,114,101] }
abbrev es15:ByteArray:={ data:=#[97,32,99,111,105,110,32,116,104,97,116,32,105,115,32,116,111,111,32,121,111,117,110,103] }
abbrev es16:ByteArray:={ data:=#[116,111,111,32,101,97,114,108,121,32,116,111,32,98,101,32,116,97,107,101,110] }
abbrev es17:ByteArray:={ data:=#[108,101,115,115,32,99,111,109,101,115,32,105,110,32,116,104,97,110,32,103,111,101,115,32,111,117,116] }
abbrev es18:ByteArray:={ data:=#[109,111,114,101,32,116,104,97,110,32,116,104,101,32,114,101,119,97,114,100] }
abbrev es19:ByteArray:={ data:=#[97,32,99,111,105,110,32,116,104,97,116,32,105,115,32,115,112,101,110,116,32,105,110,32,116,104,101,32,112,111,111,108] }
abbrev es20:ByteArray:={ data:=#[116,111,111,32,109,97,110,121,32,116,104,97,116,32,104,97,110,103,32,116,111,103,101,116,104,101,114] }
abbrev es21:ByteArray:={ data:=#[116,104,101,114,101,32,105,115,32,110,111,32,114,111,111,109] }
abbrev es22:ByteArray:={ data:=#[116,104,101,114,101,32,105,115,32,110,111,110,101] }
abbrev es23:ByteArray:={ data:=#[110,111,32,115,117,99,104,32,119,111,114,100] }
abbrev es24:ByteArray:={ data:=#[110,111,116,32,97,32,110,117,109,98,101,114] }
def setC (v:Value):Obj→Obj
 | .cells _ t frozen=>.cells #[v] t frozen
 | x=>x
noncomputable def laidWorld (os:Os):World :=
 let w0:=World.holding Tryz.prog os ⟨#[.cells #[.string es0] 181,.cells #[.string es1] 181,.cells #[.string es2] 181,.cells #[.string es3] 181,.cells #[.string es4] 181,.cells #[.string es5] 181,.cells #[.string es6] 181,.cells #[.string es7] 181,.cells #[.string es8] 181,.cells #[.string es9] 181,.cells #[.string es10] 181,.cells #[.string es11] 181,.cells #[.string es12] 181,.cells #[.string es13] 181,.cells #[.string es14] 181,.cells #[.string es15] 181,.cells #[.string es16] 181,.cells #[.string es17] 181,.cells #[.string es18] 181,.cells #[.string es19] 181,.cells #[.string es20] 181,.cells #[.string es21] 181,.cells #[.string es22] 181,.cells #[.string es23] 181,.cells #[.string es24] 181],#[],[]⟩
 { w0 with heap:=(((((((((((((((((((((((((w0.heap.modify 0 (setC (.iface 164 (.pointer (some ⟨low+0,0,none⟩))))).modify 1 (setC (.iface 164 (.pointer (some ⟨low+1,0,none⟩))))).modify 2 (setC (.iface 164 (.pointer (some ⟨low+2,0,none⟩))))).modify 3 (setC (.iface 164 (.pointer (some ⟨low+3,0,none⟩))))).modify 4 (setC (.iface 164 (.pointer (some ⟨low+4,0,none⟩))))).modify 5 (setC (.iface 164 (.pointer (some ⟨low+5,0,none⟩))))).modify 6 (setC (.iface 164 (.pointer (some ⟨low+6,0,none⟩))))).modify 7 (setC (.iface 164 (.pointer (some ⟨low+7,0,none⟩))))).modify 8 (setC (.iface 164 (.pointer (some ⟨low+8,0,none⟩))))).modify 9 (setC (.iface 164 (.pointer (some ⟨low+9,0,none⟩))))).modify 10 (setC (.iface 164 (.pointer (some ⟨low+10,0,none⟩))))).modify 11 (setC (.iface 164 (.pointer (some ⟨low+11,0,none⟩))))).modify 12 (setC (.iface 164 (.pointer (some ⟨low+12,0,none⟩))))).modify 13 (setC (.iface 164 (.pointer (some ⟨low+13,0,none⟩))))).modify 14 (setC (.iface 164 (.pointer (some ⟨low+14,0,none⟩))))).modify 15 (setC (.iface 164 (.pointer (some ⟨low+15,0,none⟩))))).modify 16 (setC (.iface 164 (.pointer (some ⟨low+16,0,none⟩))))).modify 17 (setC (.iface 164 (.pointer (some ⟨low+17,0,none⟩))))).modify 18 (setC (.iface 164 (.pointer (some ⟨low+18,0,none⟩))))).modify 19 (setC (.iface 164 (.pointer (some ⟨low+19,0,none⟩))))).modify 20 (setC (.iface 164 (.pointer (some ⟨low+20,0,none⟩))))).modify 21 (setC (.iface 164 (.pointer (some ⟨low+21,0,none⟩))))).modify 22 (setC (.iface 164 (.pointer (some ⟨low+22,0,none⟩))))).modify 23 (setC (.iface 164 (.pointer (some ⟨low+23,0,none⟩))))).modify 24 (setC (.iface 164 (.pointer (some ⟨low+24,0,none⟩))))) }
theorem starE : "*" ++ "errors.errorString" = "*errors.errorString" := by decide
theorem rowE (u : TypeId) (h : Tryz.prog.typeName? 3 u = some "*errors.errorString") : u = 164 :=
 typeName_ptr_named (nm := "errors.errorString") (by rw [starE]; kernel_rfl) (by kernel_rfl) (by decide) u (by rw [starE]; exact h)
theorem ceE:Tryz.prog.cellsOf 181=1:=by kernel_rfl
theorem csE:Tryz.prog.cellsOf 9=1:=by kernel_rfl
theorem sent0 {W : World} {l : List (String × DataW Unit)} (h : laidMet Tryz.prog l W) (hm : ("sargasso/api.ErrShape", .iface "*errors.errorString" (.ptr (.agg [.lit (.string [110, 111, 116, 32, 97, 115, 32, 105, 116, 32, 104, 97, 115, 32, 116, 111, 32, 98, 101])]))) ∈ l) : ∃ v, ErS (mem W) v (Er.b 1) :=
 sent_of_laid h hm (by kernel_rfl) (by kernel_rfl) Tryz.underlying35 rowE Tryz.underlying164 Tryz.underlying181 rfl rfl Tryz.underlying9 ceE csE (fun s hs=>by unfold errCode;rw [hs];kernel_rfl)
theorem sent1 {W : World} {l : List (String × DataW Unit)} (h : laidMet Tryz.prog l W) (hm : ("sargasso/api.ErrMany", .iface "*errors.errorString" (.ptr (.agg [.lit (.string [116, 111, 111, 32, 109, 97, 110, 121, 44, 32, 111, 114, 32, 116, 111, 111, 32, 102, 101, 119])]))) ∈ l) : ∃ v, ErS (mem W) v (Er.b 2) :=
 sent_of_laid h hm (by kernel_rfl) (by kernel_rfl) Tryz.underlying35 rowE Tryz.underlying164 Tryz.underlying181 rfl rfl Tryz.underlying9 ceE csE (fun s hs=>by unfold errCode;rw [hs];kernel_rfl)
theorem sent2 {W : World} {l : List (String × DataW Unit)} (h : laidMet Tryz.prog l W) (hm : ("sargasso/api.ErrLong", .iface "*errors.errorString" (.ptr (.agg [.lit (.string [116, 111, 111, 32, 108, 111, 110, 103])]))) ∈ l) : ∃ v, ErS (mem W) v (Er.b 3) :=
 sent_of_laid h hm (by kernel_rfl) (by kernel_rfl) Tryz.underlying35 rowE Tryz.underlying164 Tryz.underlying181 rfl rfl Tryz.underlying9 ceE csE (fun s hs=>by unfold errCode;rw [hs];kernel_rfl)
theorem sent3 {W : World} {l : List (String × DataW Unit)} (h : laidMet Tryz.prog l W) (hm : ("sargasso/api.ErrTwice", .iface "*errors.errorString" (.ptr (.agg [.lit (.string [111, 110, 101, 32, 116, 104, 105, 110, 103, 32, 116, 119, 105, 99, 101])]))) ∈ l) : ∃ v, ErS (mem W) v (Er.b 4) :=
 sent_of_laid h hm (by kernel_rfl) (by kernel_rfl) Tryz.underlying35 rowE Tryz.underlying164 Tryz.underlying181 rfl rfl Tryz.underlying9 ceE csE (fun s hs=>by unfold errCode;rw [hs];kernel_rfl)
theorem sent4 {W : World} {l : List (String × DataW Unit)} (h : laidMet Tryz.prog l W) (hm : ("sargasso/api.ErrRoot", .iface "*errors.errorString" (.ptr (.agg [.lit (.string [97, 32, 114, 111, 111, 116, 32, 116, 104, 97, 116, 32, 100, 111, 101, 115, 32, 110, 111, 116, 32, 102, 105, 116])]))) ∈ l) : ∃ v, ErS (mem W) v (Er.b 5) :=
 sent_of_laid h hm (by kernel_rfl) (by kernel_rfl) Tryz.underlying35 rowE Tryz.underlying164 Tryz.underlying181 rfl rfl Tryz.underlying9 ceE csE (fun s hs=>by unfold errCode;rw [hs];kernel_rfl)
theorem sent5 {W : World} {l : List (String × DataW Unit)} (h : laidMet Tryz.prog l W) (hm : ("sargasso/api.ErrRange", .iface "*errors.errorString" (.ptr (.agg [.lit (.string [97, 32, 110, 117, 109, 98, 101, 114, 32, 111, 117, 116, 32, 111, 102, 32, 105, 116, 115, 32, 114, 97, 110, 103, 101])]))) ∈ l) : ∃ v, ErS (mem W) v (Er.b 6) :=
 sent_of_laid h hm (by kernel_rfl) (by kernel_rfl) Tryz.underlying35 rowE Tryz.underlying164 Tryz.underlying181 rfl rfl Tryz.underlying9 ceE csE (fun s hs=>by unfold errCode;rw [hs];kernel_rfl)
theorem sent6 {W : World} {l : List (String × DataW Unit)} (h : laidMet Tryz.prog l W) (hm : ("sargasso/api.ErrBase", .iface "*errors.errorString" (.ptr (.agg [.lit (.string [110, 111, 32, 102, 105, 114, 115, 116, 32, 116, 114, 97, 110, 115, 97, 99, 116, 105, 111, 110, 32, 119, 104, 101, 114, 101, 32, 116, 104, 101, 114, 101, 32, 104, 97, 115, 32, 116, 111, 32, 98, 101, 32, 111, 110, 101, 44, 32, 111, 114, 32, 111, 110, 101, 32, 119, 104, 101, 114, 101, 32, 116, 104, 101, 114, 101, 32, 109, 97, 121, 32, 98, 101, 32, 110, 111, 110, 101])]))) ∈ l) : ∃ v, ErS (mem W) v (Er.b 7) :=
 sent_of_laid h hm (by kernel_rfl) (by kernel_rfl) Tryz.underlying35 rowE Tryz.underlying164 Tryz.underlying181 rfl rfl Tryz.underlying9 ceE csE (fun s hs=>by unfold errCode;rw [hs];kernel_rfl)
theorem sent7 {W : World} {l : List (String × DataW Unit)} (h : laidMet Tryz.prog l W) (hm : ("sargasso/api.ErrKey", .iface "*errors.errorString" (.ptr (.agg [.lit (.string [97, 32, 107, 101, 121, 32, 116, 104, 97, 116, 32, 100, 111, 101, 115, 32, 110, 111, 116, 32, 102, 105, 116])]))) ∈ l) : ∃ v, ErS (mem W) v (Er.b 8) :=
 sent_of_laid h hm (by kernel_rfl) (by kernel_rfl) Tryz.underlying35 rowE Tryz.underlying164 Tryz.underlying181 rfl rfl Tryz.underlying9 ceE csE (fun s hs=>by unfold errCode;rw [hs];kernel_rfl)
theorem sent8 {W : World} {l : List (String × DataW Unit)} (h : laidMet Tryz.prog l W) (hm : ("sargasso/api.ErrValue", .iface "*errors.errorString" (.ptr (.agg [.lit (.string [97, 110, 32, 97, 109, 111, 117, 110, 116, 32, 116, 104, 97, 116, 32, 99, 97, 110, 39, 116, 32, 98, 101])]))) ∈ l) : ∃ v, ErS (mem W) v (Er.b 9) :=
 sent_of_laid h hm (by kernel_rfl) (by kernel_rfl) Tryz.underlying35 rowE Tryz.underlying164 Tryz.underlying181 rfl rfl Tryz.underlying9 ceE csE (fun s hs=>by unfold errCode;rw [hs];kernel_rfl)
theorem sent9 {W : World} {l : List (String × DataW Unit)} (h : laidMet Tryz.prog l W) (hm : ("sargasso/api.ErrEnd", .iface "*errors.errorString" (.ptr (.agg [.lit (.string [105, 116, 32, 101, 110, 100, 115, 32, 116, 111, 111, 32, 101, 97, 114, 108, 121])]))) ∈ l) : ∃ v, ErS (mem W) v (Er.b 10) :=
 sent_of_laid h hm (by kernel_rfl) (by kernel_rfl) Tryz.underlying35 rowE Tryz.underlying164 Tryz.underlying181 rfl rfl Tryz.underlying9 ceE csE (fun s hs=>by unfold errCode;rw [hs];kernel_rfl)
theorem sent10 {W : World} {l : List (String × DataW Unit)} (h : laidMet Tryz.prog l W) (hm : ("sargasso/api.ErrKnown", .iface "*errors.errorString" (.ptr (.agg [.lit (.string [107, 110, 111, 119, 110, 32, 97, 108, 114, 101, 97, 100, 121])]))) ∈ l) : ∃ v, ErS (mem W) v (Er.b 11) :=
 sent_of_laid h hm (by kernel_rfl) (by kernel_rfl) Tryz.underlying35 rowE Tryz.underlying164 Tryz.underlying181 rfl rfl Tryz.underlying9 ceE csE (fun s hs=>by unfold errCode;rw [hs];kernel_rfl)
theorem sent11 {W : World} {l : List (String × DataW Unit)} (h : laidMet Tryz.prog l W) (hm : ("sargasso/api.ErrParent", .iface "*errors.errorString" (.ptr (.agg [.lit (.string [110, 111, 32, 115, 117, 99, 104, 32, 112, 97, 114, 101, 110, 116])]))) ∈ l) : ∃ v, ErS (mem W) v (Er.b 12) :=
 sent_of_laid h hm (by kernel_rfl) (by kernel_rfl) Tryz.underlying35 rowE Tryz.underlying164 Tryz.underlying181 rfl rfl Tryz.underlying9 ceE csE (fun s hs=>by unfold errCode;rw [hs];kernel_rfl)
theorem sent12 {W : World} {l : List (String × DataW Unit)} (h : laidMet Tryz.prog l W) (hm : ("sargasso/api.ErrInvalid", .iface "*errors.errorString" (.ptr (.agg [.lit (.string [98, 101, 104, 105, 110, 100, 32, 119, 104, 97, 116, 32, 105, 115, 32, 110, 111, 116, 32, 118, 97, 108, 105, 100])]))) ∈ l) : ∃ v, ErS (mem W) v (Er.b 13) :=
 sent_of_laid h hm (by kernel_rfl) (by kernel_rfl) Tryz.underlying35 rowE Tryz.underlying164 Tryz.underlying181 rfl rfl Tryz.underlying9 ceE csE (fun s hs=>by unfold errCode;rw [hs];kernel_rfl)
theorem sent13 {W : World} {l : List (String × DataW Unit)} (h : laidMet Tryz.prog l W) (hm : ("sargasso/api.ErrTime", .iface "*errors.errorString" (.ptr (.agg [.lit (.string [97, 32, 116, 105, 109, 101, 32, 116, 104, 97, 116, 32, 105, 115, 32, 116, 111, 111, 32, 101, 97, 114, 108, 121])]))) ∈ l) : ∃ v, ErS (mem W) v (Er.b 14) :=
 sent_of_laid h hm (by kernel_rfl) (by kernel_rfl) Tryz.underlying35 rowE Tryz.underlying164 Tryz.underlying181 rfl rfl Tryz.underlying9 ceE csE (fun s hs=>by unfold errCode;rw [hs];kernel_rfl)
theorem sent14 {W : World} {l : List (String × DataW Unit)} (h : laidMet Tryz.prog l W) (hm : ("sargasso/api.ErrMissing", .iface "*errors.errorString" (.ptr (.agg [.lit (.string [97, 32, 99, 111, 105, 110, 32, 116, 104, 97, 116, 32, 105, 115, 32, 110, 111, 116, 32, 116, 104, 101, 114, 101])]))) ∈ l) : ∃ v, ErS (mem W) v (Er.b 15) :=
 sent_of_laid h hm (by kernel_rfl) (by kernel_rfl) Tryz.underlying35 rowE Tryz.underlying164 Tryz.underlying181 rfl rfl Tryz.underlying9 ceE csE (fun s hs=>by unfold errCode;rw [hs];kernel_rfl)
theorem sent15 {W : World} {l : List (String × DataW Unit)} (h : laidMet Tryz.prog l W) (hm : ("sargasso/api.ErrYoung", .iface "*errors.errorString" (.ptr (.agg [.lit (.string [97, 32, 99, 111, 105, 110, 32, 116, 104, 97, 116, 32, 105, 115, 32, 116, 111, 111, 32, 121, 111, 117, 110, 103])]))) ∈ l) : ∃ v, ErS (mem W) v (Er.b 16) :=
 sent_of_laid h hm (by kernel_rfl) (by kernel_rfl) Tryz.underlying35 rowE Tryz.underlying164 Tryz.underlying181 rfl rfl Tryz.underlying9 ceE csE (fun s hs=>by unfold errCode;rw [hs];kernel_rfl)
theorem sent16 {W : World} {l : List (String × DataW Unit)} (h : laidMet Tryz.prog l W) (hm : ("sargasso/api.ErrEarly", .iface "*errors.errorString" (.ptr (.agg [.lit (.string [116, 111, 111, 32, 101, 97, 114, 108, 121, 32, 116, 111, 32, 98, 101, 32, 116, 97, 107, 101, 110])]))) ∈ l) : ∃ v, ErS (mem W) v (Er.b 17) :=
 sent_of_laid h hm (by kernel_rfl) (by kernel_rfl) Tryz.underlying35 rowE Tryz.underlying164 Tryz.underlying181 rfl rfl Tryz.underlying9 ceE csE (fun s hs=>by unfold errCode;rw [hs];kernel_rfl)
theorem sent17 {W : World} {l : List (String × DataW Unit)} (h : laidMet Tryz.prog l W) (hm : ("sargasso/api.ErrLess", .iface "*errors.errorString" (.ptr (.agg [.lit (.string [108, 101, 115, 115, 32, 99, 111, 109, 101, 115, 32, 105, 110, 32, 116, 104, 97, 110, 32, 103, 111, 101, 115, 32, 111, 117, 116])]))) ∈ l) : ∃ v, ErS (mem W) v (Er.b 18) :=
 sent_of_laid h hm (by kernel_rfl) (by kernel_rfl) Tryz.underlying35 rowE Tryz.underlying164 Tryz.underlying181 rfl rfl Tryz.underlying9 ceE csE (fun s hs=>by unfold errCode;rw [hs];kernel_rfl)
theorem sent18 {W : World} {l : List (String × DataW Unit)} (h : laidMet Tryz.prog l W) (hm : ("sargasso/api.ErrReward", .iface "*errors.errorString" (.ptr (.agg [.lit (.string [109, 111, 114, 101, 32, 116, 104, 97, 110, 32, 116, 104, 101, 32, 114, 101, 119, 97, 114, 100])]))) ∈ l) : ∃ v, ErS (mem W) v (Er.b 19) :=
 sent_of_laid h hm (by kernel_rfl) (by kernel_rfl) Tryz.underlying35 rowE Tryz.underlying164 Tryz.underlying181 rfl rfl Tryz.underlying9 ceE csE (fun s hs=>by unfold errCode;rw [hs];kernel_rfl)
theorem sent19 {W : World} {l : List (String × DataW Unit)} (h : laidMet Tryz.prog l W) (hm : ("sargasso/api.ErrClash", .iface "*errors.errorString" (.ptr (.agg [.lit (.string [97, 32, 99, 111, 105, 110, 32, 116, 104, 97, 116, 32, 105, 115, 32, 115, 112, 101, 110, 116, 32, 105, 110, 32, 116, 104, 101, 32, 112, 111, 111, 108])]))) ∈ l) : ∃ v, ErS (mem W) v (Er.b 20) :=
 sent_of_laid h hm (by kernel_rfl) (by kernel_rfl) Tryz.underlying35 rowE Tryz.underlying164 Tryz.underlying181 rfl rfl Tryz.underlying9 ceE csE (fun s hs=>by unfold errCode;rw [hs];kernel_rfl)
theorem sent20 {W : World} {l : List (String × DataW Unit)} (h : laidMet Tryz.prog l W) (hm : ("sargasso/api.ErrLimit", .iface "*errors.errorString" (.ptr (.agg [.lit (.string [116, 111, 111, 32, 109, 97, 110, 121, 32, 116, 104, 97, 116, 32, 104, 97, 110, 103, 32, 116, 111, 103, 101, 116, 104, 101, 114])]))) ∈ l) : ∃ v, ErS (mem W) v (Er.b 21) :=
 sent_of_laid h hm (by kernel_rfl) (by kernel_rfl) Tryz.underlying35 rowE Tryz.underlying164 Tryz.underlying181 rfl rfl Tryz.underlying9 ceE csE (fun s hs=>by unfold errCode;rw [hs];kernel_rfl)
theorem sent21 {W : World} {l : List (String × DataW Unit)} (h : laidMet Tryz.prog l W) (hm : ("sargasso/api.ErrFull", .iface "*errors.errorString" (.ptr (.agg [.lit (.string [116, 104, 101, 114, 101, 32, 105, 115, 32, 110, 111, 32, 114, 111, 111, 109])]))) ∈ l) : ∃ v, ErS (mem W) v (Er.b 22) :=
 sent_of_laid h hm (by kernel_rfl) (by kernel_rfl) Tryz.underlying35 rowE Tryz.underlying164 Tryz.underlying181 rfl rfl Tryz.underlying9 ceE csE (fun s hs=>by unfold errCode;rw [hs];kernel_rfl)
theorem sent22 {W : World} {l : List (String × DataW Unit)} (h : laidMet Tryz.prog l W) (hm : ("sargasso/api.ErrNone", .iface "*errors.errorString" (.ptr (.agg [.lit (.string [116, 104, 101, 114, 101, 32, 105, 115, 32, 110, 111, 110, 101])]))) ∈ l) : ∃ v, ErS (mem W) v (Er.b 23) :=
 sent_of_laid h hm (by kernel_rfl) (by kernel_rfl) Tryz.underlying35 rowE Tryz.underlying164 Tryz.underlying181 rfl rfl Tryz.underlying9 ceE csE (fun s hs=>by unfold errCode;rw [hs];kernel_rfl)
theorem sent23 {W : World} {l : List (String × DataW Unit)} (h : laidMet Tryz.prog l W) (hm : ("sargasso/api.ErrWord", .iface "*errors.errorString" (.ptr (.agg [.lit (.string [110, 111, 32, 115, 117, 99, 104, 32, 119, 111, 114, 100])]))) ∈ l) : ∃ v, ErS (mem W) v (Er.b 24) :=
 sent_of_laid h hm (by kernel_rfl) (by kernel_rfl) Tryz.underlying35 rowE Tryz.underlying164 Tryz.underlying181 rfl rfl Tryz.underlying9 ceE csE (fun s hs=>by unfold errCode;rw [hs];kernel_rfl)
theorem sent24 {W : World} {l : List (String × DataW Unit)} (h : laidMet Tryz.prog l W) (hm : ("sargasso/api.ErrNumber", .iface "*errors.errorString" (.ptr (.agg [.lit (.string [110, 111, 116, 32, 97, 32, 110, 117, 109, 98, 101, 114])]))) ∈ l) : ∃ v, ErS (mem W) v (Er.b 25) :=
 sent_of_laid h hm (by kernel_rfl) (by kernel_rfl) Tryz.underlying35 rowE Tryz.underlying164 Tryz.underlying181 rfl rfl Tryz.underlying9 ceE csE (fun s hs=>by unfold errCode;rw [hs];kernel_rfl)
theorem laid:laidOutB Tryz.prog=true:=by kernel_rfl
theorem cl22:Tryz.prog.cellsOf 22=1:=by kernel_rfl
theorem cl5:Tryz.prog.cellsOf 5=1:=by kernel_rfl
theorem cl24:Tryz.prog.cellsOf 24=32:=by kernel_rfl
theorem cl26:Tryz.prog.cellsOf 26=68:=by kernel_rfl
theorem cl65:Tryz.prog.cellsOf 65=33:=by kernel_rfl
theorem cl30:Tryz.prog.cellsOf 30=1:=by kernel_rfl
theorem rr30:Tryz.prog.readableRec 30=true:=by kernel_rfl
theorem tr30:30 < Tryz.prog.types.size:=of_decide_eq_true (by kernel_rfl)
theorem cl67:Tryz.prog.cellsOf 67=35:=by kernel_rfl
theorem cl60:Tryz.prog.cellsOf 60=1:=by kernel_rfl
theorem cl70:Tryz.prog.cellsOf 70=1:=by kernel_rfl
theorem cl106:Tryz.prog.cellsOf 106=33:=by kernel_rfl
theorem cl61:Tryz.prog.cellsOf 61=1:=by kernel_rfl
theorem cl63:Tryz.prog.cellsOf 63=4:=by kernel_rfl
theorem cl27:Tryz.prog.cellsOf 27=1:=by kernel_rfl
theorem cl29:Tryz.prog.cellsOf 29=69:=by kernel_rfl
theorem rr29:Tryz.prog.readableRec 29=true:=by kernel_rfl
theorem tr29:29 < Tryz.prog.types.size:=of_decide_eq_true (by kernel_rfl)
section
variable {H:Type} {enc:TypeId×Value→H} {w:World} {base:Nat} {spare:Nat→Bool} {held:Bool}
theorem rd22:Rd enc Tryz.prog w base spare held 22 (fun c=>∃ n,RI .u32 n c):=rd_int Tryz.underlying22
theorem rd5:Rd enc Tryz.prog w base spare held 5 (fun c=>∃ n,RI .u8 n c):=rd_int Tryz.underlying5
theorem rd24:Rd enc Tryz.prog w base spare held 24 (fun c=>∃ xs,RA .u8 32 xs c):=rd_array Tryz.underlying24 Tryz.underlying5 cl5 cl24
theorem rd26:Rd enc Tryz.prog w base spare held 26 (fun c=>∃ x,RHead (mem w) x c):=by
 intro fuel cs x h
 obtain ⟨hl,hf⟩:=rd_struct Tryz.underlying26 h
 rw [cl26] at hl
 obtain ⟨n0,y0,h0⟩:=hf 0 _ rfl
 obtain ⟨x0,e0,w0⟩:=rd22 _ _ _ h0
 have e0:(cs.drop 0).take (Tryz.prog.cellsOf 22)=_:=e0
 rw [cl22] at e0
 have c0:=chop cs 0 1 1 rfl
 rw [e0] at c0
 obtain ⟨n1,y1,h1⟩:=hf 1 _ rfl
 obtain ⟨x1,e1,w1⟩:=rd24 _ _ _ h1
 have e1:(cs.drop 1).take (Tryz.prog.cellsOf 24)=_:=e1
 rw [cl24] at e1
 have c1:=chop cs 1 32 33 rfl
 rw [e1] at c1
 obtain ⟨n2,y2,h2⟩:=hf 2 _ rfl
 obtain ⟨x2,e2,w2⟩:=rd24 _ _ _ h2
 have e2:(cs.drop 33).take (Tryz.prog.cellsOf 24)=_:=e2
 rw [cl24] at e2
 have c2:=chop cs 33 32 65 rfl
 rw [e2] at c2
 obtain ⟨n3,y3,h3⟩:=hf 3 _ rfl
 obtain ⟨x3,e3,w3⟩:=rd22 _ _ _ h3
 have e3:(cs.drop 65).take (Tryz.prog.cellsOf 22)=_:=e3
 rw [cl22] at e3
 have c3:=chop cs 65 1 66 rfl
 rw [e3] at c3
 obtain ⟨n4,y4,h4⟩:=hf 4 _ rfl
 obtain ⟨x4,e4,w4⟩:=rd22 _ _ _ h4
 have e4:(cs.drop 66).take (Tryz.prog.cellsOf 22)=_:=e4
 rw [cl22] at e4
 have c4:=chop cs 66 1 67 rfl
 rw [e4] at c4
 obtain ⟨n5,y5,h5⟩:=hf 5 _ rfl
 obtain ⟨x5,e5,w5⟩:=rd22 _ _ _ h5
 have e5:(cs.drop 67).take (Tryz.prog.cellsOf 22)=_:=e5
 rw [cl22] at e5
 have c5:=chop cs 67 1 68 rfl
 rw [e5] at c5
 rw [List.drop_eq_nil_of_le (i:=68) (by omega)] at c5
 rw [c5] at c4
 rw [c4] at c3
 rw [c3] at c2
 rw [c2] at c1
 rw [c1] at c0
 rw [List.drop_zero] at c0
 exact ⟨⟨x0,x1,x2,x3,x4,x5⟩, by rw [c0];simp [HeadC],⟨w0,w1,w2,w3,w4,w5⟩⟩
theorem rd65:Rd enc Tryz.prog w base spare held 65 (fun c=>∃ x,RPoint (mem w) x c):=by
 intro fuel cs x h
 obtain ⟨hl,hf⟩:=rd_struct Tryz.underlying65 h
 rw [cl65] at hl
 obtain ⟨n0,y0,h0⟩:=hf 0 _ rfl
 obtain ⟨x0,e0,w0⟩:=rd24 _ _ _ h0
 have e0:(cs.drop 0).take (Tryz.prog.cellsOf 24)=_:=e0
 rw [cl24] at e0
 have c0:=chop cs 0 32 32 rfl
 rw [e0] at c0
 obtain ⟨n1,y1,h1⟩:=hf 1 _ rfl
 obtain ⟨x1,e1,w1⟩:=rd22 _ _ _ h1
 have e1:(cs.drop 32).take (Tryz.prog.cellsOf 22)=_:=e1
 rw [cl22] at e1
 have c1:=chop cs 32 1 33 rfl
 rw [e1] at c1
 rw [List.drop_eq_nil_of_le (i:=33) (by omega)] at c1
 rw [c1] at c0
 rw [List.drop_zero] at c0
 exact ⟨⟨x0,x1⟩, by rw [c0];simp [PointC],⟨w0,w1⟩⟩
theorem rd30:Rd enc Tryz.prog w base spare held 30 (fun c=>∃ v xs,c=[v]∧Slc (RI .u8) 1 (mem w) v xs):=rd_slice Tryz.underlying30 cl5 (by decide) rd5
theorem rd67:Rd enc Tryz.prog w base spare held 67 (fun c=>∃ x,RIn (mem w) x c):=by
 intro fuel cs x h
 obtain ⟨hl,hf⟩:=rd_struct Tryz.underlying67 h
 rw [cl67] at hl
 obtain ⟨n0,y0,h0⟩:=hf 0 _ rfl
 obtain ⟨x0,e0,w0_0,w0_1⟩:=rd65 _ _ _ h0
 have e0:(cs.drop 0).take (Tryz.prog.cellsOf 65)=_:=e0
 rw [cl65] at e0
 have c0:=chop cs 0 33 33 rfl
 rw [e0] at c0
 obtain ⟨n1,y1,h1⟩:=hf 1 _ rfl
 obtain ⟨v1,x1,e1,w1⟩:=rd30 _ _ _ h1
 have e1:(cs.drop 33).take (Tryz.prog.cellsOf 30)=_:=e1
 rw [cl30] at e1
 have c1:=chop cs 33 1 34 rfl
 rw [e1] at c1
 obtain ⟨n2,y2,h2⟩:=hf 2 _ rfl
 obtain ⟨x2,e2,w2⟩:=rd22 _ _ _ h2
 have e2:(cs.drop 34).take (Tryz.prog.cellsOf 22)=_:=e2
 rw [cl22] at e2
 have c2:=chop cs 34 1 35 rfl
 rw [e2] at c2
 rw [List.drop_eq_nil_of_le (i:=35) (by omega)] at c2
 rw [c2] at c1
 rw [c1] at c0
 rw [List.drop_zero] at c0
 exact ⟨⟨x0,x1,x2⟩,v1, by rw [c0];simp [InC,PointC],⟨w0_0,w0_1,w1,w2⟩⟩
theorem rd60:Rd enc Tryz.prog w base spare held 60 (fun c=>∃ v xs,c=[v]∧Slc (RIn (mem w)) 35 (mem w) v xs):=rd_slice Tryz.underlying60 cl67 (by decide) rd67
theorem rd70:Rd enc Tryz.prog w base spare held 70 (fun c=>∃ n,RI .u64 n c):=rd_int Tryz.underlying70
theorem rd106:Rd enc Tryz.prog w base spare held 106 (fun c=>∃ x,ROut (mem w) x c):=by
 intro fuel cs x h
 obtain ⟨hl,hf⟩:=rd_struct Tryz.underlying106 h
 rw [cl106] at hl
 obtain ⟨n0,y0,h0⟩:=hf 0 _ rfl
 obtain ⟨x0,e0,w0⟩:=rd70 _ _ _ h0
 have e0:(cs.drop 0).take (Tryz.prog.cellsOf 70)=_:=e0
 rw [cl70] at e0
 have c0:=chop cs 0 1 1 rfl
 rw [e0] at c0
 obtain ⟨n1,y1,h1⟩:=hf 1 _ rfl
 obtain ⟨x1,e1,w1⟩:=rd24 _ _ _ h1
 have e1:(cs.drop 1).take (Tryz.prog.cellsOf 24)=_:=e1
 rw [cl24] at e1
 have c1:=chop cs 1 32 33 rfl
 rw [e1] at c1
 rw [List.drop_eq_nil_of_le (i:=33) (by omega)] at c1
 rw [c1] at c0
 rw [List.drop_zero] at c0
 exact ⟨⟨x0,x1⟩, by rw [c0];simp [OutC],⟨w0,w1⟩⟩
theorem rd61:Rd enc Tryz.prog w base spare held 61 (fun c=>∃ v xs,c=[v]∧Slc (ROut (mem w)) 33 (mem w) v xs):=rd_slice Tryz.underlying61 cl106 (by decide) rd106
theorem rd63:Rd enc Tryz.prog w base spare held 63 (fun c=>∃ x,RTx (mem w) x c):=by
 intro fuel cs x h
 obtain ⟨hl,hf⟩:=rd_struct Tryz.underlying63 h
 rw [cl63] at hl
 obtain ⟨n0,y0,h0⟩:=hf 0 _ rfl
 obtain ⟨x0,e0,w0⟩:=rd22 _ _ _ h0
 have e0:(cs.drop 0).take (Tryz.prog.cellsOf 22)=_:=e0
 rw [cl22] at e0
 have c0:=chop cs 0 1 1 rfl
 rw [e0] at c0
 obtain ⟨n1,y1,h1⟩:=hf 1 _ rfl
 obtain ⟨v1,x1,e1,w1⟩:=rd60 _ _ _ h1
 have e1:(cs.drop 1).take (Tryz.prog.cellsOf 60)=_:=e1
 rw [cl60] at e1
 have c1:=chop cs 1 1 2 rfl
 rw [e1] at c1
 obtain ⟨n2,y2,h2⟩:=hf 2 _ rfl
 obtain ⟨v2,x2,e2,w2⟩:=rd61 _ _ _ h2
 have e2:(cs.drop 2).take (Tryz.prog.cellsOf 61)=_:=e2
 rw [cl61] at e2
 have c2:=chop cs 2 1 3 rfl
 rw [e2] at c2
 obtain ⟨n3,y3,h3⟩:=hf 3 _ rfl
 obtain ⟨x3,e3,w3⟩:=rd22 _ _ _ h3
 have e3:(cs.drop 3).take (Tryz.prog.cellsOf 22)=_:=e3
 rw [cl22] at e3
 have c3:=chop cs 3 1 4 rfl
 rw [e3] at c3
 rw [List.drop_eq_nil_of_le (i:=4) (by omega)] at c3
 rw [c3] at c2
 rw [c2] at c1
 rw [c1] at c0
 rw [List.drop_zero] at c0
 exact ⟨⟨x0,x1,x2,x3⟩,v1,v2, by rw [c0];simp [TxC],⟨w0,w1,w2,w3⟩⟩
theorem rd27:Rd enc Tryz.prog w base spare held 27 (fun c=>∃ v xs,c=[v]∧Slc (RTx (mem w)) 4 (mem w) v xs):=rd_slice Tryz.underlying27 cl63 (by decide) rd63
theorem rd29:Rd enc Tryz.prog w base spare held 29 (fun c=>∃ x,RBlock (mem w) x c):=by
 intro fuel cs x h
 obtain ⟨hl,hf⟩:=rd_struct Tryz.underlying29 h
 rw [cl29] at hl
 obtain ⟨n0,y0,h0⟩:=hf 0 _ rfl
 obtain ⟨x0,e0,w0_0,w0_1,w0_2,w0_3,w0_4,w0_5⟩:=rd26 _ _ _ h0
 have e0:(cs.drop 0).take (Tryz.prog.cellsOf 26)=_:=e0
 rw [cl26] at e0
 have c0:=chop cs 0 68 68 rfl
 rw [e0] at c0
 obtain ⟨n1,y1,h1⟩:=hf 1 _ rfl
 obtain ⟨v1,x1,e1,w1⟩:=rd27 _ _ _ h1
 have e1:(cs.drop 68).take (Tryz.prog.cellsOf 27)=_:=e1
 rw [cl27] at e1
 have c1:=chop cs 68 1 69 rfl
 rw [e1] at c1
 rw [List.drop_eq_nil_of_le (i:=69) (by omega)] at c1
 rw [c1] at c0
 rw [List.drop_zero] at c0
 exact ⟨⟨x0,x1⟩,v1, by rw [c0];simp [BlockC,HeadC],⟨w0_0,w0_1,w0_2,w0_3,w0_4,w0_5,w1⟩⟩
end
end Go.Proofs.YticejmbhhehfdaaGreatDoor.T
namespace Go.Proofs.YticejmbhhehfdaaGreatDoor.J
open Go Go.Proofs
theorem words_cons:∀ (w r:List Char),w.all (· != ' ')=true→wordsSigns (w++' '::r)=w::wordsSigns r
 | [],r,_=>rfl
 | c::w,r,h=>by
  simp only [List.all_cons,Bool.and_eq_true,bne_iff_ne,ne_eq] at h
  have ih:=words_cons w r h.2
  rw [List.cons_append,wordsSigns,ih]
  exact fun e=>h.1 e
set_option maxRecDepth 100000
def w0:List Char:=['h','a','r','n','e','s','s']
def w1:List Char:=['3','6','2','5','c','5','e','e','3','4','3','a','4','d','c','b','c','4','4','d','2','8','3','9','3','5','0','c','9','f','6','5','4','7','a','a','3','4','f','b','5','1','e','4','e','4','9','6','3','8','d','0','1','7','5','c','7','0','b','b','2','8','7','5']
def w2:List Char:=['c','u','t']
def w3:List Char:=['a','t',' ','s','a','r','g','a','s','s','o','/','s','a','r','g','a','s','s','o','l','a','w','7','.','B','l','o','c','k','S','a','y','s']
theorem io0:Tryz.prog.initOrder=String.ofList (w0++' '::(w1++' '::(w2++' '::w3))):=by kernel_rfl
theorem io:Tryz.prog.initOrder.toList=w0++' '::(w1++' '::(w2++' '::w3)):=(congrArg String.toList io0).trans String.toList_ofList
theorem ws:wordsSigns Tryz.prog.initOrder.toList=w0::w1::w2::wordsSigns w3:=by
 rw [io,words_cons _ _ (by kernel_rfl),words_cons _ _ (by kernel_rfl),words_cons _ _ (by kernel_rfl)]
theorem bm (R:List (List Char)):behindMainWord (w0::w1::w2::R)=w2::R:=by kernel_rfl
theorem main_of {P:Program}{R:List (List Char)}(h:wordsSigns P.initOrder.toList=w0::w1::R):P.mainIs=some (true,w1):=by
 unfold Program.mainIs
 rw [h]
 kernel_rfl
theorem mainIs:Tryz.prog.mainIs=some (true,w1):=main_of ws
theorem bw:behindMainWord (wordsSigns Tryz.prog.initOrder.toList)=w2::wordsSigns w3:=by rw [ws,bm]
theorem st (R:List (List Char)):stripLifts liftWords (w2::R)=([],w2::R):=by kernel_rfl
theorem make_of {P:Program}{R:List (List Char)}(h:behindMainWord (wordsSigns P.initOrder.toList)=w2::R):P.make=some .cut:=by
 unfold Program.make
 rw [h]
 kernel_rfl
theorem head_of {P:Program}{R:List (List Char)}(h:behindMainWord (wordsSigns P.initOrder.toList)=w2::R):P.headLifts=[]:=by
 unfold Program.headLifts
 rw [h,st]
 kernel_rfl
theorem lifts_of {P:Program}{R:List (List Char)}(h:behindMainWord (wordsSigns P.initOrder.toList)=w2::R):P.liftsFinal=false:=by
 unfold Program.liftsFinal
 rw [h,head_of h]
 kernel_rfl
theorem may_of {P:Program}{R:List (List Char)}(h:behindMainWord (wordsSigns P.initOrder.toList)=w2::R)(h1:P.laysLater=false)(h2:P.bearsReflect=false)(h3:P.doorFits []=true):P.mayEnter=true:=by
 unfold Program.mayEnter
 rw [h]
 simp only [st,h1,h2,h3]
 kernel_rfl
theorem later:Tryz.prog.laysLater=false:=by kernel_rfl
theorem reflect:Tryz.prog.bearsReflect=false:=by kernel_rfl
theorem door:Tryz.prog.doorFits []=true:=by kernel_rfl
theorem make:Tryz.prog.make=some .cut:=make_of bw
theorem lifts:Tryz.prog.liftsFinal=false:=lifts_of bw
theorem may:Tryz.prog.mayEnter=true:=may_of bw later reflect door
end Go.Proofs.YticejmbhhehfdaaGreatDoor.J
