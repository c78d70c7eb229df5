/- Proved: the statement TreePlays, as given (its conditions are those of the given row, and card where there is one; no others): the call ends, with true, and the input reads as it did. This file is one of its parts. -/
import Derived.Test.YtdngkgkkblfcjaaGreatDoorPTreePlays5
import Derived.OpenShut
import Derived.ChangeArms
import Derived.DataReads
import Derived.WideShapes
import Derived.Below
import Derived.Carry
import Derived.ChangeOld
import Derived.LaidLaws
import Derived.Stop.ErrReads
import Derived.ChangeVars
import Derived.Test.YtdngkgkkblfcjaaGreatDoorRows
import Derived.Test.YtdngkgkkblfcjaaGreatDoorProg
import Derived.JoinedOf
import Derived.ProofKit
import Derived.WalkKit
import Derived.ShutString
import Derived.SizedLaws
import Derived.LaidHandle
import Derived.Handed
import Derived.SevenTiedAt
import Derived.Test.YtdngkgkkblfcjaaGreatDoorCards
import Derived.Test.YtdngkgkkblfcjaaGreatDoorTie
namespace Go.Proofs.YtdngkgkkblfcjaaGreatDoor.T
open Go Go.Proofs Go.Proofs.YtdngkgkkblfcjaaGreatDoor.K
set_option linter.unusedVariables false
set_option linter.unusedSimpArgs false
theorem u32e (x:Int):IntKind.u32.wrap x=x % 4294967296:=by simp [IntKind.wrap,IntKind.signed,IntKind.bits]
theorem wl (a b:Int):IntKind.u32.wrap (IntKind.u32.wrap a+b)=IntKind.u32.wrap (a+b):=by simp only [u32e];omega
theorem wr (a b:Int):IntKind.u32.wrap (a+IntKind.u32.wrap b)=IntKind.u32.wrap (a+b):=by simp only [u32e];omega
theorem bOr_comm (k:IntKind)(a b:Int):bOr k a b=bOr k b a:=by unfold bOr;rw [BitVec.or_comm]
theorem right_f (x n:Int)(h0:0≤n)(h1:n≤32):q1_right.f x n=some (rotr x n):=by
 simp only [q1_right.f,rotr]
 rw [wu64 (x:=32 - n) (by omega) (by omega),if_pos h0,if_pos (by omega)]
theorem turn_f (x n:Int)(h0:0 < n)(h1:n < 32):digest_turn.f x n=some (rotr x n):=by
 simp only [digest_turn.f,math_bits_RotateLeft32.f,rotr]
 have e1:IntKind.i64.wrap (0 - n)=-n:=by rw [w64 (by omega) (by omega)];omega
 have e2:IntKind.u64.wrap (-n)=18446744073709551616 - n:=by
  simp [IntKind.wrap,IntKind.signed,IntKind.bits]
  omega
 obtain ⟨m,rfl⟩:∃ m:Nat,n=m:=⟨n.toNat,by omega⟩
 have e3:bAnd .u64 (18446744073709551616 - (m:Int)) 31=32 - (m:Int):=by
  have h:=bAnd_nat .u64 rfl (a:=18446744073709551616 - m) (b:=31) (by simp [IntKind.bits];omega) (by simp [IntKind.bits])
  have e:((18446744073709551616 - m:Nat):Int)=18446744073709551616 - (m:Int):=by omega
  rw [e] at h
  have h':(18446744073709551616 - m) &&& 31=(18446744073709551616 - m) % 32:=and_low _ 5
  rw [h'] at h
  rw [show ((31:Nat):Int)=31 from rfl] at h
  rw [h]
  omega
 rw [e1,e2,e3,wu64 (x:=32 - (32 - (m:Int))) (by omega) (by omega),if_pos (by omega),if_pos (by omega)]
 have e4:32 - (32 - (m:Int))=m:=by omega
 rw [e4,bOr_comm]
 rfl
theorem schedR_len (b:List Int)(p t:Nat):(schedR b p t).length=64:=by
 induction t with
 | zero=>simp [schedR]
 | succ t ih=>simp [schedR,ih]
theorem getD_drop' (l:List Int)(a i:Nat):(l.drop a).getD i 0=l.getD (a+i) 0:=by simp [List.getD]
theorem getD_take' (l:List Int)(a i:Nat)(h:i < a):(l.take a).getD i 0=l.getD i 0:=by simp [List.getD,h]
theorem wsub (i c:Nat)(hc:c≤i)(hi:i < 1000):IntKind.i64.wrap ((i:Int) - (c:Nat))=((i - c:Nat):Int):=by
 rw [w64 (by omega) (by omega)];omega
theorem wadd1 (i:Nat)(hi:i < 9223372036854775807):IntKind.i64.wrap ((i:Int)+1)=((i+1:Nat):Int):=by
 rw [w64 (by omega) (by omega)];omega
theorem wmul4 (i:Nat)(hi:i < 1000):IntKind.i64.wrap (4 * (i:Int))=((4 * i:Nat):Int):=by
 rw [w64 (by omega) (by omega)];omega
theorem spread_step (b:List Int)(h:b.length=64)(w:List Int)(i:Nat)(hi:i < 64):digest_spread.s0 b ((i:Int),w)=some (.inl (((i+1:Nat):Int),w.set i (schedVal b 0 w i))):=by
 simp only [digest_spread.s0]
 rw [if_pos (by omega)]
 by_cases h16:i < 16
 ·have hl:(b.take ((b.length:Int)).toNat).drop (IntKind.i64.wrap (4 * (i:Int))).toNat=b.drop (4 * i):=by
   rw [wmul4 i (by omega),Int.toNat_natCast,Int.toNat_natCast,List.take_length]
  have hll:(b.drop (4 * i)).length=64 - 4 * i:=by simp [h]
  rw [if_pos (by omega),hl,hll,wmul4 i (by omega),if_pos (by omega),if_pos (by omega),if_pos (by omega),if_pos (by omega),if_pos (by omega),if_pos (by omega)]
  simp only [Option.bind_some,getD_drop',Int.toNat_natCast]
  rw [wadd1 i (by omega)]
  simp only [schedVal,if_pos h16,wordAt,Nat.zero_add]
  rfl
 ·have e2:=wsub i 2 (by omega) (by omega)
  have e7:=wsub i 7 (by omega) (by omega)
  have e15:=wsub i 15 (by omega) (by omega)
  have e16:=wsub i 16 (by omega) (by omega)
  simp only [show ((2:Nat):Int)=2 from rfl,show ((7:Nat):Int)=7 from rfl,show ((15:Nat):Int)=15 from rfl,show ((16:Nat):Int)=16 from rfl] at e2 e7 e15 e16
  rw [if_neg (by omega),e2,e7,e15,e16,if_pos (by omega),if_pos (by omega),if_pos (by omega),if_pos (by omega)]
  simp only [Int.toNat_natCast,turn_f _ 17 (by omega) (by omega),turn_f _ 19 (by omega) (by omega),turn_f _ 7 (by omega) (by omega),turn_f _ 18 (by omega) (by omega),Option.bind_some]
  rw [if_pos (by omega),wadd1 i (by omega)]
  simp only [Option.bind_some,schedVal,if_neg h16,sg0,sg1]
  congr 4
  simp only [wl,wr]
  congr 1
  omega
theorem spread_eq (b:List Int)(h:b.length=64):digest_spread.f b=some (schedR b 0 64):=by
 simp only [digest_spread.f]
 have e:=loop_run (step:=digest_spread.s0 b) (s:=(0,List.replicate 64 0)) (fun i=>((i:Int),schedR b 0 i)) 64 (r:=schedR b 0 64) rfl (fun i hi=>by
  rw [spread_step b h _ i hi]
  rfl) (by simp only [digest_spread.s0];rw [if_neg (by decide)])
 rw [e]
 rfl
theorem mix0_step (w x:List Int)(i:Nat)(hi:i < 64):digest_mix.s0 w digest_keys.lit0 ((i:Int),x)=some (.inl (((i+1:Nat):Int),rstep x (kc.getD i 0) (w.getD i 0))):=by
 simp only [digest_mix.s0]
 rw [if_pos (by omega)]
 simp only [turn_f _ 6 (by omega) (by omega),turn_f _ 11 (by omega) (by omega),turn_f _ 25 (by omega) (by omega),turn_f _ 2 (by omega) (by omega),turn_f _ 13 (by omega) (by omega),turn_f _ 22 (by omega) (by omega),Option.bind_some,Int.toNat_natCast]
 rw [if_pos (by omega),wadd1 i (by omega)]
 simp only [rstep,rt1,rt2,kc,wl,wr,show (0:Int).toNat=0 from rfl,show (1:Int).toNat=1 from rfl,show (2:Int).toNat=2 from rfl,show (3:Int).toNat=3 from rfl,show (4:Int).toNat=4 from rfl,show (5:Int).toNat=5 from rfl,show (6:Int).toNat=6 from rfl,show (7:Int).toNat=7 from rfl]
theorem mix_eq (s b:List Int)(h:b.length=64):digest_mix.f s b=some (mixV s b 0):=by
 simp only [digest_mix.f,spread_eq b h,digest_keys.f,Option.bind_some]
 have e:=loop_run (step:=digest_mix.s0 (schedR b 0 64) digest_keys.lit0) (s:=(0,s)) (fun i=>((i:Int),roundR (schedR b 0 64) s i)) 64 (r:=roundR (schedR b 0 64) s 64) rfl (fun i hi=>by
  rw [mix0_step _ _ i hi]
  rfl) (by simp only [digest_mix.s0];rw [if_neg (by decide)])
 rw [e]
 simp only [Option.bind_some]
 have e:=loop_run (step:=digest_mix.s1 (roundR (schedR b 0 64) s 64)) (s:=(0,s)) (fun i=>((i:Int),addR (roundR (schedR b 0 64) s 64) s i)) 8 (r:=mixV s b 0) rfl (fun i hi=>by
  simp only [digest_mix.s1]
  rw [if_pos (by omega),if_pos (by omega),wadd1 i (by omega)]
  simp only [Int.toNat_natCast,addR]) (by simp only [digest_mix.s1];rw [if_neg (by decide)];rfl)
 rw [e]
 rfl
theorem wordAt_in (m:List Int)(a n t:Nat)(h:t < 16):wordAt ((m.take (a+64)).drop a) (4 * t)=wordAt m (a+4 * t):=by
 have e:∀ j,j < 64→((m.take (a+64)).drop a).getD j 0=m.getD (a+j) 0:=fun j hj=>by
  rw [getD_drop',getD_take' _ _ _ (by omega)]
 simp only [wordAt]
 rw [e _ (by omega),e _ (by omega),e _ (by omega),e _ (by omega)]
 simp only [Nat.add_assoc]
theorem schedR_in (m:List Int)(a t:Nat):schedR ((m.take (a+64)).drop a) 0 t=schedR m a t:=by
 induction t with
 | zero=>rfl
 | succ t ih =>
  simp only [schedR,ih]
  congr 1
  simp only [schedVal]
  by_cases h:t < 16
  ·simp only [if_pos h,Nat.zero_add]
   exact wordAt_in m a 0 t h
  ·simp only [if_neg h]
theorem mixV_in (s m:List Int)(a:Nat):mixV s ((m.take (a+64)).drop a) 0=mixV s m a:=by
 simp only [mixV,schedR_in]
theorem wordAt_app (m l:List Int)(p:Nat)(h:p+3 < m.length):wordAt (m++l) p=wordAt m p:=by
 have e:∀ j,j < m.length→(m++l).getD j 0=m.getD j 0:=fun j hj=>by simp [List.getD,List.getElem?_append_left hj]
 simp only [wordAt]
 rw [e _ (by omega),e _ (by omega),e _ (by omega),e _ (by omega)]
theorem schedR_app (m l:List Int)(p t:Nat)(h:p+64≤m.length):schedR (m++l) p t=schedR m p t:=by
 induction t with
 | zero=>rfl
 | succ t ih =>
  simp only [schedR,ih]
  congr 1
  simp only [schedVal]
  by_cases h:t < 16
  ·simp only [if_pos h]
   exact wordAt_app m l _ (by omega)
  ·simp only [if_neg h]
theorem blocksR_app (m l s:List Int)(n:Nat)(h:64 * n≤m.length):blocksR (m++l) s n=blocksR m s n:=by
 induction n with
 | zero=>rfl
 | succ n ih =>
  simp only [blocksR,ih (by omega),mixV]
  rw [schedR_app _ _ _ _ (by omega)]
theorem mixV_drop (s m:List Int)(q a:Nat):mixV s (m.drop q) a=mixV s m (q+a):=by
 have hw:∀ p,wordAt (m.drop q) p=wordAt m (q+p):=fun p=>by
  simp only [wordAt,getD_drop',Nat.add_assoc]
 have hs:∀ t,schedR (m.drop q) a t=schedR m (q+a) t:=fun t=>by
  induction t with
  | zero=>rfl
  | succ t ih =>
   simp only [schedR,ih]
   congr 1
   simp only [schedVal,hw,Nat.add_assoc]
 simp only [mixV,hs]
theorem addR_len (x s:List Int)(i:Nat):(addR x s i).length=s.length:=by
 induction i with
 | zero=>rfl
 | succ i ih=>simp [addR,ih]
theorem mixV_len (s m:List Int)(a:Nat):(mixV s m a).length=s.length:=addR_len _ _ _
theorem blocksR_len (m s:List Int)(n:Nat):(blocksR m s n).length=s.length:=by
 induction n with
 | zero=>rfl
 | succ n ih=>rw [blocksR,mixV_len,ih]
def WIn (w:dWr)(m:List Int):Prop:=w.n=m.length∧w.rest=m.drop (64 * (m.length / 64))∧(64≤m.length→w.s=blocksR m iv0 (m.length / 64))
theorem clone_eq (xs:List Int)(h:xs.length≤140737488355328):bytes_Clone.f xs=some xs:=by
 unfold bytes_Clone.f
 rw [if_pos h]
theorem state_eq {w:dWr}{m:List Int}(h:WIn w m):dW_state.f w=some (blocksR m iv0 (m.length / 64)):=by
 obtain ⟨h1,h2,h3⟩:=h
 simp only [dW_state.f,digest_begin.f,Option.bind_some,h1]
 by_cases hc:m.length < 64
 ·rw [if_pos (by omega),Nat.div_eq_of_lt hc]
  rfl
 ·rw [if_neg (by omega),h3 (by omega)]
theorem write_eq {w:dWr}{m b:List Int}(h:WIn w m)(hb:m.length+b.length≤1000000):∃ w',dW_Write.f w b=some w'∧WIn w' (m++b):=by
 have hs:=state_eq h
 obtain ⟨h1,h2,h3⟩:=h
 generalize hq:m.length / 64=q at hs h2
 have hq1:64 * q≤m.length:=by omega
 have hR:w.rest++b=(m++b).drop (64 * q):=by rw [h2,List.drop_append_of_le_length hq1]
 have hRl:(w.rest++b).length=m.length+b.length - 64 * q:=by rw [hR];simp
 generalize hRe:w.rest++b=R at hR hRl
 generalize hc:R.length / 64=c
 have hloop:loopO dW_Write.s0 (0,blocksR m iv0 q,R)=some (((64 * c:Nat):Int),blocksR (m++b) iv0 (q+c),R):=by
  refine loop_run (fun i=>(((64 * i:Nat):Int),blocksR (m++b) iv0 (q+i),R)) c ?_ (fun i hi=>?_) ?_
  ·rw [Nat.add_zero,blocksR_app _ _ _ _ hq1];rfl
  ·simp only [dW_Write.s0]
   have e:IntKind.i64.wrap (((64 * i:Nat):Int)+64)=((64 * i+64:Nat):Int):=by rw [w64 (by omega) (by omega)];omega
   rw [e,if_pos (by omega),if_pos (by omega),Int.toNat_natCast,Int.toNat_natCast,mix_eq _ _ (by simp;omega)]
   simp only [Option.bind_some]
   rw [mixV_in,hR,mixV_drop,← Nat.mul_add]
   rfl
  ·simp only [dW_Write.s0]
   rw [w64 (by omega) (by omega),if_neg (by omega)]
 refine ⟨⟨blocksR (m++b) iv0 (q+c),R.drop (64 * c),m.length+b.length⟩,?_,by simp,?_,fun _=>?_⟩
 ·simp only [dW_Write.f]
  have hs':dW_state.f ⟨w.s,w.rest,w.n⟩=some (blocksR m iv0 q):=hs
  have hw:w.rest.length+b.length=R.length:=by rw [← hRe,List.length_append]
  rw [hs',hRe,hw]
  simp only [Option.bind_some]
  rw [if_pos (by omega),hloop]
  simp only [Option.bind_some]
  rw [if_pos (by omega),Int.toNat_natCast,Int.toNat_natCast,List.take_length,clone_eq _ (by simp;omega)]
  simp only [Option.bind_some]
  rw [h1,w64 (by omega) (by omega)]
 ·have:64 * ((m++b).length / 64)=64 * q+64 * c:=by rw [List.length_append];omega
  rw [this,hR,List.drop_drop]
 ·have:(m++b).length / 64=q+c:=by rw [List.length_append];omega
  rw [this]
theorem set_next {α:Type}(f:Nat→α)(n j:Nat)(z:α)(h:j < n):((List.range j).map f++List.replicate (n - j) z).set j (f j)=(List.range (j+1)).map f++List.replicate (n - (j+1)) z:=by
 obtain ⟨k,hk⟩:∃ k,n - j=k+1:=⟨n - j - 1,by omega⟩
 have hk':n - (j+1)=k:=by omega
 rw [hk,hk',List.set_append_right _ _ (by simp),List.range_succ,List.map_append,List.append_assoc]
 simp [List.replicate_succ]
theorem zeros_loop (step:List Int→Option (List Int⊕List Int))(hs:∀ l,step l=(if (Int.tmod (l.length:Int) 64)≠56 then (if l.length+1≤140737488355328 then some (.inl (l++([0]:List Int))) else none) else some (.inr l)))
  (l:List Int) (h:l.length≤2000000):loopO step l=some (l++List.replicate (zs l.length) 0):=by
 refine loop_run (fun i=>l++List.replicate i 0) (zs l.length) (by simp) (fun i hi=>?_) ?_
 ·rw [hs,if_pos ?_,if_pos (by simp [zs] at hi ⊢;omega)]
  ·simp [List.replicate_succ',List.append_assoc]
  ·rw [List.length_append,List.length_replicate,Int.tmod_eq_emod_of_nonneg (by omega)]
   simp only [zs] at hi
   omega
 ·rw [hs,if_neg ?_]
  rw [List.length_append,List.length_replicate,Int.tmod_eq_emod_of_nonneg (by omega)]
  simp only [zs]
  omega
theorem range_map_succ {α:Type}(f:Nat→α)(i:Nat):(List.range (i+1)).map f=(List.range i).map f++[f i]:=by rw [List.range_succ,List.map_append];rfl
theorem lenB_digest (n i:Nat)(hn:n≤1000000)(hi:i < 8):IntKind.u8.wrap (sR .u64 (sL .u64 (IntKind.u64.wrap (n:Int)) 3) (IntKind.i64.wrap (8 * (7 - (i:Int)))))=lenB n i:=by
 have e1:sL .u64 (IntKind.u64.wrap (n:Int)) 3=IntKind.u64.wrap (8 * (n:Int)):=by
  rw [wu64 (by omega) (by omega)]
  simp only [sL,show (3:Int).toNat=3 from rfl]
  rw [show ((2:Int) ^ (min 3 IntKind.u64.bits))=8 from rfl,Int.mul_comm]
 rw [e1,w64 (by omega) (by omega)]
 rfl
theorem padR_len (m:List Int):(padR m).length=m.length+1+zs (m.length+1)+8:=by
 simp [padR];omega
theorem padR_mod (m:List Int):(padR m).length % 64=0:=by
 rw [padR_len];simp only [zs];omega
theorem out_eq4 (s:List Int)(i:Nat)(hi:i < 8):loopO (dW_Sum.s4 s (i:Int)) (0,(List.range (4 * i)).map (outB s)++List.replicate (32 - 4 * i) 0)=some ((List.range (4 * (i+1))).map (outB s)++List.replicate (32 - 4 * (i+1)) 0):=by
 refine loop_run (fun k=>((k:Int),(List.range (4 * i+k)).map (outB s)++List.replicate (32 - (4 * i+k)) 0)) 4 (by simp) (fun k hk=>?_) ?_
 ·simp only [dW_Sum.s4]
  have e1:IntKind.i64.wrap (24 - IntKind.i64.wrap (8 * (k:Int)))=24 - 8 * (k:Int):=by
   rw [w64 (x:=8 * (k:Int)) (by omega) (by omega),w64 (by omega) (by omega)]
  have e2:IntKind.i64.wrap (IntKind.i64.wrap (4 * (i:Int))+(k:Int))=((4 * i+k:Nat):Int):=by
   rw [w64 (x:=4 * (i:Int)) (by omega) (by omega),w64 (by omega) (by omega)];omega
  rw [if_pos (by omega),e1,e2,if_pos (by omega),if_pos (by omega),wadd1 k (by omega),Int.toNat_natCast,Int.toNat_natCast]
  have e3:IntKind.u8.wrap (sR .u32 (s.getD i 0) (24 - 8 * (k:Int)))=outB s (4 * i+k):=by
   have a1:(4 * i+k) / 4=i:=by omega
   have a2:(4 * i+k) % 4=k:=by omega
   simp only [outB,a1,a2]
  rw [e3,set_next _ _ _ _ (by omega)]
  rfl
 ·simp only [dW_Sum.s4]
  rw [if_neg (by decide)]
  rfl
theorem out_eq (s:List Int):loopO (dW_Sum.s3 s) (0,List.replicate 32 0)=some (outL s):=by
 refine loop_run (fun i=>((i:Int),(List.range (4 * i)).map (outB s)++List.replicate (32 - 4 * i) 0)) 8 (by simp) (fun i hi=>?_) ?_
 ·simp only [dW_Sum.s3]
  rw [if_pos (by omega),if_pos (by omega),out_eq4 s i hi]
  simp only [Option.bind_some]
  rw [wadd1 i (by omega)]
 ·simp only [dW_Sum.s3]
  rw [if_neg (by decide)]
  rfl
theorem sum_eq' {w:dWr}{m:List Int}(h:WIn w m)(hb:m.length≤1000000):dW_Sum.f w=some (sha m):=by
 have hs:=state_eq h
 obtain ⟨h1,h2,h3⟩:=h
 generalize hq:m.length / 64=q at hs h2
 have hq1:64 * q≤m.length:=by omega
 have hrl:w.rest.length=m.length - 64 * q:=by rw [h2];simp
 have hz:zs (w.rest++[128]).length=zs (m.length+1):=by simp only [List.length_append,hrl,zs,List.length_cons,List.length_nil];omega
 have hz64:zs (m.length+1) < 64:=by simp only [zs];omega
 have hC:w.rest++[128]++List.replicate (zs (m.length+1)) 0++(List.range 8).map (lenB m.length)=(padR m).drop (64 * q):=by
  rw [h2,padR,List.drop_append_of_le_length hq1]
  simp only [List.append_assoc]
 have hl1:loopO (dW_Sum.s1 w) (w.rest++[128]++List.replicate (zs (m.length+1)) 0,7)=some ((padR m).drop (64 * q)):=by
  refine loop_run (fun i=>(w.rest++[128]++List.replicate (zs (m.length+1)) 0++(List.range i).map (lenB m.length),7 - (i:Int))) 8 (by simp) (fun i hi=>?_) ?_
  ·simp only [dW_Sum.s1]
   rw [if_pos (by omega),if_pos (by rw [w64 (by omega) (by omega)];omega),if_pos (by simp;omega),h1,lenB_digest _ _ hb hi,w64 (by omega) (by omega)]
   congr 2
   rw [range_map_succ,← List.append_assoc]
   congr 1
   omega
  ·simp only [dW_Sum.s1]
   rw [if_neg (by decide),hC]
 have hpl:=padR_len m
 have hpm:=padR_mod m
 have hCl:((padR m).drop (64 * q)).length=(padR m).length - 64 * q:=by simp
 generalize hc:((padR m).drop (64 * q)).length / 64=c at *
 have hl2:loopO dW_Sum.s2 ((padR m).drop (64 * q),0,blocksR m iv0 q)=some ((padR m).drop (64 * q),blocksR (padR m) iv0 (q+c)):=by
  refine loop_run (fun i=>((padR m).drop (64 * q),((64 * i:Nat):Int),blocksR (padR m) iv0 (q+i))) c ?_ (fun i hi=>?_) ?_
  ·rw [Nat.add_zero]
   have:blocksR (padR m) iv0 q=blocksR m iv0 q:=blocksR_app _ _ _ _ hq1
   rw [this];rfl
  ·simp only [dW_Sum.s2]
   have e:IntKind.i64.wrap (((64 * i:Nat):Int)+64)=((64 * i+64:Nat):Int):=by rw [w64 (by omega) (by omega)];omega
   rw [if_pos (by omega),e,if_pos (by omega),Int.toNat_natCast,Int.toNat_natCast,mix_eq _ _ (by simp;omega)]
   simp only [Option.bind_some]
   rw [mixV_in,mixV_drop,← Nat.mul_add]
   rfl
  ·simp only [dW_Sum.s2]
   rw [if_neg (by omega)]
 simp only [dW_Sum.f]
 have hs':dW_state.f ⟨w.s,w.rest,w.n⟩=some (blocksR m iv0 q):=hs
 rw [clone_eq _ (by omega)]
 simp only [Option.bind_some]
 rw [if_pos (by omega),zeros_loop dW_Sum.s0 (fun l=>rfl) _ (by simp;omega),hz]
 simp only [Option.bind_some]
 rw [hl1]
 simp only [Option.bind_some]
 rw [hs']
 simp only [Option.bind_some]
 rw [hl2]
 simp only [Option.bind_some]
 rw [out_eq]
 simp only [Option.bind_some,sha]
 congr 3
 omega
theorem wIn0 (s:List Int):WIn ⟨s,[],0⟩ []:=⟨rfl,rfl,fun h=>by simp at h⟩
theorem sha_eq (m:List Int)(hb:m.length≤1000000):digest_Sha.f m=some (sha m):=by
 obtain ⟨w',e,hw⟩:=write_eq (wIn0 (List.replicate 8 0)) (b:=m) (by simpa using hb)
 simp only [digest_Sha.f,e,Option.bind_some]
 have:dW_Sum.f ⟨w'.s,w'.rest,w'.n⟩=some (sha m):=sum_eq' hw (by simpa using hb)
 rw [this]
 rfl
theorem outL_len (s:List Int):(outL s).length=32:=by simp [outL]
theorem sha_len (m:List Int):(sha m).length=32:=outL_len _
theorem twice_eq (m:List Int)(hb:m.length≤1000000):digest_Twice.f m=some (sha (sha m)):=by
 simp only [digest_Twice.f,sha_eq m hb,Option.bind_some,sha_eq (sha m) (by rw [sha_len];omega)]
theorem sha_arr (m:List Int):Arr .u8 32 (sha m):=⟨sha_len m,fun x hx=>by
 simp only [sha,outL,List.mem_map] at hx
 obtain ⟨i,_,rfl⟩:=hx
 exact wrap_in _ _⟩
theorem els_all {α:Type}{RE:α→List Value→Prop}{sz:Nat}{xs:List α}{cs:List Value}{Q:α→Prop}(h:Els RE sz xs cs)(f:∀ x c,RE x c→Q x):∀ x∈xs,Q x:=by
 induction h with
 | nil=>simp
 | cons h _ _ ih =>
  intro y hy
  rcases List.mem_cons.1 hy with rfl | hy
  ·exact f _ _ h
  ·exact ih y hy
theorem slc_ints {k:IntKind}{μ:Store}{v:Value}{xs:List Int}(h:Slc (RI k) 1 μ v xs):∀ x∈xs,InR k x:=by
 obtain ⟨cs,he,_⟩:=h
 exact els_all he fun x c hc=>hc.2
theorem winc (i:Nat)(hi:i < 9223372036854775807):IntKind.i64.wrap ((i:Int)+1)=((i+1:Nat):Int):=by
 rw [w64 (by omega) (by omega)];omega
theorem take_next {α:Type}(xs:List α)(i:Nat)(d:α)(h:i < xs.length):xs.take i++[xs.getD i d]=xs.take (i+1):=by
 rw [List.take_add_one]
 simp [List.getD,h]
theorem copy_run {α:Type}{step:(List α×Int)→Option ((List α×Int)⊕List α)}(xs:List α)(d:α)(h:xs.length < 9223372036854775807)
  (hs:∀ i,i < xs.length→step (xs.take i,(i:Int))=some (.inl (xs.take i++[xs.getD i d],IntKind.i64.wrap ((i:Int)+1)))) (hn:step (xs,(xs.length:Int))=some (.inr xs)):loopO step ([],0)=some xs :=
 loop_run (fun i=>(xs.take i,(i:Int))) xs.length rfl (fun i hi=>by
  rw [hs i hi,take_next _ _ _ hi,winc i (by omega)]) (by simpa using hn)
theorem bytes_eq (xs:List Int)(h:xs.length≤140737488355328):q0_Bytes.f xs=some xs:=by
 unfold q0_Bytes.f
 rw [if_pos ⟨by omega,by omega,by omega⟩]
 simp only [Int.toNat_zero,List.replicate_zero]
 rw [copy_run xs 0 (by omega) (fun i hi=>by
  simp only [q0_Bytes.s0]
  rw [if_pos (by omega),if_pos (by omega),if_pos (by simp;omega),Int.toNat_natCast]) (by simp [q0_Bytes.s0])]
 rfl
theorem all_run {step:Int→Option (Int⊕Bool)}(n:Nat)(p:Nat→Prop)[DecidablePred p](hn:n < 9223372036854775807)
  (hs:∀ i,i < n→step (i:Int)=if p i then some (.inl (IntKind.i64.wrap ((i:Int)+1))) else some (.inr false)) (he:step (n:Int)=some (.inr true)):loopO step 0=some (decide (∀ i,i < n→p i)):=by
 have key:∀ m k,m+k=n→(∀ i,i < k→p i)→loopO step (k:Int)=some (decide (∀ i,i < n→p i)):=by
  intro m
  induction m with
  | zero =>
   intro k e h
   obtain rfl:k=n:=by omega
   rw [loopO_inr he]
   congr 1
   exact (decide_eq_true h).symm
  | succ m ih =>
   intro k e h
   have h1:=hs k (by omega)
   by_cases hp:p k
   ·rw [if_pos hp,winc k (by omega)] at h1
    rw [loopO_inl h1]
    refine ih (k+1) (by omega) fun i hi=>?_
    rcases Nat.lt_or_ge i k with h2 | h2
    ·exact h i h2
    ·obtain rfl:i=k:=by omega
     exact hp
   ·rw [if_neg hp] at h1
    rw [loopO_inr h1]
    have:¬ ∀ i,i < n→p i:=fun h2=>hp (h2 k (by omega))
    simp [this]
 exact key n 0 (by omega) (by simp)
theorem ext_iff {α:Type}(xs ys:List α)(d:α)(h:xs.length=ys.length):(∀ i,i < xs.length→xs.getD i d=ys.getD i d) ↔ xs=ys:=by
 constructor
 ·intro hh
  apply List.ext_getElem h
  intro i h1 h2
  have:=hh i h1
  simpa [List.getD,h1,h2] using this
 ·rintro rfl i _
  rfl
theorem samehash_eq (a b:List Int)(ha:a.length=32)(hb:b.length=32):q0_SameHash.f a b=some (decide (a=b)):=by
 unfold q0_SameHash.f
 rw [all_run 32 (fun i=>a.getD i 0=b.getD i 0) (by omega) (fun i hi=>by
  simp only [q0_SameHash.s0,Int.toNat_natCast]
  rw [if_pos (by omega),if_pos (by omega)]
  by_cases h:a.getD i 0=b.getD i 0
  ·rw [if_neg (by simpa using h),if_pos h]
  ·rw [if_pos h,if_neg h]) (by simp [q0_SameHash.s0])]
 congr 2
 apply propext
 have:=ext_iff a b 0 (by rw [ha,hb])
 rw [ha] at this
 exact this
theorem lesshash_eq (a b:List Int)(ha:a.length=32)(hb:b.length=32):q0_LessHash.f a b=some (decide (cmpI a b < 0)):=by
 have key:∀ m k:Nat,m+k=32→loopO (q0_LessHash.s0 a b) (k:Int)=some (decide (cmpI (a.drop k) (b.drop k) < 0)):=by
  intro m
  induction m with
  | zero =>
   intro k e
   rw [loopO_inr (r:=false) (by simp only [q0_LessHash.s0];rw [if_neg (by omega)]),List.drop_eq_nil_of_le (by omega),List.drop_eq_nil_of_le (by omega)]
   rfl
  | succ m ih =>
   intro k e
   have e1:a.drop k=a.getD k 0::a.drop (k+1):=by
    rw [List.drop_eq_getElem_cons (by omega)];simp [List.getD,show k < a.length by omega]
   have e2:b.drop k=b.getD k 0::b.drop (k+1):=by
    rw [List.drop_eq_getElem_cons (by omega)];simp [List.getD,show k < b.length by omega]
   by_cases h:a.getD k 0=b.getD k 0
   ·have ec:cmpI (a.drop k) (b.drop k)=cmpI (a.drop (k+1)) (b.drop (k+1)):=by
     rw [e1,e2,h]
     simp [cmpI]
    rw [loopO_inl (s':=((k+1:Nat):Int)) (by
     simp only [q0_LessHash.s0,Int.toNat_natCast]
     rw [if_pos (by omega),if_pos (by omega),if_neg (by simpa using h),winc k (by omega)]),ih (k+1) (by omega),ec]
   ·rw [loopO_inr (r:=decide (a.getD k 0 < b.getD k 0)) (by
     simp only [q0_LessHash.s0,Int.toNat_natCast]
     rw [if_pos (by omega),if_pos (by omega),if_pos h])]
    congr 1
    by_cases h1:a.getD k 0 < b.getD k 0
    ·have ec:cmpI (a.drop k) (b.drop k)=-1:=by
      rw [e1,e2]
      simp only [cmpI,if_pos h1]
     rw [ec,decide_eq_true h1]
     rfl
    ·have ec:cmpI (a.drop k) (b.drop k)=1:=by
      rw [e1,e2]
      simp only [cmpI,if_neg h1]
      rw [if_pos (by omega)]
     rw [ec,decide_eq_false h1]
     rfl
 exact key 32 0 (by omega)
theorem ref_sched_step (m:List Int)(a:Nat)(ha:a+64≤m.length)(hm:m.length≤3000000)(w:List Int)(hw:w.length=64)(i:Nat)(hi:i < 64):q1_Sha.s3 m (a:Int) ((i:Int),w)=some (.inl (((i+1:Nat):Int),w.set i (schedVal m a w i))):=by
 simp only [q1_Sha.s3,hw]
 rw [if_pos (by omega)]
 by_cases h16:i < 16
 ·have e0:IntKind.i64.wrap ((a:Int)+IntKind.i64.wrap (4 * (i:Int)))=((a+4 * i:Nat):Int):=by
   rw [wmul4 i (by omega),w64 (by omega) (by omega)];omega
  have e1:IntKind.i64.wrap (((a+4 * i:Nat):Int)+1)=((a+4 * i+1:Nat):Int):=by rw [w64 (by omega) (by omega)];omega
  have e2:IntKind.i64.wrap (((a+4 * i:Nat):Int)+2)=((a+4 * i+2:Nat):Int):=by rw [w64 (by omega) (by omega)];omega
  have e3:IntKind.i64.wrap (((a+4 * i:Nat):Int)+3)=((a+4 * i+3:Nat):Int):=by rw [w64 (by omega) (by omega)];omega
  rw [if_pos (by omega),e0,e1,e2,e3,if_pos (by omega),if_pos (by omega),if_pos (by omega),if_pos (by omega),if_pos (by omega)]
  simp only [Option.bind_some,Int.toNat_natCast]
  rw [wadd1 i (by omega)]
  simp only [schedVal,if_pos h16,wordAt]
 ·have e2:=wsub i 2 (by omega) (by omega)
  have e7:=wsub i 7 (by omega) (by omega)
  have e15:=wsub i 15 (by omega) (by omega)
  have e16:=wsub i 16 (by omega) (by omega)
  simp only [show ((2:Nat):Int)=2 from rfl,show ((7:Nat):Int)=7 from rfl,show ((15:Nat):Int)=15 from rfl,show ((16:Nat):Int)=16 from rfl] at e2 e7 e15 e16
  rw [if_neg (by omega),e2,e7,e15,e16,if_pos (by omega),if_pos (by omega),if_pos (by omega),if_pos (by omega)]
  simp only [Int.toNat_natCast,right_f _ 17 (by omega) (by omega),right_f _ 19 (by omega) (by omega),right_f _ 7 (by omega) (by omega),right_f _ 18 (by omega) (by omega),Option.bind_some]
  rw [if_pos (by omega),wadd1 i (by omega)]
  simp only [Option.bind_some,schedVal,if_neg h16,sg0,sg1,wl,wr]
theorem ref_sched (m:List Int)(a:Nat)(ha:a+64≤m.length)(hm:m.length≤3000000):loopO (q1_Sha.s3 m (a:Int)) (0,List.replicate ((64:Int).toNat) 0)=some (schedR m a 64):=by
 refine loop_run (fun i=>((i:Int),schedR m a i)) 64 rfl (fun i hi=>?_) ?_
 ·rw [ref_sched_step m a ha hm _ (schedR_len _ _ _) i hi]
  rfl
 ·simp only [q1_Sha.s3]
  rw [if_neg (by decide)]
theorem roundR_len (w s:List Int)(hs:s.length=8)(i:Nat):(roundR w s i).length=8:=by
 cases i with
 | zero=>exact hs
 | succ i=>rfl
theorem kc_len:kc.length=64:=by kernel_rfl
theorem k1_eq:q1_k.lit0=kc:=by kernel_rfl
theorem ref_round (w s:List Int)(hs:s.length=8)(hw:w.length=64):loopO (q1_Sha.s4 kc w) (([]:List Int)++s,0)=some (roundR w s 64):=by
 refine loop_run (fun i=>(roundR w s i,(i:Int))) 64 rfl (fun i hi=>?_) ?_
 ·have hl:=roundR_len w s hs i
  have hk:=kc_len
  simp only [q1_Sha.s4,hl]
  rw [if_pos (by omega),if_pos (by decide),if_pos (by decide),if_pos (by decide)]
  simp only [right_f _ 6 (by omega) (by omega),right_f _ 11 (by omega) (by omega),right_f _ 25 (by omega) (by omega),right_f _ 2 (by omega) (by omega),right_f _ 13 (by omega) (by omega),right_f _ 22 (by omega) (by omega),Option.bind_some,Int.toNat_natCast]
  rw [if_pos (by decide),if_pos (by decide),if_pos (by omega),if_pos (by omega),if_pos (by decide),if_pos (by decide),if_pos (by decide),wadd1 i (by omega)]
  simp only [roundR,rstep,rt1,rt2,wl,wr,show (0:Int).toNat=0 from rfl,show (1:Int).toNat=1 from rfl,show (2:Int).toNat=2 from rfl,show (3:Int).toNat=3 from rfl,show (4:Int).toNat=4 from rfl,show (5:Int).toNat=5 from rfl,show (6:Int).toNat=6 from rfl,show (7:Int).toNat=7 from rfl]
 ·simp only [q1_Sha.s4]
  rw [if_neg (by decide)]
theorem ref_add (x s:List Int)(hs:s.length=8)(hx:x.length=8):loopO (q1_Sha.s5 x) (0,s)=some (addR x s 8):=by
 refine loop_run (fun i=>((i:Int),addR x s i)) 8 rfl (fun i hi=>?_) ?_
 ·have hl:=addR_len x s i
  simp only [q1_Sha.s5,hl,hs,hx]
  rw [if_pos (by omega),if_pos (by omega),if_pos (by omega),wadd1 i (by omega)]
  simp only [Int.toNat_natCast,addR]
 ·simp only [q1_Sha.s5]
  rw [if_neg (by decide)]
theorem ref_out (s:List Int)(hs:s.length=8):loopO (q1_Sha.s6 s) (0,List.replicate 32 0)=some (outL s):=by
 refine loop_run (fun i=>((i:Int),(List.range i).map (outB s)++List.replicate (32 - i) 0)) 32 (by simp) (fun i hi=>?_) ?_
 ·simp only [q1_Sha.s6,hs]
  have e1:IntKind.i64.wrap (Int.tdiv (i:Int) 4)=((i / 4:Nat):Int):=by
   rw [Int.tdiv_eq_ediv_of_nonneg (by omega),w64 (by omega) (by omega)];omega
  have e2:Int.tmod (i:Int) 4=((i % 4:Nat):Int):=by rw [Int.tmod_eq_emod_of_nonneg (by omega)];omega
  have e3:IntKind.u64.wrap (IntKind.i64.wrap (24 - IntKind.i64.wrap (8 * ((i % 4:Nat):Int))))=24 - 8 * ((i % 4:Nat):Int):=by
   rw [w64 (x:=8 * ((i % 4:Nat):Int)) (by omega) (by omega),w64 (by omega) (by omega),wu64 (by omega) (by omega)]
  rw [if_pos (by omega),e1,e2,e3,if_pos (by omega),if_pos (by omega),if_pos (by omega),wadd1 i (by omega),Int.toNat_natCast,Int.toNat_natCast]
  have e4:IntKind.u8.wrap (sR .u32 (s.getD (i / 4) 0) (24 - 8 * ((i % 4:Nat):Int)))=outB s i:=rfl
  rw [e4,set_next _ _ _ _ (by omega)]
 ·simp only [q1_Sha.s6]
  rw [if_neg (by decide)]
  rfl
theorem lenB_ref (n i:Nat)(hn:n≤1000000)(hi:i < 8):IntKind.u8.wrap (sR .u64 (IntKind.u64.wrap (8 * IntKind.u64.wrap (n:Int))) (IntKind.u64.wrap (IntKind.i64.wrap (8 * (7 - (i:Int))))))=lenB n i:=by
 rw [w64 (by omega) (by omega),wu64 (x:=(n:Int)) (by omega) (by omega),wu64 (x:=8 * (7 - (i:Int))) (by omega) (by omega)]
 rfl
theorem ref_pad (m:List Int)(hb:m.length≤1000000):loopO (q1_Sha.s1 m) (m++[128]++List.replicate (zs (m.length+1)) 0,7)=some (padR m):=by
 have hz64:zs (m.length+1) < 64:=by simp only [zs];omega
 refine loop_run (fun i=>(m++[128]++List.replicate (zs (m.length+1)) 0++(List.range i).map (lenB m.length),7 - (i:Int))) 8 (by simp) (fun i hi=>?_) ?_
 ·simp only [q1_Sha.s1]
  rw [if_pos (by omega),if_pos (by rw [w64 (by omega) (by omega),wu64 (by omega) (by omega)];omega),if_pos (by simp;omega),lenB_ref _ _ hb hi,w64 (by omega) (by omega)]
  congr 2
  rw [range_map_succ,← List.append_assoc]
  congr 1
  omega
 ·simp only [q1_Sha.s1]
  rw [if_neg (by decide)]
  simp only [padR,List.append_assoc]
theorem ref_block (M s:List Int)(a:Nat)(hs:s.length=8)(ha:a+64≤M.length)(hM:M.length≤3000000):q1_Sha.s2 M kc ((a:Int),s)=some (.inl (IntKind.i64.wrap ((a:Int)+64),mixV s M a)):=by
 simp only [q1_Sha.s2]
 rw [if_pos (by omega),if_pos (by decide),ref_sched M a ha hM]
 simp only [Option.bind_some]
 rw [if_pos (by omega),ref_round _ _ hs (schedR_len _ _ _)]
 simp only [Option.bind_some]
 rw [ref_add _ _ hs (roundR_len _ _ hs _)]
 simp only [Option.bind_some,mixV]
theorem ref_blocks (M:List Int)(hM:M.length≤3000000)(h64:M.length % 64=0):loopO (q1_Sha.s2 M kc) (0,iv0)=some (blocksR M iv0 (M.length / 64)):=by
 refine loop_run (fun i=>(((64 * i:Nat):Int),blocksR M iv0 i)) (M.length / 64) (by simp only [Nat.mul_zero,blocksR];rfl) (fun i hi=>?_) ?_
 ·have hbl:(blocksR M iv0 i).length=8:=blocksR_len _ _ _
  rw [ref_block M _ (64 * i) hbl (by omega) hM]
  have e:IntKind.i64.wrap (((64 * i:Nat):Int)+64)=((64 * (i+1):Nat):Int):=by rw [w64 (by omega) (by omega)];omega
  rw [e,blocksR]
 ·simp only [q1_Sha.s2]
  rw [if_neg (by omega)]
theorem ref_sha_eq (m:List Int)(hb:m.length≤1000000):q1_Sha.f m=some (sha m):=by
 have hz:zs (m++[128]).length=zs (m.length+1):=by simp
 have hz64:zs (m.length+1) < 64:=by simp only [zs];omega
 have hpl:=padR_len m
 have hl2:=ref_blocks (padR m) (by omega) (padR_mod m)
 unfold q1_Sha.f
 rw [bytes_eq m (by omega),Option.bind_some,if_pos (by omega),zeros_loop q1_Sha.s0 (fun l=>rfl) _ (by simp;omega),hz,Option.bind_some,ref_pad m hb,Option.bind_some]
 unfold q1_k.f
 rw [k1_eq,Option.bind_some]
 unfold iv0 at hl2
 rw [hl2,Option.bind_some,ref_out _ (blocksR_len _ _ _),Option.bind_some]
 rfl
theorem ref_twice_eq (m:List Int)(hb:m.length≤1000000):q1_Twice.f m=some (sha (sha m)):=by
 simp only [q1_Twice.f,ref_sha_eq m hb,Option.bind_some,ref_sha_eq (sha m) (by rw [sha_len];omega)]
def Hs (l:List (List Int)):Prop:=∀ x∈l,x.length=32
theorem Hs.at {l:List (List Int)}(h:Hs l){i:Nat}(hi:i < l.length):(l.getD i []).length=32:=by
 have e:l.getD i []=l[i]:=by simp [List.getD,hi]
 rw [e];exact h _ (List.getElem_mem hi)
theorem concat_eq (l:List (List Int))(hn:l.length≤1000)(hl:∀ x∈l,x.length≤1000):slices_Concat_byte_byte.f l=some l.flatten:=by
 have hpre:∀ i,i≤l.length→((l.take i).flatten.length≤1000 * i):=by
  intro i
  induction i with
  | zero=>intro _;simp
  | succ i ih =>
   intro hi
   have h1:=ih (by omega)
   have h2:(l.getD i []).length≤1000:=by
    have e:l.getD i []=l[i]:=by simp [List.getD,show i < l.length by omega]
    rw [e];exact hl _ (List.getElem_mem _)
   rw [← take_next l i [] (by omega),List.flatten_append,List.length_append]
   simp only [List.flatten_cons,List.flatten_nil,List.append_nil]
   omega
 have hel:∀ i,i < l.length→(l.getD i []).length≤1000:=fun i hi=>by
  have e:l.getD i []=l[i]:=by simp [List.getD,hi]
  rw [e];exact hl _ (List.getElem_mem _)
 have hnext:∀ i,i < l.length→(l.take (i+1)).flatten=(l.take i).flatten++l.getD i []:=fun i hi=>by
  rw [← take_next l i [] hi,List.flatten_append];simp
 have h0:loopO (slices_Concat_byte_byte.s0 l) (0,0)=some ((l.flatten.length:Int)):=by
  refine loop_run (fun i=>(((l.take i).flatten.length:Int),(i:Int))) l.length (by simp) (fun i hi=>?_) ?_
  ·have a:=hpre i (by omega)
   have b:=hel i hi
   simp only [slices_Concat_byte_byte.s0,Int.toNat_natCast]
   rw [if_pos (by omega),if_pos (by omega),w64 (x:=((l.take i).flatten.length:Int)+((l.getD i []).length:Int)) (by omega) (by omega),if_neg (by omega),Option.bind_some,winc i (by omega),hnext i hi,List.length_append]
   push_cast
   rfl
  ·simp only [slices_Concat_byte_byte.s0]
   rw [if_neg (by omega),List.take_length]
 have h1:loopO (slices_Concat_byte_byte.s1 l) ([],0)=some l.flatten:=by
  refine loop_run (fun i=>((l.take i).flatten,(i:Int))) l.length (by simp) (fun i hi=>?_) ?_
  ·have a:=hpre i (by omega)
   have b:=hel i hi
   simp only [slices_Concat_byte_byte.s1,Int.toNat_natCast]
   rw [if_pos (by omega),if_pos (by omega),if_pos (by omega),winc i (by omega),hnext i hi]
  ·simp only [slices_Concat_byte_byte.s1]
   rw [if_neg (by omega),List.take_length]
 have a:=hpre l.length (by omega)
 rw [List.take_length] at a
 simp only [slices_Concat_byte_byte.f,slices_Grow_byte_byte.f,h0,Option.bind_some]
 rw [if_pos (by omega),Option.bind_some,h1,Option.bind_some]
def pr (a b:List Int):List Int:=sha (sha (a++b))
theorem pr_len (a b:List Int):(pr a b).length=32:=sha_len _
theorem pair1_eq (a b:List Int)(ha:a.length=32)(hb:b.length=32):q1_pair.f a b=some (pr a b):=by
 simp only [q1_pair.f]
 rw [bytes_eq _ (by omega),Option.bind_some,if_pos (by omega),ref_twice_eq _ (by simp [ha,hb])]
 rfl
theorem xor1 (a:Nat):a ^^^ 1=if a % 2=0 then a+1 else a - 1:=by
 have h1:(a ^^^ 1) / 2=a / 2:=by rw [Nat.xor_div_two];simp
 have h2:(a ^^^ 1) % 2=(a+1) % 2:=by
  have:=Nat.xor_mod_two_pow (a:=a) (b:=1) (n:=1)
  rw [show 2 ^ 1=2 from rfl] at this
  rw [this]
  have d0:0 ^^^ 1 % 2=1:=by decide
  have d1:1 ^^^ 1 % 2=0:=by decide
  rcases Nat.mod_two_eq_zero_or_one a with e | e <;> rw [e] <;> simp only [d0,d1] <;> omega
 split <;> omega
theorem iMin_nat (a b:Nat):iMin (a:Int) (b:Int)=((min a b:Nat):Int):=by unfold iMin;split <;> omega
def oth (i:Nat)(l:List (List Int)):List Int:=l.getD (min (i ^^^ 1) (l.length - 1)) []
theorem oth_len {i:Nat}{l:List (List Int)}(h:Hs l)(h0:0 < l.length):(oth i l).length=32:=h.at (by omega)
def upG (l:List (List Int))(j:Nat):List Int:=pr (l.getD (2 * j) []) (oth (2 * j) l)
def upL (l:List (List Int)):List (List Int):=(List.range ((l.length+1) / 2)).map (upG l)
theorem upL_len (l:List (List Int)):(upL l).length=(l.length+1) / 2:=by simp [upL]
theorem upL_hs (l:List (List Int)):Hs (upL l):=fun x hx=>by
 simp only [upL,List.mem_map] at hx
 obtain ⟨j,_,rfl⟩:=hx
 exact pr_len _ _
theorem row_eq (l:List (List Int))(h:Hs l)(hl:l.length < 100000):q1_row.f l=some (upL l):=by
 simp only [q1_row.f]
 have e:loopO (q1_row.s0 l) ([],0)=some (upL l):=by
  refine loop_run (fun j=>((List.range j).map (upG l),((2 * j:Nat):Int))) ((l.length+1) / 2) rfl (fun j hj=>?_) ?_
  ·simp only [q1_row.s0,Int.toNat_natCast]
   have e1:IntKind.i64.wrap ((l.length:Int) - 1)=((l.length - 1:Nat):Int):=by rw [w64 (by omega) (by omega)];omega
   have e2:IntKind.i64.wrap (((2 * j:Nat):Int)+1)=((2 * j+1:Nat):Int):=by rw [w64 (by omega) (by omega)];omega
   have e3:oth (2 * j) l=l.getD (min (2 * j+1) (l.length - 1)) []:=by
    unfold oth
    rw [xor1,if_pos (by omega)]
   rw [e1,e2,iMin_nat,if_pos (by omega),if_pos (by omega),if_pos (by omega),Int.toNat_natCast,← e3,pair1_eq _ _ (h.at (by omega)) (oth_len h (by omega)),Option.bind_some,if_pos (by simp;omega),range_map_succ,w64 (by omega) (by omega)]
   congr 3
  ·simp only [q1_row.s0]
   rw [if_neg (by omega)]
   rfl
 rw [e,Option.bind_some]
def topR:Nat→List (List Int)→List (List Int)
 | 0,l=>l
 | f+1,l=>if 1 < l.length then topR f (upL l) else l
theorem top_stop {f:Nat}{l:List (List Int)}(h:l.length≤1):topR f l=l:=by
 cases f with
 | zero=>rfl
 | succ f=>rw [topR,if_neg (by omega)]
def rootL (l:List (List Int)):List Int:=if l.length=0 then List.replicate 32 0 else (topR l.length l).getD 0 []
theorem top_pos:∀ (f:Nat) (l:List (List Int)),0 < l.length→l.length≤f→(topR f l).length=1
 | 0,l,h,h'=>by omega
 | f+1,l,h,h'=>by
  by_cases c:1 < l.length
  ·rw [topR,if_pos c]
   exact top_pos f _ (by rw [upL_len];omega) (by rw [upL_len];omega)
  ·rw [top_stop (by omega)];omega
theorem top_hs:∀ (f:Nat) (l:List (List Int)),Hs l→Hs (topR f l)
 | 0,l,h=>h
 | f+1,l,h=>by
  by_cases c:1 < l.length
  ·rw [topR,if_pos c];exact top_hs f _ (upL_hs l)
  ·rw [topR,if_neg c];exact h
theorem root1_loop:∀ (f:Nat) (l:List (List Int)),Hs l→l.length≤f→l.length < 100000→loopO q1_Root.s0 l=some (topR f l)
 | 0,l,h,hf,hl=>loopO_inr (by simp only [q1_Root.s0];rw [if_neg (by omega)];rfl)
 | f+1,l,h,hf,hl=>by
  by_cases c:1 < l.length
  ·rw [loopO_inl (s':=upL l) (by simp only [q1_Root.s0];rw [if_pos (by omega),row_eq l h hl];rfl),topR,if_pos c]
   exact root1_loop f _ (upL_hs l) (by rw [upL_len];omega) (by rw [upL_len];omega)
  ·rw [loopO_inr (r:=l) (by simp only [q1_Root.s0];rw [if_neg (by omega)]),top_stop (by omega)]
theorem root1_eq (l:List (List Int))(h:Hs l)(hl:l.length < 100000):q1_Root.f l=some (rootL l):=by
 simp only [q1_Root.f,rootL]
 by_cases c:l.length=0
 ·rw [if_pos (by omega),if_pos c];rfl
 ·rw [if_neg (by omega),if_neg c,root1_loop _ l h (Nat.le_refl _) hl,Option.bind_some,if_pos (by rw [top_pos _ _ (by omega) (Nat.le_refl _)];decide)]
  rfl
theorem rootL_len (l:List (List Int))(h:Hs l):(rootL l).length=32:=by
 unfold rootL
 split
 ·simp
 ·exact (top_hs _ _ h).at (by rw [top_pos _ _ (by omega) (Nat.le_refl _)];omega)
theorem u8e (x:Int):IntKind.u8.wrap x=x % 256:=by simp [IntKind.wrap,IntKind.signed,IntKind.bits]
def lb (a m:Nat):List Int:=(List.range m).map fun j=>((a / 2 ^ (8 * j) % 256:Nat):Int)
theorem lb_len (a m:Nat):(lb a m).length=m:=by simp [lb]
theorem sR_div (k:IntKind){a n:Nat}(hn:n≤k.bits):sR k (a:Int) (n:Int)=((a / 2 ^ n:Nat):Int):=by
 rw [sR_nat k hn,Nat.shiftRight_eq_div_pow]
theorem number_eq' (r:List Int)(a k:Nat)(hk:k≤100)(hl:r.length+k≤140737488355328):compact_number.f r (a:Int) (k:Int)=some (r++lb a k):=by
 simp only [compact_number.f]
 have h:loopO (compact_number.s0 (k:Int)) (r,(a:Int),0)=some (r++lb a k,((a / 2 ^ (8 * k):Nat):Int)):=by
  refine loop_run (fun j=>(r++lb a j,((a / 2 ^ (8 * j):Nat):Int),(j:Int))) k (by simp [lb]) (fun j hj=>?_) ?_
  ·simp only [compact_number.s0]
   have e1:IntKind.u8.wrap ((a / 2 ^ (8 * j):Nat):Int)=((a / 2 ^ (8 * j) % 256:Nat):Int):=by rw [u8e];generalize a / 2 ^ (8 * j)=q;omega
   have e2:sR .u64 ((a / 2 ^ (8 * j):Nat):Int) 8=((a / 2 ^ (8 * (j+1)):Nat):Int):=by
    have:=sR_div .u64 (a:=a / 2 ^ (8 * j)) (n:=8) (by decide)
    rw [Nat.div_div_eq_div_mul,← Nat.pow_add] at this
    exact this
   rw [if_pos (by omega),if_pos (by simp [lb_len];omega),e1,e2,winc j (by omega),List.append_assoc]
   have:lb a j++[((a / 2 ^ (8 * j) % 256:Nat):Int)]=lb a (j+1):=by
    unfold lb;rw [range_map_succ]
   rw [this]
  ·simp only [compact_number.s0]
   rw [if_neg (by omega)]
 rw [h,Option.bind_some]
theorem four_eq (b:List Int)(a:Nat)(ha:a < 4294967296)(hl:b.length+4≤140737488355328):compact_Four.f b (a:Int)=some (b++lb a 4):=by
 have:=number_eq' b a 4 (by omega) hl
 simp only [compact_Four.f,bytes_Clone.f]
 rw [wu64 (by omega) (by omega),if_pos (by omega),Option.bind_some]
 rw [show ((4:Nat):Int)=4 from rfl] at this
 rw [this,Option.bind_some]
theorem lb4_inj {a b:Nat}(ha:a < 4294967296)(hb:b < 4294967296):lb a 4=lb b 4 ↔ a=b:=by
 constructor
 ·intro h
  simp [lb,List.range_succ] at h
  omega
 ·rintro rfl;rfl
structure HN where
 v:Nat
 p:List Int
 r:List Int
 t:Nat
 w:Nat
 n:Nat
deriving DecidableEq
structure HN.Ok (h:HN):Prop where
 v:h.v < 4294967296
 p:h.p.length=32
 r:h.r.length=32
 t:h.t < 4294967296
 w:h.w < 4294967296
 n:h.n < 4294967296
def HN.h (h:HN):Head:=⟨h.v,h.p,h.r,h.t,h.w,h.n⟩
theorem hn_of {μ:Store}{x:Head}(h:HeadW μ x):∃ y:HN,x=y.h∧y.Ok:=by
 obtain ⟨a,b,c,d,e,f⟩:=h
 obtain ⟨v,ev,hv⟩:=nat_of (k:=.u32) rfl a
 obtain ⟨t,et,ht⟩:=nat_of (k:=.u32) rfl d
 obtain ⟨w,ew,hw⟩:=nat_of (k:=.u32) rfl e
 obtain ⟨n,en,hn⟩:=nat_of (k:=.u32) rfl f
 refine ⟨⟨v,x.Prev,x.Root,t,w,n⟩,?_,⟨hv,b.1,c.1,ht,hw,hn⟩⟩
 obtain ⟨x1,x2,x3,x4,x5,x6⟩:=x
 simp only at ev et ew en
 subst ev et ew en
 rfl
def hb (h:HN):List Int:=lb h.v 4++(h.p++(h.r++(lb h.t 4++(lb h.w 4++lb h.n 4))))
theorem hb_len {h:HN}(o:h.Ok):(hb h).length=80:=by simp [hb,lb_len,o.p,o.r]
theorem hbytes_eq {h:HN}(o:h.Ok):head_Bytes.f h.h=some (hb h):=by
 simp only [head_Bytes.f,HN.h]
 have hv:=o.v
 have ht:=o.t
 have hw:=o.w
 have hn:=o.n
 rw [four_eq [] h.v hv (by simp),Option.bind_some,concat_eq _ (by simp) (by simp [lb_len,o.p,o.r]),Option.bind_some,four_eq _ h.t ht (by simp [lb_len,o.p,o.r]),Option.bind_some,four_eq _ h.w hw (by simp [lb_len,o.p,o.r]),Option.bind_some,four_eq _ h.n hn (by simp [lb_len,o.p,o.r]),Option.bind_some]
 simp [hb]
theorem hb_inj {a b:HN}(oa:a.Ok)(ob:b.Ok):hb a=hb b ↔ a=b:=by
 constructor
 ·intro h
  unfold hb at h
  obtain ⟨e1,h⟩:=List.append_inj h (by rw [lb_len,lb_len])
  obtain ⟨e2,h⟩:=List.append_inj h (by rw [oa.p,ob.p])
  obtain ⟨e3,h⟩:=List.append_inj h (by rw [oa.r,ob.r])
  obtain ⟨e4,h⟩:=List.append_inj h (by rw [lb_len,lb_len])
  obtain ⟨e5,h⟩:=List.append_inj h (by rw [lb_len,lb_len])
  have f1:=(lb4_inj oa.v ob.v).1 e1
  have f4:=(lb4_inj oa.t ob.t).1 e4
  have f5:=(lb4_inj oa.w ob.w).1 e5
  have f6:=(lb4_inj oa.n ob.n).1 h
  clear e1 e4 e5 h oa ob
  obtain ⟨a1,a2,a3,a4,a5,a6⟩:=a
  obtain ⟨b1,b2,b3,b4,b5,b6⟩:=b
  simp only at f1 e2 e3 f4 f5 f6
  rw [f1,e2,e3,f4,f5,f6]
 ·rintro rfl;rfl
theorem same_eq {a b:HN}(oa:a.Ok)(ob:b.Ok):q0_SameHead.f a.h b.h=some (decide (hb a=hb b)):=by
 have e:decide (hb a=hb b)=decide (a=b):=decide_eq_decide.2 (hb_inj oa ob)
 rw [e]
 simp only [q0_SameHead.f,HN.h]
 rw [samehash_eq _ _ oa.p ob.p,samehash_eq _ _ oa.r ob.r]
 obtain ⟨a1,a2,a3,a4,a5,a6⟩:=a
 obtain ⟨b1,b2,b3,b4,b5,b6⟩:=b
 simp only [Option.bind_some,HN.mk.injEq,decide_eq_true_eq,Int.natCast_inj]
 by_cases c1:a1=b1
 ·by_cases c2:a2=b2
  ·by_cases c3:a3=b3
   ·by_cases c4:a4=b4
    ·by_cases c5:a5=b5
     ·simp [c1,c2,c3,c4,c5]
     ·simp [c1,c2,c3,c4,c5]
    ·simp [c1,c2,c3,c4]
   ·simp [c1,c2,c3]
  ·simp [c1,c2]
 ·simp [c1]
theorem hid_eq {h:HN}(o:h.Ok):head_ID.f h.h=some (sha (sha (hb h))):=by
 simp only [head_ID.f]
 rw [hbytes_eq o,Option.bind_some,twice_eq _ (by rw [hb_len o];decide)]
 rfl
def sl:List Er:=[xErrEnd,xErrShape,xErrLong,xErrMany,xErrValue,xErrTwice,xErrBase,xErrRoot,xErrKnown,xErrParent,xErrInvalid,xErrTime,xErrMissing,xErrKey,xErrYoung,xErrEarly,xErrLess,xErrReward,xErrClash,xErrLimit,xErrFull,xErrRange,xErrNone,xErrWord,xErrNumber]
theorem sl_plain:∀ e∈sl,e≠.b 0∧e.isP=false:=by decide
theorem alike_eq {e f:Er}(he:e≠.b 0)(hf:f≠.b 0)(hp:e.isP=false):q2_Alike.f e f=some (decide (e=f)):=by
 simp only [q2_Alike.f]
 rw [if_neg he,Option.bind_some,if_neg (by simpa using hf),if_pos]
 cases e with
 | pl _ _=>cases hp
 | b n =>
  cases f with
  | pl _ _=>cases n <;> rfl
  | b m =>
   cases n with
   | zero=>exact absurd rfl he
   | succ n=>rfl
theorem gd {α:Type}(l:List α)(d:α){i:Nat}(h:i < l.length):l.getD i d=l[i]:=by simp [List.getD,h]
theorem sl_ne:∀ i,i < 25→∀ j,j < 25→i≠j→sl.getD i (.b 0)≠sl.getD j (.b 0):=by decide +kernel
theorem sentinel_at (k:Nat)(hk:k < 25):q2_sentinel.f (sl.getD k (.b 0))=some (101+(k:Int)):=by
 have hl:sl.length=25:=rfl
 have hmem:∀ i,i < 25→sl.getD i (.b 0)∈sl:=fun i hi=>by
  have e:=gd sl (.b 0) (i:=i) (by omega)
  rw [e];exact List.getElem_mem _
 have h0:q2_sentinels.f=some sl:=rfl
 unfold q2_sentinel.f
 rw [h0,Option.bind_some]
 have hs:∀ i:Nat,i < 25→q2_sentinel.s0 (sl.getD k (.b 0)) sl (i:Int)=if k=i then some (.inr (IntKind.i64.wrap (101+(i:Int)))) else some (.inl (IntKind.i64.wrap ((i:Int)+1))):=fun i hi=>by
  simp only [q2_sentinel.s0]
  rw [if_pos (by omega),if_pos (by omega),Int.toNat_natCast,alike_eq (sl_plain _ (hmem k hk)).1 (sl_plain _ (hmem i hi)).1 (sl_plain _ (hmem k hk)).2,Option.bind_some]
  by_cases h:k=i
  ·subst h;rw [if_pos (by simp),if_pos rfl]
  ·rw [if_neg (by simpa using sl_ne k hk i hi h),if_neg h]
 have key:=loop_idx (step:=q2_sentinel.s0 (sl.getD k (.b 0)) sl) (fun i=>(i:Int)) k (fun i hi=>by rw [hs i (by omega),if_neg (by omega),winc i (by omega)])
 have e0:((0:Nat):Int)=0:=rfl
 simp only [e0] at key
 have h1:=hs k hk
 rw [if_pos rfl] at h1
 rw [key,loopO_inr h1,w64 (by omega) (by omega)]
theorem samefault_bare (a b:Int):q0_SameFault.f ⟨a,false,0,false,0⟩ ⟨b,false,0,false,0⟩=some (decide (a=b)):=by
 simp only [q0_SameFault.f]
 by_cases h:a=b
 ·simp [h]
 ·simp [h]
theorem is_nil (c:Int):q2_Is.f (.b 0) c=some (decide (0=c)):=by
 simp only [q2_Is.f,q2_Same.f,q2_Fault.f,q0_Bare.f,q0_None.f,Option.bind_some,if_true]
 rw [samefault_bare,Option.bind_some];rfl
theorem fault_at (k:Nat)(hk:k < 25):q2_Fault.f (sl.getD k (.b 0))=some ⟨101+(k:Int),false,0,false,0⟩:=by
 have hm:sl.getD k (.b 0)∈sl:=by
  have hl:sl.length=25:=rfl
  have e:=gd sl (.b 0) (i:=k) (by omega)
  rw [e];exact List.getElem_mem _
 obtain ⟨h1,h2⟩:=sl_plain _ hm
 simp only [q2_Fault.f]
 rw [if_neg h1,if_neg (by rw [h2];decide),sentinel_at k hk]
 rfl
theorem is_at (k:Nat)(hk:k < 25)(c:Int):q2_Is.f (sl.getD k (.b 0)) c=some (decide (101+(k:Int)=c)):=by
 simp only [q2_Is.f,q2_Same.f,q0_Bare.f,Option.bind_some]
 rw [fault_at k hk,Option.bind_some,samefault_bare,Option.bind_some,Option.bind_some]
def Bs (l:List Int):Prop:=∀ x∈l,InR .u8 x
theorem Bs.app {l m:List Int}(h:Bs l)(k:Bs m):Bs (l++m):=fun x hx=>(List.mem_append.1 hx).elim (h x) (k x)
theorem Bs.take {l:List Int}(h:Bs l)(n:Nat):Bs (l.take n):=fun x hx=>h x (List.mem_of_mem_take hx)
theorem Bs.drop {l:List Int}(h:Bs l)(n:Nat):Bs (l.drop n):=fun x hx=>h x (List.mem_of_mem_drop hx)
theorem bs_lb (a m:Nat):Bs (lb a m):=fun x hx=>by
 obtain ⟨j,_,rfl⟩:=List.mem_map.1 hx
 simp only [InR]
 omega
theorem bs_nil:Bs []:=fun x hx=>by cases hx
def vl:List Int→Nat
 | []=>0
 | b::l=>b.toNat+256 * vl l
def nx (n:Nat)(s:List Int×Er):List Int×(List Int×Er) :=
 if s.2≠.b 0 then ([],s) else if s.1.length < n then ([],(s.1,xErrEnd)) else (s.1.take n,(s.1.drop n,s.2))
def wh (n:Nat)(s:List Int×Er):Nat×(List Int×Er):=(vl (nx n s).1,(nx n s).2)
def ln (n:Nat):Nat:=if n < 253 then 1 else if n < 65536 then 3 else if n < 4294967296 then 5 else 9
theorem len_eq (n:Nat):compact_Len.f (n:Int)=some (ln n:Int):=by
 simp only [compact_Len.f,ln]
 by_cases h1:n < 253
 ·rw [if_pos (by omega),if_pos h1];rfl
 ·rw [if_neg (by omega),if_neg h1]
  by_cases h2:n < 65536
  ·rw [if_pos (by omega),if_pos h2];rfl
  ·rw [if_neg (by omega),if_neg h2]
   by_cases h3:n < 4294967296
   ·rw [if_pos (by omega),if_pos h3];rfl
   ·rw [if_neg (by omega),if_neg h3];rfl
theorem len1_eq (n:Nat):q1_Len.f (n:Int)=some (ln n:Int):=len_eq n
def my (n:Nat):Nat:=if n=253 then 2 else if n=254 then 4 else if n=255 then 8 else 0
def nm (most:Int)(s:List Int×Er):Nat×(List Int×Er) :=
 let a:=wh 1 s
 let b:=if 0 < my a.1 then wh (my a.1) a.2 else a
 if b.2.2≠.b 0 then (0,b.2) else if ln b.1≠1+my a.1 then (0,(b.2.1,xErrShape)) else if most < (b.1:Int) then (0,(b.2.1,xErrMany)) else b
def h32 (s:List Int×Er):List Int×(List Int×Er):=(if (nx 32 s).1=[] then List.replicate 32 0 else (nx 32 s).1,(nx 32 s).2)
def by_ (n:Int)(s:List Int×Er):List Int×(List Int×Er):=if n≤0 then ([],s) else nx n.toNat s
def pt (n:Nat):List Int:=if n < 253 then lb n 1 else if n < 65536 then 253::lb n 2 else if n < 4294967296 then 254::lb n 4 else 255::lb n 8
theorem pt_len (n:Nat):(pt n).length=ln n:=by
 unfold pt ln
 split
 ·simp [lb_len]
 ·split
  ·simp [lb_len]
  ·split <;> simp [lb_len]
theorem ln_le (n:Nat):1≤ln n∧ln n≤9:=by unfold ln;split <;> (try split) <;> (try split) <;> omega
theorem lb_one (n:Nat):lb n 1=[((n % 256:Nat):Int)]:=by simp [lb,List.range_succ]
abbrev Stp (α:Type):=List Int×Er→α×(List Int×Er)
section
variable {α β:Type}
def ret (x:α):Stp α:=fun s=>(x,s)
def bnd (f:Stp α)(g:α→Stp β):Stp β:=fun s=>g (f s).1 (f s).2
end
structure InOk (i:In):Prop where
 tx:i.From.Tx.length=32
 txb:Bs i.From.Tx
 n:InR .u32 i.From.N
 key:Bs i.Key
 seq:InR .u32 i.Seq
structure OutOk (o:Out):Prop where
 val:InR .u64 o.Value
 lock:o.Lock.length=32
 lockb:Bs o.Lock
structure TxOk (t:Tx):Prop where
 v:InR .u32 t.Version
 ins:∀ i∈t.Ins,InOk i
 outs:∀ o∈t.Outs,OutOk o
 t:InR .u32 t.Time
structure Few (a b:Nat) (t:Tx):Prop where
 ins:t.Ins.length≤a
 outs:t.Outs.length≤a
 key:∀ i∈t.Ins,i.Key.length≤b
theorem Few.mono {a b c d:Nat}{t:Tx}(h:Few a b t)(h1:a≤c)(h2:b≤d):Few c d t:=⟨Nat.le_trans h.ins h1,Nat.le_trans h.outs h1,fun i hi=>Nat.le_trans (h.key i hi) h2⟩
def ib (i:In):List Int:=i.From.Tx++(lb i.From.N.toNat 4++(pt i.Key.length++(i.Key++lb i.Seq.toNat 4)))
def ob (o:Out):List Int:=lb o.Value.toNat 8++o.Lock
def tb (t:Tx):List Int:=lb t.Version.toNat 4++(pt t.Ins.length++((t.Ins.map ib).flatten++(pt t.Outs.length++((t.Outs.map ob).flatten++lb t.Time.toNat 4))))
theorem ib_len {i:In}(h:InOk i):(ib i).length=40+ln i.Key.length+i.Key.length:=by
 simp only [ib,List.length_append,h.tx,lb_len,pt_len];omega
theorem ob_len {o:Out}(h:OutOk o):(ob o).length=40:=by simp only [ob,List.length_append,h.lock,lb_len]
theorem flat_le {α:Type}(f:α→List Int)(b:Nat):∀ (l:List α),(∀ x∈l,(f x).length≤b)→(l.map f).flatten.length≤b * l.length
 | [],_=>by simp
 | x::l,h=>by
  have h1:=flat_le f b l fun y hy=>h y (by simp [hy])
  have h2:=h x (by simp)
  simp only [List.map_cons,List.flatten_cons,List.length_append,List.length_cons]
  rw [Nat.mul_add,Nat.mul_one];omega
theorem ins_le {t:Tx}(h:TxOk t){a:Nat}(hf:Few a 1000 t):(t.Ins.map ib).flatten.length≤2000 * t.Ins.length:=flat_le ib 2000 t.Ins fun i hi=>by
 rw [ib_len (h.ins i hi)]
 have:=(ln_le i.Key.length).2
 have:=hf.key i hi
 omega
theorem outs_le {t:Tx}(h:TxOk t):(t.Outs.map ob).flatten.length≤40 * t.Outs.length:=flat_le ob 40 t.Outs fun o ho=>by rw [ob_len (h.outs o ho)];omega
theorem tb_le {t:Tx}(h:TxOk t)(hf:Few 100 1000 t):(tb t).length≤210000:=by
 have h1:=ins_le h hf
 have h2:=outs_le h
 have h3:=(ln_le t.Ins.length).2
 have h4:=(ln_le t.Outs.length).2
 have h5:=hf.ins
 have h6:=hf.outs
 simp only [tb,List.length_append,lb_len,pt_len]
 omega
theorem nat4 {x:Int}(h:InR .u32 x):x=((x.toNat:Nat):Int)∧x.toNat < 4294967296:=by obtain ⟨a,b⟩:=h;omega
theorem nat8 {x:Int}(h:InR .u64 x):x=((x.toNat:Nat):Int)∧x.toNat < 18446744073709551616:=by obtain ⟨a,b⟩:=h;omega
theorem getD_mem {α:Type}{l:List α}{d:α}{i:Nat}(h:i < l.length):l.getD i d∈l:=by rw [gd l d h];exact List.getElem_mem h
theorem flat_next {α:Type}(f:α→List Int)(l:List α)(d:α)(i:Nat)(h:i < l.length):((l.take (i+1)).map f).flatten=((l.take i).map f).flatten++f (l.getD i d):=by
 rw [← take_next l i d h];simp
theorem take_few {α:Type}(f:α→List Int)(b:Nat)(l:List α)(h:∀ x∈l,(f x).length≤b)(i:Nat)(hi:i≤l.length):((l.take i).map f).flatten.length≤b * l.length:=by
 have:=flat_le f b (l.take i) fun x hx=>h x (List.mem_of_mem_take hx)
 rw [List.length_take,Nat.min_eq_left hi] at this
 exact Nat.le_trans this (Nat.mul_le_mul_left b hi)
noncomputable instance (a b:Nat) (t:Tx):Decidable (Few a b t):=Classical.propDecidable _
def nullP:Point:=⟨List.replicate 32 0,4294967295⟩
def frs (t:Tx):List Point:=t.Ins.map (·.From)
def vs (t:Tx):List Int:=t.Outs.map (·.Value)
def isBase (t:Tx):Prop:=t.Ins.length=1∧(t.Ins.getD 0 default).From=nullP
instance (t:Tx):Decidable (isBase t):=inferInstanceAs (Decidable (_∧_))
noncomputable def bs (t:Tx):Er:=if isBase t then (if (t.Ins.getD 0 default).Key.length < 4 then xErrBase else .b 0) else if ∃ i∈t.Ins,i.From=nullP then xErrBase else .b 0
def mn (t:Tx):Prop:=t.Ins.length=0∨50 < t.Ins.length∨t.Outs.length=0∨50 < t.Outs.length
instance (t:Tx):Decidable (mn t):=inferInstanceAs (Decidable (_∨_))
theorem little_eq' (r:List Int)(a k:Nat)(hk:k≤8)(hl:r.length+k≤140737488355328):q1_little.f r (a:Int) (k:Int)=some (r++lb a k):=by
 simp only [q1_little.f]
 have h:loopO (q1_little.s0 (a:Int) (k:Int)) (r,0)=some (r++lb a k):=by
  refine loop_run (fun j=>(r++lb a j,(j:Int))) k (by simp [lb]) (fun j hj=>?_) ?_
  ·simp only [q1_little.s0]
   have ew:IntKind.u64.wrap (IntKind.i64.wrap (8 * (j:Int)))=((8 * j:Nat):Int):=by rw [w64 (by omega) (by omega),wu64 (by omega) (by omega)];omega
   have e1:IntKind.u8.wrap (sR .u64 (a:Int) ((8 * j:Nat):Int))=((a / 2 ^ (8 * j) % 256:Nat):Int):=by
    rw [sR_div .u64 (n:=8 * j) (by simp only [IntKind.bits];omega),u8e]
    generalize a / 2 ^ (8 * j)=q
    omega
   rw [if_pos (by omega),ew,e1,if_pos (by omega),if_pos (by simp [lb_len];omega),winc j (by omega),List.append_assoc]
   have:lb a j++[((a / 2 ^ (8 * j) % 256:Nat):Int)]=lb a (j+1):=by
    unfold lb;rw [range_map_succ]
   rw [this]
  ·simp only [q1_little.s0]
   rw [if_neg (by omega)]
 rw [h,Option.bind_some]
theorem four1_eq (b:List Int)(a:Nat)(ha:a < 4294967296)(hl:b.length+4≤140737488355328):q1_Four.f b (a:Int)=some (b++lb a 4):=by
 have:=little_eq' b a 4 (by omega) hl
 simp only [q1_Four.f]
 rw [wu64 (by omega) (by omega)]
 rw [show ((4:Nat):Int)=4 from rfl] at this
 rw [this,Option.bind_some]
theorem put1_eq (b:List Int)(n:Nat)(hn:n < 18446744073709551616)(hl:b.length≤1000000):q1_Put.f b (n:Int)=some (b++pt n):=by
 simp only [q1_Put.f]
 rw [len1_eq,Option.bind_some]
 unfold ln pt
 by_cases h1:n < 253
 ·rw [if_pos h1,if_pos h1,if_pos (by rfl),if_pos (by omega),u8e,lb_one]
  congr 3
 ·rw [if_neg h1,if_neg h1]
  by_cases h2:n < 65536
  ·have:=little_eq' (b++[253]) n 2 (by omega) (by simp;omega)
   rw [show ((2:Nat):Int)=2 from rfl] at this
   rw [if_pos h2,if_pos h2,if_neg (by decide),if_pos (by rfl),if_pos (by omega),this,Option.bind_some,List.append_assoc];rfl
  ·rw [if_neg h2,if_neg h2]
   by_cases h3:n < 4294967296
   ·have:=little_eq' (b++[254]) n 4 (by omega) (by simp;omega)
    rw [show ((4:Nat):Int)=4 from rfl] at this
    rw [if_pos h3,if_pos h3,if_neg (by decide),if_neg (by decide),if_pos (by rfl),if_pos (by omega),this,Option.bind_some,List.append_assoc];rfl
   ·have:=little_eq' (b++[255]) n 8 (by omega) (by simp;omega)
    rw [show ((8:Nat):Int)=8 from rfl] at this
    rw [if_neg h3,if_neg h3,if_neg (by decide),if_neg (by decide),if_neg (by decide),if_pos (by omega),this,Option.bind_some,List.append_assoc];rfl
theorem eight1_eq (b:List Int)(a:Nat)(hl:b.length≤1000000):q1_Eight.f b (a:Int)=some (b++lb a 8):=by
 have:=little_eq' b a 8 (by omega) (by omega)
 simp only [q1_Eight.f]
 rw [show ((8:Nat):Int)=8 from rfl] at this
 rw [this,Option.bind_some]
theorem tbytes1_eq {t:Tx}(h:TxOk t)(hf:Few 100 1000 t):q1_TxBytes.f t=some (tb t):=by
 obtain ⟨v1,v2⟩:=nat4 h.v
 obtain ⟨t1,t2⟩:=nat4 h.t
 have hi:=hf.ins
 have ho:=hf.outs
 have hil:∀ i∈t.Ins,(ib i).length≤2000:=fun i hi=>by
  rw [ib_len (h.ins i hi)]
  have:=(ln_le i.Key.length).2
  have:=hf.key i hi
  omega
 have hol:∀ o∈t.Outs,(ob o).length≤40:=fun o ho=>by rw [ob_len (h.outs o ho)];omega
 have lp:=(ln_le t.Ins.length).2
 have lq:=(ln_le t.Outs.length).2
 have L1:∀ P:List Int,P.length≤100→loopO (q1_TxBytes.s0 t) (P,0)=some (P++(t.Ins.map ib).flatten):=fun P hP=>by
  refine loop_run (fun i=>(P++((t.Ins.take i).map ib).flatten,(i:Int))) t.Ins.length (by simp) (fun i hi=>?_) ?_
  ·have hm:=getD_mem (l:=t.Ins) (d:=default) hi
   have ok:=h.ins _ hm
   have hk:=hf.key _ hm
   have hb:=take_few ib 2000 t.Ins hil i (by omega)
   rw [flat_next ib t.Ins default i hi]
   simp only [q1_TxBytes.s0,Int.toNat_natCast]
   generalize t.Ins.getD i default=x at *
   obtain ⟨n1,n2⟩:=nat4 ok.n
   obtain ⟨s1,s2⟩:=nat4 ok.seq
   have ltx:=ok.tx
   have lk:=(ln_le x.Key.length).2
   have hf4:=four1_eq (P++((t.Ins.take i).map ib).flatten++x.From.Tx) x.From.N.toNat n2 (by simp only [List.length_append];omega)
   have hp:=put1_eq (P++((t.Ins.take i).map ib).flatten++x.From.Tx++lb x.From.N.toNat 4) x.Key.length (by omega) (by simp only [List.length_append,lb_len];omega)
   have hf5:=four1_eq (P++((t.Ins.take i).map ib).flatten++x.From.Tx++lb x.From.N.toNat 4++pt x.Key.length++x.Key) x.Seq.toNat s2 (by simp only [List.length_append,lb_len,pt_len];omega)
   rw [← n1] at hf4
   rw [← s1] at hf5
   rw [if_pos (by omega),if_pos (by omega),if_pos (by simp only [List.length_append];omega),hf4,Option.bind_some,wu64 (by omega) (by omega),hp,Option.bind_some,if_pos (by simp only [List.length_append,lb_len,pt_len];omega),hf5,Option.bind_some,winc i (by omega)]
   simp only [ib,List.append_assoc]
  ·simp only [q1_TxBytes.s0]
   rw [if_neg (by omega),List.take_length]
 have L2:∀ P:List Int,P.length≤300000→loopO (q1_TxBytes.s1 t) (P,0)=some (P++(t.Outs.map ob).flatten):=fun P hP=>by
  refine loop_run (fun i=>(P++((t.Outs.take i).map ob).flatten,(i:Int))) t.Outs.length (by simp) (fun i hi=>?_) ?_
  ·have hm:=getD_mem (l:=t.Outs) (d:=default) hi
   have ok:=h.outs _ hm
   have hb:=take_few ob 40 t.Outs hol i (by omega)
   rw [flat_next ob t.Outs default i hi]
   simp only [q1_TxBytes.s1,Int.toNat_natCast]
   generalize t.Outs.getD i default=x at *
   obtain ⟨n1,n2⟩:=nat8 ok.val
   have ltx:=ok.lock
   have h8:=eight1_eq (P++((t.Outs.take i).map ob).flatten) x.Value.toNat (by simp only [List.length_append];omega)
   rw [← n1] at h8
   rw [show Int.toNat 32=32 from rfl,show Int.toNat 0=0 from rfl,List.take_of_length_le (l:=x.Lock) (by omega),List.drop_zero,if_pos (by omega),if_pos (by omega),h8,Option.bind_some,if_pos (by simp only [List.length_append,lb_len];omega),winc i (by omega)]
   simp only [ob,List.append_assoc]
  ·simp only [q1_TxBytes.s1]
   rw [if_neg (by omega),List.take_length]
 have hI:=flat_le ib 2000 t.Ins hil
 have hO:=flat_le ob 40 t.Outs hol
 have f1:=four1_eq [] t.Version.toNat v2 (by simp)
 rw [← v1] at f1
 have p1:=put1_eq (lb t.Version.toNat 4) t.Ins.length (by omega) (by rw [lb_len];omega)
 have p2:=put1_eq (lb t.Version.toNat 4++pt t.Ins.length++(t.Ins.map ib).flatten) t.Outs.length (by omega) (by simp only [List.length_append,lb_len,pt_len];omega)
 have f2:=four1_eq (lb t.Version.toNat 4++pt t.Ins.length++(t.Ins.map ib).flatten++pt t.Outs.length++(t.Outs.map ob).flatten) t.Time.toNat t2 (by simp only [List.length_append,lb_len,pt_len];omega)
 rw [← t1] at f2
 simp only [q1_TxBytes.f]
 rw [f1,Option.bind_some,List.nil_append,wu64 (x:=(t.Ins.length:Int)) (by omega) (by omega),p1,Option.bind_some,L1 _ (by simp only [List.length_append,lb_len,pt_len];omega),Option.bind_some,wu64 (x:=(t.Outs.length:Int)) (by omega) (by omega),p2,Option.bind_some,L2 _ (by simp only [List.length_append,lb_len,pt_len];omega),Option.bind_some,f2,Option.bind_some]
 simp only [tb,List.append_assoc]
theorem nodup_iff (t:Tx):(∀ i,i < t.Ins.length→∀ j,j < i→(t.Ins.getD i default).From≠(t.Ins.getD j default).From) ↔ (frs t).Nodup:=by
 have hl:(frs t).length=t.Ins.length:=by simp [frs]
 have hg:∀ i,i < t.Ins.length→(frs t).getD i default=(t.Ins.getD i default).From:=fun i hi=>by
  rw [gd _ _ (by rw [hl];exact hi),gd _ _ hi]
  simp [frs]
 unfold List.Nodup
 rw [List.pairwise_iff_getElem]
 constructor
 ·intro h i j hi hj hij e
  have h1:=h j (by omega) i hij
  rw [← hg j (by omega),← hg i (by omega),gd _ _ hj,gd _ _ hi] at h1
  exact h1 e.symm
 ·intro h i hi j hj e
  have h1:=h j i (by omega) (by omega) hj
  rw [← gd _ default (by omega),← gd _ default (by omega),hg j (by omega),hg i hi] at h1
  exact h1 e.symm
def idt (t:Tx):List Int:=sha (sha (tb t))
theorem idt_len (t:Tx):(idt t).length=32:=sha_len _
def T1 (h:Nat)(v:Int)(l e:List Int):Tx:=⟨1,[⟨nullP,lb h 4++e,4294967295⟩],[⟨v,l⟩],0⟩
theorem zB:Bs (List.replicate 32 0):=fun x hx=>by
 obtain rfl:x=0:=List.eq_of_mem_replicate hx
 simp [InR]
theorem T1_ok {h:Nat}{v:Int}{l e:List Int}(hv:InR .u64 v)(hl:l.length=32)(lb_:Bs l)(he:Bs e):TxOk (T1 h v l e):=by
 refine ⟨by simp [T1,InR],fun i hi=>?_,fun o ho=>?_,by simp [T1,InR]⟩
 ·obtain rfl:=List.mem_singleton.1 hi
  exact ⟨by simp [nullP],zB,by simp [nullP,InR],(bs_lb _ _).app he,by simp [InR]⟩
 ·obtain rfl:=List.mem_singleton.1 ho
  exact ⟨hv,hl,lb_⟩
theorem T1_few {h:Nat}{v:Int}{l e:List Int}(he:e.length≤90):Few 60 100 (T1 h v l e):=by
 refine ⟨by simp [T1],by simp [T1],fun i hi=>?_⟩
 obtain rfl:=List.mem_singleton.1 hi
 simp only [List.length_append,lb_len];omega
theorem u32_nat (x:Int):IntKind.u32.wrap x=(((IntKind.u32.wrap x).toNat:Nat):Int)∧(IntKind.u32.wrap x).toNat < 4294967296:=nat4 (wrap_in _ _)
theorem first1_eq (x0 x1:Int)(x2 x3:List Int)(h3:x3.length≤90):q1_First.f x0 x1 x2 x3=some (T1 (IntKind.u32.wrap x0).toNat x1 x2 x3):=by
 obtain ⟨e,hl⟩:=u32_nat x0
 have h:=four1_eq [] _ hl (by simp)
 rw [← e] at h
 simp only [q1_First.f]
 rw [h,Option.bind_some,if_pos (by simp [lb_len];omega)]
 simp [q1_Null.f,T1,nullP]
theorem id1_eq {t:Tx}(h:TxOk t)(hf:Few 60 100 t):q1_ID.f t=some (idt t):=by
 have n0:=tb_le h (hf.mono (by omega) (by omega))
 simp only [q1_ID.f]
 rw [tbytes1_eq h (hf.mono (by omega) (by omega)),Option.bind_some,ref_twice_eq _ (by omega),Option.bind_some]
 rfl
structure TsOk (l:List Tx):Prop where
 n:l.length≤1000
 ok:∀ t∈l,TxOk t
 few:∀ t∈l,Few 60 100 t
theorem ids1_eq {l:List Tx}(h:TsOk l):q1_IDs.f l=some (l.map idt):=by
 have hn:=h.n
 simp only [q1_IDs.f]
 rw [show loopO (q1_IDs.s0 l) ([],0)=_ from loop_run (step:=q1_IDs.s0 l) (fun i=>((l.take i).map idt,(i:Int))) l.length (r:=l.map idt) rfl (fun i hi=>by
  have hm:=getD_mem (l:=l) (d:=default) hi
  simp only [q1_IDs.s0,Int.toNat_natCast]
  rw [if_pos (by omega),if_pos (by omega),id1_eq (h.ok _ hm) (h.few _ hm),Option.bind_some,if_pos (by simp;omega),winc i (by omega),← take_next l i default hi]
  simp) (by simp only [q1_IDs.s0];rw [if_neg (by omega),List.take_length])]
 rfl
theorem ids_hs (l:List Tx):Hs (l.map idt):=fun x hx=>by
 obtain ⟨t,_,rfl⟩:=List.mem_map.1 hx
 exact idt_len t
def rt (l:List Tx):List Int:=rootL (l.map idt)
theorem rt_len (l:List Tx):(rt l).length=32:=rootL_len _ (ids_hs l)
def T0:Tx:=T1 0 0 (sha []) []
def H0:HN:=⟨1,List.replicate 32 0,rt [T0],1000,1,0⟩
theorem sha_bs (m:List Int):Bs (sha m):=(sha_arr m).2
theorem T0_ok:TxOk T0:=T1_ok (by simp [InR]) (sha_len _) (sha_bs _) bs_nil
theorem T0_few:Few 60 100 T0:=T1_few (by simp)
theorem Ts0:TsOk [T0]:=⟨by simp,fun t ht=>by obtain rfl:=List.mem_singleton.1 ht;exact T0_ok,fun t ht=>by obtain rfl:=List.mem_singleton.1 ht;exact T0_few⟩
theorem H0_ok:H0.Ok:=⟨by decide,by simp [H0],show (rt [T0]).length=32 from rt_len _,by decide,by decide,by decide⟩
theorem start1_eq:q1_Start.f=some ⟨H0.h,[T0]⟩:=by
 simp only [q1_Start.f,q1_Rooted.f]
 rw [ref_sha_eq _ (by simp),Option.bind_some,first1_eq _ _ _ _ (by simp),Option.bind_some,show T1 (IntKind.u32.wrap 0).toNat 0 (sha []) []=T0 from rfl,ids1_eq Ts0,Option.bind_some,root1_eq _ (ids_hs _) (by simp),Option.bind_some,Option.bind_some]
 rfl
def hid (h:HN):List Int:=sha (sha (hb h))
theorem hid_len (h:HN):(hid h).length=32:=sha_len _
theorem hidp_eq {h:HN}(o:h.Ok):head_ID.f h.h=some (hid h):=hid_eq o
theorem hidr_eq {h:HN}(o:h.Ok):q1_HeadID.f h.h=some (hid h):=by
 have hh:q1_HeadBytes.f h.h=some (hb h):=by
  simp only [q1_HeadBytes.f]
  have hv:=o.v
  have ht:=o.t
  have hw:=o.w
  have hn:=o.n
  rw [show h.h.Version=(h.v:Int) from rfl,show h.h.Prev=h.p from rfl,show h.h.Root=h.r from rfl,show h.h.Time=(h.t:Int) from rfl,show h.h.Work=(h.w:Int) from rfl,show h.h.Nonce=(h.n:Int) from rfl]
  rw [four1_eq [] h.v hv (by simp),Option.bind_some,if_pos (by simp [lb_len,o.p]),if_pos (by simp [lb_len,o.p,o.r]),four1_eq _ h.t ht (by simp [lb_len,o.p,o.r]),Option.bind_some,four1_eq _ h.w hw (by simp [lb_len,o.p,o.r]),Option.bind_some,four1_eq _ h.n hn (by simp [lb_len,o.p,o.r]),Option.bind_some]
  simp [hb]
 simp only [q1_HeadID.f]
 rw [hh,Option.bind_some,ref_twice_eq _ (by rw [hb_len o];omega),Option.bind_some]
 rfl
abbrev TM:=List (List Int×treeNode)
def Tin (m:TM):Prop:=∀ k nd,mget m k=some nd→0≤nd.height∧(0 < nd.height→∃ p,mget m nd.head.Prev=some p∧nd.height=p.height+1)
def Tone (m:TM)(st:List Int):Prop:=∀ k nd,mget m k=some nd→nd.height=0→k=st
def Dn (m:TM):List (List Int)→List Int→List Int→Prop
 | [],a,c=>a=c
 | x::l,a,c=>x=a∧∃ nd p,mget m a=some nd∧mget m nd.head.Prev=some p∧nd.height=p.height+1∧Dn m l nd.head.Prev c
theorem lkn_some {m:TM}{k:List Int}{nd:treeNode}(h:mget m k=some nd):lkn m k=some k:=by simp [lkn,h]
theorem com_step {t:treeTree}{a b:List Int}{x y:treeNode}(hx:mget t.m a=some x)(hy:mget t.m b=some y)(hne:a≠b) :
  tree_Tree_Common.s0 t (some a,some b,b,a)=if y.height≤x.height then some (.inl (lkn t.m x.head.Prev,some b,b,x.head.Prev)) else some (.inl (some a,lkn t.m y.head.Prev,y.head.Prev,a)):=by
 simp [tree_Tree_Common.s0,hne,nget,hx,hy]
def Com (t:treeTree)(a b c:List Int):Prop:=loopO (tree_Tree_Common.s0 t) (some a,some b,b,a)=some (some c,some c,c,c)
theorem com_self {t:treeTree}{a:List Int}:Com t a a a:=by
 refine loopO_inr ?_
 simp [tree_Tree_Common.s0]
theorem com_left {t:treeTree}{a b c:List Int}{x y p:treeNode}(hx:mget t.m a=some x)(hy:mget t.m b=some y)(hne:a≠b)(hh:y.height≤x.height)(hp:mget t.m x.head.Prev=some p)(h:Com t x.head.Prev b c):Com t a b c:=by
 unfold Com
 rw [loopO_inl (by rw [com_step hx hy hne,if_pos hh,lkn_some hp])]
 exact h
theorem com_right {t:treeTree}{a b c:List Int}{x y p:treeNode}(hx:mget t.m a=some x)(hy:mget t.m b=some y)(hne:a≠b)(hh:¬ y.height≤x.height)(hp:mget t.m y.head.Prev=some p)(h:Com t a y.head.Prev c):Com t a b c:=by
 unfold Com
 rw [loopO_inl (by rw [com_step hx hy hne,if_neg hh,lkn_some hp])]
 exact h
theorem dn_le {m:TM}{c:List Int}:∀ (l:List (List Int)) (a:List Int) (x:treeNode),mget m a=some x→Dn m l a c→∀ z∈l,∃ nz,mget m z=some nz∧nz.height≤x.height
 | [],_,_,_,_,z,h=>by cases h
 | y::l,a,x,hx,⟨e,nd,p,hnd,hp,hh,hd⟩,z,h=>by
  subst e
  rw [hx] at hnd;cases hnd
  rcases List.mem_cons.1 h with rfl | h
  ·exact ⟨x,hx,by omega⟩
  ·obtain ⟨nz,h1,h2⟩:=dn_le l _ p hp hd z h
   exact ⟨nz,h1,by omega⟩
theorem dn_not {m:TM}{c:List Int}{l:List (List Int)}{a b:List Int}{x y:treeNode}(hx:mget m a=some x)(hd:Dn m l a c)(hy:mget m b=some y)(hlt:x.height < y.height):b ∉ l:=fun h=>by
 obtain ⟨nz,h1,h2⟩:=dn_le l a x hx hd b h
 rw [hy] at h1;cases h1;omega
theorem com_all {t:treeTree}{st:List Int}(ht:Tin t.m)(h1:Tone t.m st):∀ (n:Nat) (a b:List Int) (x y:treeNode),mget t.m a=some x→mget t.m b=some y→x.height+y.height≤n →
  ∃ c la lb nd,mget t.m c=some nd∧Dn t.m la a c∧Dn t.m lb b c∧Com t a b c∧Com t b a c∧∀ z∈la,z ∉ lb:=by
 intro n
 induction n using Nat.strongRecOn with
 | ind n ih =>
  intro a b x y hx hy hn
  by_cases hab:a=b
  ·subst hab
   exact ⟨a,[],[],x,hx,rfl,rfl,com_self,com_self,by simp⟩
  have hx0:=ht a x hx
  have hy0:=ht b y hy
  rcases Int.lt_trichotomy x.height y.height with hlt | heq | hgt
  ·obtain ⟨p,hp,hph⟩:=hy0.2 (by omega)
   obtain ⟨c,la,lb,nd,hc,d1,d2,c1,c2,ds⟩:=ih (n - 1) (by omega) a y.head.Prev x p hx hp (by omega)
   refine ⟨c,la,b::lb,nd,hc,d1,⟨rfl,y,p,hy,hp,hph,d2⟩,com_right hx hy hab (by omega) hp c1,com_left hy hx (Ne.symm hab) (by omega) hp c2,fun z hz hz'=>?_⟩
   rcases List.mem_cons.1 hz' with rfl | hz'
   ·exact dn_not hx d1 hy hlt hz
   ·exact ds z hz hz'
  ·have hpos:0 < x.height:=by
    rcases Int.lt_or_le 0 x.height with h | h
    ·exact h
    ·exact absurd ((h1 a x hx (by omega)).trans (h1 b y hy (by omega)).symm) hab
   obtain ⟨p,hp,hph⟩:=hx0.2 hpos
   obtain ⟨q,hq,hqh⟩:=hy0.2 (by omega)
   obtain ⟨c,la,lb,nd,hc,d1,d2,c1,c2,ds⟩:=ih (n - 2) (by omega) x.head.Prev y.head.Prev p q hp hq (by omega)
   have n1:x.head.Prev≠b:=fun e=>by rw [e,hy] at hp;cases hp;omega
   have n2:y.head.Prev≠a:=fun e=>by rw [e,hx] at hq;cases hq;omega
   refine ⟨c,a::la,b::lb,nd,hc,⟨rfl,x,p,hx,hp,hph,d1⟩,⟨rfl,y,q,hy,hq,hqh,d2⟩,com_left hx hy hab (by omega) hp (com_right hp hy n1 (by omega) hq c1),com_left hy hx (Ne.symm hab) (by omega) hq (com_right hq hx n2 (by omega) hp c2),fun z hz hz'=>?_⟩
   rcases List.mem_cons.1 hz with rfl | hz
   ·rcases List.mem_cons.1 hz' with rfl | hz'
    ·exact hab rfl
    ·exact dn_not hq d2 hx (by omega) hz'
   ·rcases List.mem_cons.1 hz' with rfl | hz'
    ·exact dn_not hp d1 hy (by omega) hz
    ·exact ds z hz hz'
  ·obtain ⟨p,hp,hph⟩:=hx0.2 (by omega)
   obtain ⟨c,la,lb,nd,hc,d1,d2,c1,c2,ds⟩:=ih (n - 1) (by omega) x.head.Prev b p y hp hy (by omega)
   refine ⟨c,a::la,lb,nd,hc,⟨rfl,x,p,hx,hp,hph,d1⟩,d2,com_left hx hy hab (by omega) hp c1,com_right hy hx (Ne.symm hab) (by omega) hp c2,fun z hz hz'=>?_⟩
   rcases List.mem_cons.1 hz with rfl | hz
   ·exact dn_not hy d2 hx hgt hz'
   ·exact ds z hz hz'
theorem tcommon_eq {t:treeTree}{a b c:List Int}{x y:treeNode}(hx:mget t.m a=some x)(hy:mget t.m b=some y)(h:Com t a b c):tree_Tree_Common.f t a b=some (c,true):=by
 unfold Com at h
 simp [tree_Tree_Common.f,hx,hy,lkn_some hx,lkn_some hy,h]
theorem dn_height {m:TM}{c:List Int}{nc:treeNode}(hc:mget m c=some nc):∀ (l:List (List Int)) (a:List Int) (x:treeNode),mget m a=some x→Dn m l a c→x.height=nc.height+l.length:=by
 intro l
 induction l with
 | nil =>
  rintro a x hx rfl
  rw [hx] at hc;cases hc;simp
 | cons z l ih =>
  rintro a x hx ⟨rfl,nd,p,hnd,hp,hh,hd⟩
  rw [hx] at hnd;cases hnd
  have:=ih _ p hp hd
  simp only [List.length_cons]
  push_cast
  omega
theorem dn_loop {t:treeTree}{c:List Int}{nc:treeNode}(hc:mget t.m c=some nc):∀ (l:List (List Int)) (a:List Int) (x:treeNode) (o:List (List Int)),mget t.m a=some x→Dn t.m l a c→o.length+l.length≤1000000 →
  loopO (tree_Tree_down.s0 t c) (o,a)=some (o++l,c):=by
 intro l
 induction l with
 | nil =>
  rintro a x o hx rfl hl
  refine loopO_inr ?_
  simp [tree_Tree_down.s0]
 | cons z l ih =>
  intro a x o hx hd hl
  have hne:¬ a=c:=fun e=>by
   have:=dn_height hc _ a x hx hd
   rw [e,hc] at hx;cases hx
   simp only [List.length_cons] at this
   push_cast at this
   omega
  obtain ⟨rfl,nd,p,hnd,hp,hh,hd⟩:=hd
  rw [hx] at hnd;cases hnd
  simp only [List.length_cons] at hl
  rw [loopO_inl (s':=(o++[z],x.head.Prev)) (by
   simp only [tree_Tree_down.s0]
   rw [if_pos hne,if_pos (by omega),lkn_some hx]
   simp [nget,hx]),ih _ p (o++[z]) hp hd (by simp;omega)]
  simp
theorem tdown_eq {t:treeTree}{a c:List Int}{x nc:treeNode}{l:List (List Int)}(hx:mget t.m a=some x)(hc:mget t.m c=some nc)(hd:Dn t.m l a c)(hl:l.length≤1000000):tree_Tree_down.f t a c=some l:=by
 simp only [tree_Tree_down.f]
 rw [dn_loop hc l a x [] hx hd (by simpa using hl)]
 simp
theorem treverse_step (x:List (List Int))(hl:x.length≤1000000):∀ (n i:Nat) (y:List (List Int)),y.length=x.length→2 * i+n=x.length →
  (∀ k,k < x.length→y[k]?=if i≤k∧k < x.length - i then x[k]? else x[x.length - 1 - k]?) →
  loopO slices_Reverse_api_Hash_api_Hash.s0 ((i:Int),(x.length:Int) - 1 - i,y)=some x.reverse:=by
 intro n
 induction n using Nat.strongRecOn with
 | ind n ih =>
  intro i y hy hn hk
  by_cases hlt:(i:Int) < (x.length:Int) - 1 - i
  ·have hi:i < x.length:=by omega
   have e1:((x.length:Int) - 1 - i).toNat=x.length - 1 - i:=by omega
   have g1:y.getD (x.length - 1 - i) []=x.getD (x.length - 1 - i) []:=by
    have:=hk (x.length - 1 - i) (by omega)
    rw [if_pos (by omega)] at this
    simp [List.getD,this]
   have g2:y.getD i []=x.getD i []:=by
    have:=hk i (by omega)
    rw [if_pos (by omega)] at this
    simp [List.getD,this]
   rw [loopO_inl (s':=(((i+1:Nat):Int),(x.length:Int) - 1 - ((i+1:Nat):Int),(y.set i (x.getD (x.length - 1 - i) [])).set (x.length - 1 - i) (x.getD i []))) (by
    simp only [slices_Reverse_api_Hash_api_Hash.s0]
    rw [if_pos hlt,if_pos (by omega),if_pos (by omega),e1,Int.toNat_natCast,g1,g2,winc i (by omega),w64 (by omega) (by omega)]
    congr 4
    push_cast
    omega)]
   refine ih (n - 2) (by omega) (i+1) _ (by simp [hy]) (by omega) fun k hkl=>?_
   rw [List.getElem?_set,List.getElem?_set]
   simp only [List.length_set]
   by_cases c1:x.length - 1 - i=k
   ·rw [if_pos c1,if_pos (by omega),if_neg (by omega)]
    have:x.length - 1 - k=i:=by omega
    rw [this]
    simp [List.getD,hi]
   ·rw [if_neg c1]
    by_cases c2:i=k
    ·rw [if_pos c2,if_pos (by omega),if_neg (by omega)]
     subst c2
     have:x.length - 1 - i < x.length:=by omega
     simp [List.getD,this]
    ·rw [if_neg c2,hk k hkl]
     by_cases c3:i≤k∧k < x.length - i
     ·rw [if_pos c3,if_pos (by omega)]
     ·rw [if_neg c3,if_neg (by omega)]
  ·refine loopO_inr ?_
   simp only [slices_Reverse_api_Hash_api_Hash.s0]
   rw [if_neg hlt]
   congr 2
   refine List.ext_getElem? fun k=>?_
   by_cases hkl:k < x.length
   ·rw [hk k hkl,List.getElem?_reverse hkl]
    by_cases c3:i≤k∧k < x.length - i
    ·rw [if_pos c3]
     congr 1
     omega
    ·rw [if_neg c3]
   ·rw [List.getElem?_eq_none (by omega),List.getElem?_eq_none (by simp;omega)]
theorem treverse_eq (x:List (List Int))(hl:x.length≤1000000):slices_Reverse_api_Hash_api_Hash.f x=some x.reverse:=by
 have:=treverse_step x hl x.length 0 x rfl (by omega) (fun k hk=>by rw [if_pos (by omega)])
 simp only [slices_Reverse_api_Hash_api_Hash.f]
 rw [w64 (by omega) (by omega)]
 simpa using this
theorem tpath_eq {t:treeTree}{a b c:List Int}{x y nc:treeNode}{la lb:List (List Int)}(hx:mget t.m a=some x)(hy:mget t.m b=some y)(hc:mget t.m c=some nc)(hda:Dn t.m la a c)(hdb:Dn t.m lb b c)(h:Com t a b c)
  (hla:la.length≤1000000) (hlb:lb.length≤1000000):tree_Tree_Path.f t a b=some (la,lb.reverse,true):=by
 simp only [tree_Tree_Path.f]
 rw [tcommon_eq hx hy h,Option.bind_some,if_pos rfl,tdown_eq hy hc hdb hlb,Option.bind_some,treverse_eq _ hlb,Option.bind_some,tdown_eq hx hc hda hla,Option.bind_some]
theorem thead_eq {t:treeTree}{a:List Int}{x:treeNode}(hx:mget t.m a=some x):tree_Tree_Head.f t a=some (x.head,true):=by
 simp only [tree_Tree_Head.f]
 rw [if_pos (by rw [hx];rfl),lkn_some hx]
 simp [nget,hx]
theorem mput_len_new {m:TM}{k:List Int}{n:treeNode}(h:mget m k=none):(mput m k n).length=m.length+1:=by
 rw [mput_none (mget_ne h)];simp
theorem mput_len_old {m:TM}{k:List Int}{n n':treeNode}(h:mget m k=some n):(mput m k n').length=m.length:=by
 have:=congrArg List.length (mput_map1 (n':=n') h)
 simpa using this
structure TOk (t:treeTree) (N:Nat):Prop where
 tin:Tin t.m
 one:Tone t.m t.start
 len:t.m.length≤N
 bnd:∀ k nd,mget t.m k=some nd→nd.height < N∧nd.up.length≤N
 k32:∀ k nd,mget t.m k=some nd→k.length=32
def tgrow (t:treeTree)(c:Head)(id:List Int)(p:treeNode):treeTree:=⟨mput (mput t.m id ⟨c,p.height+1,IntKind.u64.wrap (p.work+IntKind.u64.wrap c.Work),[]⟩) c.Prev ⟨p.head,p.height,p.work,p.up++[id]⟩,t.start⟩
theorem tgrow_get {t:treeTree}{c:Head}{id:List Int}{p:treeNode}(hid:mget t.m id=none)(hp:mget t.m c.Prev=some p)(x:List Int) :
  mget (tgrow t c id p).m x=if x=c.Prev then some ⟨p.head,p.height,p.work,p.up++[id]⟩ else if x=id then some ⟨c,p.height+1,IntKind.u64.wrap (p.work+IntKind.u64.wrap c.Work),[]⟩ else mget t.m x:=by
 unfold tgrow
 by_cases h1:x=c.Prev
 ·rw [if_pos h1,h1,mget_mput_self]
 ·rw [if_neg h1,mget_mput_ne h1]
  by_cases h2:x=id
  ·rw [if_pos h2,h2,mget_mput_self]
  ·rw [if_neg h2,mget_mput_ne h2]
theorem tgrow_ok {t:treeTree}{c:Head}{id:List Int}{p:treeNode}{N:Nat}(hN:N < 4000)(h:TOk t N)(h32:id.length=32)(hid:mget t.m id=none)(hp:mget t.m c.Prev=some p):TOk (tgrow t c id p) (N+1):=by
 have hg:=tgrow_get hid hp
 have hne:id≠c.Prev:=fun e=>by rw [e,hp] at hid;cases hid
 have hold:∀ x nd,mget t.m x=some nd→∃ nd',mget (tgrow t c id p).m x=some nd'∧nd'.height=nd.height∧nd'.head=nd.head:=fun x nd hx=>by
  rw [hg]
  by_cases h1:x=c.Prev
  ·rw [if_pos h1];rw [h1,hp] at hx;cases hx;exact ⟨_,rfl,rfl,rfl⟩
  ·have h2:x≠id:=fun e=>by rw [e,hid] at hx;cases hx
   rw [if_neg h1,if_neg h2];exact ⟨nd,hx,rfl,rfl⟩
 have hinv:∀ x nd',mget (tgrow t c id p).m x=some nd'→(x=id∧nd'=⟨c,p.height+1,IntKind.u64.wrap (p.work+IntKind.u64.wrap c.Work),[]⟩)∨∃ nd,mget t.m x=some nd∧nd'.height=nd.height∧nd'.head=nd.head∧nd'.up.length≤nd.up.length+1:=fun x nd' hx=>by
  rw [hg] at hx
  by_cases h1:x=c.Prev
  ·rw [if_pos h1] at hx;cases hx;subst h1;exact .inr ⟨p,hp,rfl,rfl,by simp⟩
  ·rw [if_neg h1] at hx
   by_cases h2:x=id
   ·rw [if_pos h2] at hx;cases hx;exact .inl ⟨h2,rfl⟩
   ·rw [if_neg h2] at hx;exact .inr ⟨nd',hx,rfl,rfl,by omega⟩
 have hp0:=(h.tin _ p hp).1
 refine ⟨fun x nd' hx=>?_,fun x nd' hx h0=>?_,?_,fun x nd' hx=>?_,fun x nd' hx=>?_⟩
 ·rcases hinv x nd' hx with ⟨rfl,rfl⟩ | ⟨nd,h1,h2,h3,h4⟩
  ·refine ⟨by simp only;omega,fun _=>?_⟩
   obtain ⟨p',e1,e2,e3⟩:=hold _ p hp
   exact ⟨p',e1,by simp only;omega⟩
  ·obtain ⟨a,b⟩:=h.tin x nd h1
   refine ⟨by omega,fun hpos=>?_⟩
   obtain ⟨q,e1,e2⟩:=b (by omega)
   obtain ⟨q',f1,f2,f3⟩:=hold _ q e1
   exact ⟨q',by rw [h3];exact f1,by omega⟩
 ·rcases hinv x nd' hx with ⟨rfl,rfl⟩ | ⟨nd,h1,h2,h3,h4⟩
  ·simp only at h0;omega
  ·exact h.one x nd h1 (by omega)
 ·have e1:(tgrow t c id p).m.length=t.m.length+1:=by
   unfold tgrow
   rw [mput_len_old (n:=p) (by rw [mget_mput_ne hne.symm];exact hp),mput_len_new hid]
  have:=h.len
  omega
 ·rcases hinv x nd' hx with ⟨rfl,rfl⟩ | ⟨nd,h1,h2,h3,h4⟩
  ·have:=(h.bnd _ p hp).1
   exact ⟨by simp only;push_cast;omega,by simp⟩
  ·have:=h.bnd x nd h1
   exact ⟨by push_cast;omega,by omega⟩
 ·rcases hinv x nd' hx with ⟨rfl,rfl⟩ | ⟨nd,h1,h2,h3,h4⟩
  ·exact h32
  ·exact h.k32 x nd h1
theorem add_known {t:treeTree}{h:HN}(o:h.Ok)(hk:(mget t.m (hid h)).isSome=true):tree_Tree_Add.f t h.h=some (xErrKnown,t):=by
 simp only [tree_Tree_Add.f]
 rw [hidp_eq o,Option.bind_some,if_pos hk]
theorem add_parent {t:treeTree}{h:HN}(o:h.Ok)(hk:mget t.m (hid h)=none)(hp:mget t.m h.p=none):tree_Tree_Add.f t h.h=some (xErrParent,t):=by
 simp only [tree_Tree_Add.f]
 rw [hidp_eq o,Option.bind_some,if_neg (by rw [hk];simp),if_neg (by show ¬ (mget t.m h.p).isSome=true;rw [hp];simp)]
theorem add_new {t:treeTree}{h:HN}{p:treeNode}{N:Nat}(hN:N < 4000)(ht:TOk t N)(o:h.Ok)(hk:mget t.m (hid h)=none)(hp:mget t.m h.p=some p):tree_Tree_Add.f t h.h=some (Er.b 0,tgrow t h.h (hid h) p):=by
 have hl:=ht.len
 have hb:=ht.bnd _ p hp
 have h0:=(ht.tin _ p hp).1
 have hp':mget t.m h.h.Prev=some p:=hp
 simp only [tree_Tree_Add.f]
 rw [hidp_eq o,Option.bind_some,if_neg (by rw [hk];simp),if_pos (by rw [hp'];rfl),if_neg (by omega),lkn_some hp']
 simp only [nget,Option.bind_some,hp']
 rw [if_pos (by rw [hk];rfl),if_pos (by omega),w64 (by omega) (by omega)]
 rfl
def tnew (h:HN):treeTree:=⟨[(hid h,⟨h.h,0,IntKind.u64.wrap h.h.Work,[]⟩)],hid h⟩
theorem tnew_eq {h:HN}(o:h.Ok):tree_New.f h.h=some (tnew h):=by
 simp only [tree_New.f]
 rw [hidp_eq o,Option.bind_some,if_pos (by simp [mget])]
 rfl
theorem tnew_get {h:HN}{k:List Int}{nd:treeNode}(hk:mget (tnew h).m k=some nd):k=hid h∧nd=⟨h.h,0,IntKind.u64.wrap h.h.Work,[]⟩:=by
 simp only [tnew,mget] at hk
 split at hk
 ·rename_i e
  cases hk
  exact ⟨e.symm,rfl⟩
 ·cases hk
theorem tnew_ok (h:HN):TOk (tnew h) 1:=by
 refine ⟨fun k nd hk=>?_,fun k nd hk _=>(tnew_get hk).1,by simp [tnew],fun k nd hk=>?_,fun k nd hk=>by rw [(tnew_get hk).1];exact hid_len h⟩
 ·obtain ⟨_,rfl⟩:=tnew_get hk
  exact ⟨by simp,fun h=>absurd h (by simp)⟩
 ·obtain ⟨_,rfl⟩:=tnew_get hk
  exact ⟨by simp,by simp⟩
theorem TOk.mono {t:treeTree}{N M:Nat}(h:TOk t N)(hl:N≤M):TOk t M:=⟨h.tin,h.one,by have:=h.len;omega,fun k nd hk=>by have:=h.bnd k nd hk;exact ⟨by omega,by omega⟩,h.k32⟩
theorem first11:q11_first.f=some true:=by
 simp only [q11_first.f]
 rw [start1_eq,Option.bind_some,tnew_eq H0_ok,Option.bind_some]
 simp [tree_Tree_Start.f,tree_Tree_Height.f,tree_Tree_Len.f,tnew,mget,nget,lkn]
def Gr (hs:List HN):Prop:=∀ (i:Nat) (h:HN),hs[i]?=some h→0 < i→∃(j:Nat)(g:HN),j < i∧hs[j]?=some g∧h.p=hid g
theorem Gr.snoc {hs:List HN}{h g:HN}{j:Nat}(hg:Gr hs)(hj:hs[j]?=some g)(hp:h.p=hid g):Gr (hs++[h]):=by
 have hjl:j < hs.length:=(List.getElem?_eq_some_iff.1 hj).1
 intro i x hx hi
 rcases Nat.lt_or_ge i hs.length with hlt | hge
 ·rw [List.getElem?_append_left hlt] at hx
  obtain ⟨k,y,h1,h2,h3⟩:=hg i x hx hi
  exact ⟨k,y,h1,by rw [List.getElem?_append_left (by omega)];exact h2,h3⟩
 ·rw [List.getElem?_append_right hge] at hx
  have:i - hs.length=0:=by
   rcases Nat.eq_zero_or_pos (i - hs.length) with h | h
   ·exact h
   ·rw [List.getElem?_eq_none (by simp;omega)] at hx;cases hx
  rw [this] at hx
  simp at hx
  subst hx
  exact ⟨j,g,by omega,by rw [List.getElem?_append_left hjl];exact hj,hp⟩
theorem mk_head (a t w:Int)(p:List Int)(hp:p.length=32):∃ h:HN,h.Ok∧h.p=p∧h.h=⟨IntKind.u32.wrap a,p,List.replicate 32 0,IntKind.u32.wrap t,IntKind.u32.wrap w,0⟩:=by
 obtain ⟨a1,a2⟩:=u32_nat a
 obtain ⟨t1,t2⟩:=u32_nat t
 obtain ⟨w1,w2⟩:=u32_nat w
 refine ⟨⟨(IntKind.u32.wrap a).toNat,p,List.replicate 32 0,(IntKind.u32.wrap t).toNat,(IntKind.u32.wrap w).toNat,0⟩,⟨a2,hp,by simp,t2,w2,by simp⟩,rfl,?_⟩
 simp only [HN.h]
 rw [← a1,← t1,← w1]
 rfl
theorem map_get {hs:List HN}{j:Nat}{g:HN}(h:hs[j]?=some g):(hs.map HN.h).getD j default=g.h:=by
 simp [List.getD,h]
theorem grown_eq (x0:List Int)(hx:∀ x∈x0,InR .i64 x)(hl:x0.length≤60):∃ hs:List HN,q11_grown.f x0=some (hs.map HN.h)∧hs.length=x0.length+1∧(∀ h∈hs,h.Ok)∧hs[0]?=some H0∧Gr hs:=by
 simp only [q11_grown.f]
 rw [start1_eq,Option.bind_some]
 obtain ⟨r,hr,hs,rfl,h1,h2,h3,h4⟩:=loop_exists2 (step:=q11_grown.s0 x0) (fun i s=>s.2=(i:Int)∧∃ hs:List HN,s.1=hs.map HN.h∧hs.length=i+1∧(∀ h∈hs,h.Ok)∧hs[0]?=some H0∧Gr hs)
  (fun r=>∃ hs:List HN,r=hs.map HN.h∧hs.length=x0.length+1∧(∀ h∈hs,h.Ok)∧hs[0]?=some H0∧Gr hs) x0.length (s:=([H0.h],0))
  ⟨rfl,[H0],rfl,rfl,fun h hh=>by obtain rfl:=List.mem_singleton.1 hh;exact H0_ok,rfl,fun i h hi h0=>by
   rw [List.getElem?_eq_none (by simp;omega)] at hi;cases hi⟩
  (fun i hi s ih=>by
   obtain ⟨s1,s2⟩:=s
   obtain ⟨e2,hs,e1,h1,h2,h3,h4⟩:=ih
   simp only at e1 e2
   subst e1 e2
   have hm:=getD_mem (l:=x0) (d:=0) hi
   obtain ⟨y,hy,y0,y1⟩:=number_eq (x:=x0.getD i 0) (n:=((hs.map HN.h).length:Int)) (hx _ hm) (by simp;omega) (by simp;omega)
   obtain ⟨z,hz,z0,z1⟩:=number_eq (x:=IntKind.i64.wrap (Int.tdiv (x0.getD i 0) 64)) (n:=30) (wrap_in _ _) (by omega) (by omega)
   obtain ⟨u,hu,u0,u1⟩:=number_eq (x:=IntKind.i64.wrap (Int.tdiv (x0.getD i 0) 2048)) (n:=4) (wrap_in _ _) (by omega) (by omega)
   have hyl:y.toNat < hs.length:=by simp at y1;omega
   obtain ⟨g,hg⟩:∃ g,hs[y.toNat]?=some g:=⟨_,List.getElem?_eq_getElem hyl⟩
   have go:=h2 g (List.mem_of_getElem? hg)
   obtain ⟨h,ho,hp,hh⟩:=mk_head (i:Int) (g.h.Time+IntKind.u32.wrap z) (IntKind.i64.wrap (1+u)) (hid g) (hid_len g)
   simp only [q11_grown.s0,Int.toNat_natCast]
   rw [if_pos (by omega),if_pos (by omega),hy,Option.bind_some,if_pos ⟨y0,y1⟩,map_get hg,hidr_eq go,Option.bind_some,hz,Option.bind_some,hu,Option.bind_some,if_pos (by simp;omega),winc i (by omega),← hh]
   exact ⟨_,rfl,rfl,hs++[h],by simp,by simp;omega,fun x hx=>by
    rcases List.mem_append.1 hx with hx | hx
    ·exact h2 x hx
    ·obtain rfl:=List.mem_singleton.1 hx;exact ho,by rw [List.getElem?_append_left (by omega)];exact h3,h4.snoc hg hp⟩)
  (fun s ih=>by
   obtain ⟨s1,s2⟩:=s
   obtain ⟨e2,hs,e1,h1⟩:=ih
   simp only at e1 e2
   subst e1 e2
   simp only [q11_grown.s0]
   rw [if_neg (by omega)]
   exact ⟨_,rfl,hs,rfl,h1⟩)
 rw [hr,Option.bind_some]
 exact ⟨hs,rfl,h1,h2,h3,h4⟩
abbrev N8:=sargassoref8Node
def gn (l:List N8)(i:Nat):N8:=l.getD i default
def kidx (l:List N8)(i:Nat):List Nat:=(List.range l.length).filter fun j=>decide ((gn l j).parent=(i:Int))
def kids (l:List N8)(i:Nat):List (List Int):=(kidx l i).map fun j=>(gn l j).id
def ndo (l:List N8)(i:Nat):treeNode:=⟨(gn l i).h,(gn l i).height,(gn l i).work,kids l i⟩
structure TR (t:treeTree) (l:List N8):Prop where
 pos:0 < l.length
 small:l.length≤1000
 inj:∀ i j,i < l.length→j < l.length→(gn l i).id=(gn l j).id→i=j
 st:(gn l 0).id=t.start
 root:(gn l 0).parent=-1∧(gn l 0).height=0
 par:∀ i,0 < i→i < l.length→∃ p,p < i∧(gn l i).parent=(p:Int)∧(gn l i).h.Prev=(gn l p).id∧(gn l i).height=(gn l p).height+1
 hok:∀ i,i < l.length→∃ h:HN,h.Ok∧(gn l i).h=h.h∧(gn l i).id=hid h
 known:∀ i,i < l.length→mget t.m (gn l i).id=some (ndo l i)
 unk:∀ k,(∀ i,i < l.length→(gn l i).id≠k)→mget t.m k=none
 len:t.m.length=l.length
 ok:TOk t l.length
theorem gn_old {l:List N8}{x:N8}{i:Nat}(h:i < l.length):gn (l++[x]) i=gn l i:=by simp [gn,List.getD,List.getElem?_append_left h]
theorem gn_new {l:List N8}{x:N8}:gn (l++[x]) l.length=x:=by simp [gn,List.getD]
theorem TR.id32 {t:treeTree}{l:List N8}(h:TR t l){i:Nat}(hi:i < l.length):(gn l i).id.length=32:=by
 obtain ⟨y,_,_,e⟩:=h.hok i hi
 rw [e];exact hid_len y
theorem kidx_mem {l:List N8}{i j:Nat}:j∈kidx l i ↔ j < l.length∧(gn l j).parent=(i:Int):=by simp [kidx]
theorem kidx_snoc (l:List N8)(x:N8)(i:Nat):kidx (l++[x]) i=kidx l i++(if x.parent=(i:Int) then [l.length] else []):=by
 unfold kidx
 rw [List.length_append,List.length_singleton,List.range_succ,List.filter_append]
 congr 1
 ·apply List.filter_congr
  intro j hj
  rw [gn_old (List.mem_range.1 hj)]
 ·rw [List.filter_cons,gn_new]
  by_cases h:x.parent=(i:Int)
  ·simp [h]
  ·simp [h]
theorem kids_snoc {l:List N8}(x:N8)(i:Nat):kids (l++[x]) i=kids l i++(if x.parent=(i:Int) then [x.id] else []):=by
 unfold kids
 rw [kidx_snoc,List.map_append]
 congr 1
 ·apply List.map_congr_left
  intro j hj
  rw [gn_old (kidx_mem.1 hj).1]
 ·split
  ·simp [gn_new]
  ·rfl
theorem TR.key {t:treeTree}{l:List N8}(h:TR t l)(k:List Int):(∃ i,i < l.length∧(gn l i).id=k)∨(∀ i,i < l.length→(gn l i).id≠k):=by
 by_cases c:∃ i,i < l.length∧(gn l i).id=k
 ·exact .inl c
 ·exact .inr fun i hi e=>c ⟨i,hi,e⟩
theorem find_known {t:treeTree}{l:List N8}(h:TR t l){i:Nat}(hi:i < l.length):sargassoref8_Tree_Find.f ⟨l⟩ (gn l i).id=some (i:Int):=by
 simp only [sargassoref8_Tree_Find.f]
 have hs:=h.small
 refine loop_run (step:=sargassoref8_Tree_Find.s0 ⟨l⟩ (gn l i).id) (fun j=>(j:Int)) i rfl (fun j hj=>?_) ?_
 ·have hj':j < l.length:=by omega
  have hne:(gn l j).id≠(gn l i).id:=fun e=>by have:=h.inj j i hj' hi e;omega
  simp only [sargassoref8_Tree_Find.s0,Int.toNat_natCast]
  rw [if_pos (by omega),if_pos (by omega),show (l.getD j default).id=(gn l j).id from rfl,samehash_eq _ _ (h.id32 hj') (h.id32 hi),decide_eq_false hne,Option.bind_some,if_neg (by decide),winc j (by omega)]
 ·simp only [sargassoref8_Tree_Find.s0,Int.toNat_natCast]
  rw [if_pos (by omega),if_pos (by omega),show (l.getD i default).id=(gn l i).id from rfl,samehash_eq _ _ (h.id32 hi) (h.id32 hi),decide_eq_true rfl,Option.bind_some,if_pos rfl]
theorem find_unk {t:treeTree}{l:List N8}(h:TR t l){k:List Int}(hk:k.length=32)(hn:∀ i,i < l.length→(gn l i).id≠k):sargassoref8_Tree_Find.f ⟨l⟩ k=some (-1):=by
 simp only [sargassoref8_Tree_Find.f]
 have hs:=h.small
 refine loop_run (step:=sargassoref8_Tree_Find.s0 ⟨l⟩ k) (fun j=>(j:Int)) l.length rfl (fun j hj=>?_) ?_
 ·simp only [sargassoref8_Tree_Find.s0,Int.toNat_natCast]
  rw [if_pos (by omega),if_pos (by omega),show (l.getD j default).id=(gn l j).id from rfl,samehash_eq _ _ (h.id32 hj) hk,decide_eq_false (hn j hj),Option.bind_some,if_neg (by decide),winc j (by omega)]
 ·simp only [sargassoref8_Tree_Find.s0]
  rw [if_neg (by omega)]
def n8new (h:HN):List N8:=[⟨hid h,h.h,-1,0,IntKind.u64.wrap h.h.Work,false⟩]
theorem newtree_eq {h:HN}(o:h.Ok):sargassoref8_NewTree.f h.h=some ⟨n8new h⟩:=by
 simp only [sargassoref8_NewTree.f]
 rw [hidr_eq o,Option.bind_some]
 rfl
theorem tr_new {h:HN}(o:h.Ok):TR (tnew h) (n8new h):=by
 have e0:gn (n8new h) 0=⟨hid h,h.h,-1,0,IntKind.u64.wrap h.h.Work,false⟩:=rfl
 have hl:(n8new h).length=1:=rfl
 have hz:∀ i,i < (n8new h).length→i=0:=fun i hi=>by rw [hl] at hi;omega
 refine ⟨by rw [hl];omega,by rw [hl];omega,fun i j hi hj _=>by rw [hz i hi,hz j hj],by rw [e0];rfl,by rw [e0];exact ⟨rfl,rfl⟩,fun i h0 hi=>by have:=hz i hi;omega,fun i hi=>?_,fun i hi=>?_,fun k hk=>?_,rfl,tnew_ok h⟩
 ·rw [hz i hi,e0];exact ⟨h,o,rfl,rfl⟩
 ·rw [hz i hi]
  have hkid:kids (n8new h) 0=[]:=by
   have:kidx (n8new h) 0=[]:=by
    rw [List.eq_nil_iff_forall_not_mem]
    intro j hj
    obtain ⟨h1,h2⟩:=kidx_mem.1 hj
    rw [hz j h1,e0] at h2
    simp at h2
   simp [kids,this]
  unfold ndo
  rw [hkid,e0]
  simp [tnew,mget]
 ·have:=hk 0 (by rw [hl];omega)
  rw [e0] at this
  simp only [tnew,mget]
  rw [if_neg this]
theorem addr_known {t:treeTree}{l:List N8}(h:TR t l){c:HN}(o:c.Ok){i:Nat}(hi:i < l.length)(e:(gn l i).id=hid c):sargassoref8_Tree_Add.f ⟨l⟩ c.h=some (109,⟨l⟩)∧tree_Tree_Add.f t c.h=some (xErrKnown,t):=by
 constructor
 ·simp only [sargassoref8_Tree_Add.f]
  rw [hidr_eq o,Option.bind_some,← e,find_known h hi,Option.bind_some,if_pos (by omega)]
 ·refine add_known o ?_
  rw [← e,h.known i hi];rfl
theorem addr_parent {t:treeTree}{l:List N8}(h:TR t l){c:HN}(o:c.Ok)(hn:∀ i,i < l.length→(gn l i).id≠hid c)(hp:∀ i,i < l.length→(gn l i).id≠c.p):sargassoref8_Tree_Add.f ⟨l⟩ c.h=some (110,⟨l⟩)∧tree_Tree_Add.f t c.h=some (xErrParent,t):=by
 constructor
 ·simp only [sargassoref8_Tree_Add.f]
  rw [hidr_eq o,Option.bind_some,find_unk h (hid_len c) hn,Option.bind_some,if_neg (by omega),show c.h.Prev=c.p from rfl,find_unk h o.p hp,Option.bind_some,if_pos (by omega)]
 ·exact add_parent o (h.unk _ hn) (h.unk _ hp)
theorem addr_new {t:treeTree}{l:List N8}(h:TR t l)(hs:l.length < 1000){c:HN}(o:c.Ok)(hn:∀ i,i < l.length→(gn l i).id≠hid c){p:Nat}(hpl:p < l.length)(hp:(gn l p).id=c.p) :
  ∃ t' l',sargassoref8_Tree_Add.f ⟨l⟩ c.h=some (0,⟨l'⟩)∧tree_Tree_Add.f t c.h=some (Er.b 0,t')∧TR t' l'∧l'.length=l.length+1∧(∀ i,i < l.length→gn l' i=gn l i)∧(gn l' l.length).id=hid c:=by
 have hx:mget t.m (hid c)=none:=h.unk _ hn
 have hpp:mget t.m c.h.Prev=some (ndo l p):=by show mget t.m c.p=_;rw [← hp];exact h.known p hpl
 have hb:=h.ok.bnd _ _ hpp
 have h0:=(h.ok.tin _ _ hpp).1
 have hb1:(gn l p).height < l.length:=hb.1
 have h01:0≤(gn l p).height:=h0
 let x:N8:=⟨hid c,c.h,(p:Int),(gn l p).height+1,IntKind.u64.wrap ((gn l p).work+IntKind.u64.wrap c.h.Work),(gn l p).bad⟩
 refine ⟨tgrow t c.h (hid c) (ndo l p),l++[x],?_,add_new (by omega) h.ok o hx hpp,?_,by simp,fun i hi=>gn_old hi,by rw [gn_new]⟩
 ·simp only [sargassoref8_Tree_Add.f]
  have e1:sargassoref8_Tree_Find.f ⟨l⟩ c.h.Prev=some (p:Int):=by rw [show c.h.Prev=c.p from rfl,← hp];exact find_known h hpl
  rw [hidr_eq o,Option.bind_some,find_unk h (hid_len c) hn,Option.bind_some,if_neg (by omega),e1,Option.bind_some,if_neg (by omega),if_neg (by omega),if_pos (by omega),if_pos (by omega),Int.toNat_natCast,show l.getD p default=gn l p from rfl,w64 (by omega) (by omega)]
 ·have hg:=tgrow_get hx hpp
  have hlen:(l++[x]).length=l.length+1:=by simp
  have hcase:∀ i,i < (l++[x]).length→(i < l.length∧gn (l++[x]) i=gn l i)∨(i=l.length∧gn (l++[x]) i=x):=fun i hi=>by
   rw [hlen] at hi
   rcases Nat.lt_or_ge i l.length with h1 | h1
   ·exact .inl ⟨h1,gn_old h1⟩
   ·have:i=l.length:=by omega
    exact .inr ⟨this,by rw [this,gn_new]⟩
  have hxid:x.id=hid c:=rfl
  refine ⟨by rw [hlen];omega,by rw [hlen];omega,fun i j hi hj e=>?_,by rw [gn_old h.pos];exact h.st,by rw [gn_old h.pos];exact h.root,fun i hi0 hi=>?_,fun i hi=>?_,fun i hi=>?_,fun k hk=>?_,?_,?_⟩
  ·rcases hcase i hi with ⟨a1,a2⟩ | ⟨a1,a2⟩ <;> rcases hcase j hj with ⟨b1,b2⟩ | ⟨b1,b2⟩
   ·rw [a2,b2] at e;exact h.inj i j a1 b1 e
   ·rw [a2,b2,hxid] at e;exact absurd e (hn i a1)
   ·rw [a2,b2,hxid] at e;exact absurd e.symm (hn j b1)
   ·omega
  ·rcases hcase i hi with ⟨a1,a2⟩ | ⟨a1,a2⟩
   ·obtain ⟨q,q1,q2,q3,q4⟩:=h.par i hi0 a1
    rw [a2]
    exact ⟨q,q1,q2,by rw [gn_old (show q < l.length by omega)];exact q3,by rw [gn_old (show q < l.length by omega)];exact q4⟩
   ·rw [a2]
    exact ⟨p,by omega,rfl,by rw [gn_old hpl];exact hp.symm,by rw [gn_old hpl]⟩
  ·rcases hcase i hi with ⟨a1,a2⟩ | ⟨a1,a2⟩
   ·rw [a2];exact h.hok i a1
   ·rw [a2];exact ⟨c,o,rfl,rfl⟩
  ·rcases hcase i hi with ⟨a1,a2⟩ | ⟨a1,a2⟩
   ·rw [a2,hg]
    unfold ndo
    rw [a2,kids_snoc]
    by_cases c1:i=p
    ·subst c1
     rw [if_pos (show (gn l i).id=c.h.Prev from hp),if_pos rfl]
     first | done | rfl
    ·have c2:(gn l i).id≠c.h.Prev:=fun e=>c1 (h.inj i p a1 hpl (e.trans hp.symm))
     rw [if_neg c2,if_neg (hn i a1),h.known i a1,if_neg (show ¬ x.parent=(i:Int) from fun e=>c1 (by have:(p:Int)=(i:Int):=e;omega))]
     simp [ndo]
   ·have e2:kids l l.length=[]:=by
     have:kidx l l.length=[]:=by
      rw [List.eq_nil_iff_forall_not_mem]
      intro j hj
      obtain ⟨h1,h2⟩:=kidx_mem.1 hj
      rcases Nat.eq_zero_or_pos j with e | e
      ·rw [e,h.root.1] at h2;omega
      ·obtain ⟨q,q1,q2,_⟩:=h.par j e h1;rw [q2] at h2;omega
     simp [kids,this]
    rw [a2,hxid,hg,if_neg (fun e:hid c=c.h.Prev=>hn p hpl (hp.trans e.symm)),if_pos rfl]
    unfold ndo
    rw [a2,kids_snoc,a1,e2,if_neg (show ¬ x.parent=((l.length:Nat):Int) from fun e=>by have:(p:Int)=(l.length:Int):=e;omega)]
    rfl
  ·rw [hg,if_neg (fun e=>hk p (by omega) (by rw [gn_old hpl,e];exact hp)),if_neg (fun e=>hk l.length (by omega) (by rw [gn_new,e])),h.unk k (fun i hi=>by rw [← gn_old (x:=x) hi];exact hk i (by omega))]
  ·unfold tgrow
   rw [mput_len_old (n:=ndo l p) (by rw [mget_mput_ne (show c.h.Prev≠hid c from fun e=>hn p hpl (hp.trans e))];exact hpp),mput_len_new hx,hlen,h.len]
  ·rw [hlen];exact tgrow_ok (by omega) h.ok (hid_len c) hx hpp
theorem hashes_eq (xs:List (List Int))(h:xs.length≤100000):q0_Hashes.f xs=some xs:=by
 simp only [q0_Hashes.f]
 rw [if_pos (by omega)]
 have e:loopO (q0_Hashes.s0 xs) ([],0)=some xs:=by
  refine copy_run xs [] (by omega) (fun i hi=>?_) ?_
  ·simp only [q0_Hashes.s0,Int.toNat_natCast,List.length_take]
   rw [if_pos (by omega),if_pos (by omega),if_pos (by omega)]
  ·simp only [q0_Hashes.s0]
   rw [if_neg (by omega)]
 have z:List.replicate (Int.toNat 0) (List.replicate 32 (0:Int))=[]:=rfl
 rw [z,e,Option.bind_some]
theorem samehashes_eq (xs ys:List (List Int))(hx:Hs xs)(hy:Hs ys)(h:xs.length≤100000):q0_SameHashes.f xs ys=some (decide (xs=ys)):=by
 simp only [q0_SameHashes.f]
 by_cases c:xs.length=ys.length
 ·have hs:∀ i,i < xs.length→q0_SameHashes.s0 xs ys (i:Int)=if xs.getD i []=ys.getD i [] then some (.inl (IntKind.i64.wrap ((i:Int)+1))) else some (.inr false):=fun i hi=>by
   simp only [q0_SameHashes.s0,Int.toNat_natCast]
   rw [if_pos (by omega),if_pos (by omega),if_pos (by omega),samehash_eq _ _ (hx.at hi) (hy.at (by omega)),Option.bind_some]
   by_cases d:xs.getD i []=ys.getD i []
   ·rw [if_pos (by simpa using d),if_pos d]
   ·rw [if_neg (by simpa using d),if_neg d]
  rw [if_neg (by omega),all_run xs.length (fun i=>xs.getD i []=ys.getD i []) (by omega) hs (by simp only [q0_SameHashes.s0];rw [if_neg (by omega)])]
  congr 1
  exact decide_eq_decide.2 (ext_iff xs ys [] c)
 ·rw [if_pos (by omega),decide_eq_false (fun e=>c (by rw [e]))]
variable {t:treeTree} {l:List N8}
def zh:Head:=⟨0,List.replicate 32 0,List.replicate 32 0,0,0,0⟩
theorem zh_same:q0_SameHead.f zh zh=some true:=by
 have:=same_eq (a:=⟨0,List.replicate 32 0,List.replicate 32 0,0,0,0⟩) (b:=⟨0,List.replicate 32 0,List.replicate 32 0,0,0,0⟩) ⟨by decide,by simp,by simp,by decide,by decide,by decide⟩ ⟨by decide,by simp,by simp,by decide,by decide,by decide⟩
 rw [decide_eq_true rfl] at this
 exact this
theorem ask_known (h:TR t l){i:Nat}(hi:i < l.length):tree_Tree_Head.f t (gn l i).id=some ((gn l i).h,true)∧tree_Tree_Height.f t (gn l i).id=some ((gn l i).height,true)∧tree_Tree_Work.f t (gn l i).id=some ((gn l i).work,true) ∧
  sargassoref8_Tree_Of.f ⟨l⟩ (gn l i).id=some ((gn l i).h,(gn l i).height,(gn l i).work,true)∧q0_SameHead.f (gn l i).h (gn l i).h=some true:=by
 have hk:=h.known i hi
 obtain ⟨y,yo,e1,e2⟩:=h.hok i hi
 refine ⟨thead_eq hk,?_,?_,?_,?_⟩
 ·simp only [tree_Tree_Height.f]
  rw [if_pos (by rw [hk];rfl),lkn_some hk]
  simp [nget,hk,ndo]
 ·simp only [tree_Tree_Work.f]
  rw [if_pos (by rw [hk];rfl),lkn_some hk]
  simp [nget,hk,ndo]
 ·simp only [sargassoref8_Tree_Of.f]
  rw [find_known h hi,Option.bind_some,if_neg (by omega),if_pos (by omega),Int.toNat_natCast]
  rfl
 ·rw [e1,same_eq yo yo,decide_eq_true rfl]
theorem ask_unk (h:TR t l){k:List Int}(hk:k.length=32)(hn:∀ i,i < l.length→(gn l i).id≠k):tree_Tree_Head.f t k=some (zh,false)∧tree_Tree_Height.f t k=some (0,false)∧tree_Tree_Work.f t k=some (0,false)∧sargassoref8_Tree_Of.f ⟨l⟩ k=some (zh,0,0,false):=by
 have hu:=h.unk k hn
 refine ⟨?_,?_,?_,?_⟩
 ·simp only [tree_Tree_Head.f]
  rw [if_neg (by rw [hu];simp)];rfl
 ·simp only [tree_Tree_Height.f]
  rw [if_neg (by rw [hu];simp)]
 ·simp only [tree_Tree_Work.f]
  rw [if_neg (by rw [hu];simp)]
 ·simp only [sargassoref8_Tree_Of.f]
  rw [find_unk h hk hn,Option.bind_some,if_pos (by omega)];rfl
theorem TR.hpos (h:TR t l){i:Nat}(hi:i < l.length):0≤(gn l i).height:=(h.ok.tin _ _ (h.known i hi)).1
theorem TR.lkn (h:TR t l){i:Nat}(hi:i < l.length):lkn t.m (gn l i).id=some (gn l i).id:=lkn_some (h.known i hi)
theorem anc_in (h:TR t l)(x:Int)(hx:0≤x):∀ (n i:Nat),i≤n→i < l.length→x≤(gn l i).height→∃ j,j < l.length∧loopO (tree_Tree_Ancestor.s0 t x) (some (gn l i).id,(gn l i).id)=some (some (gn l j).id,(gn l j).id)∧loopO (sargassoref8_Tree_Ancestor.s0 ⟨l⟩ x) (i:Int)=some (j:Int):=by
 intro n
 induction n with
 | zero =>
  intro i hin hi hh
  have:i=0:=by omega
  subst this
  have h0:=h.root.2
  refine ⟨0,hi,loopO_inr ?_,loopO_inr ?_⟩
  ·simp only [tree_Tree_Ancestor.s0,nget,Option.bind_some,h.known 0 hi]
   rw [if_neg (show ¬ x < (ndo l 0).height by show ¬ x < (gn l 0).height;omega)]
  ·simp only [sargassoref8_Tree_Ancestor.s0]
   rw [if_pos (by omega),if_pos (by omega),Int.toNat_natCast,show l.getD 0 default=gn l 0 from rfl,decide_eq_false (by omega),Option.bind_some,if_neg (by decide)]
 | succ n ih =>
  intro i hin hi hh
  by_cases e:(gn l i).height=x
  ·refine ⟨i,hi,loopO_inr ?_,loopO_inr ?_⟩
   ·simp only [tree_Tree_Ancestor.s0,nget,Option.bind_some,h.known i hi]
    rw [if_neg (show ¬ x < (ndo l i).height by show ¬ x < (gn l i).height;omega)]
   ·simp only [sargassoref8_Tree_Ancestor.s0]
    rw [if_pos (by omega),if_pos (by omega),Int.toNat_natCast,show l.getD i default=gn l i from rfl,decide_eq_false (by omega),Option.bind_some,if_neg (by decide)]
  ·have hi0:0 < i:=by
    rcases Nat.eq_zero_or_pos i with z | z
    ·subst z;have:=h.root.2;omega
    ·exact z
   obtain ⟨p,p1,p2,p3,p4⟩:=h.par i hi0 hi
   obtain ⟨j,j1,j2,j3⟩:=ih p (by omega) (by omega) (by omega)
   refine ⟨j,j1,?_,?_⟩
   ·rw [loopO_inl (s':=(some (gn l p).id,(gn l p).id)) (by
     simp only [tree_Tree_Ancestor.s0,nget,Option.bind_some,h.known i hi]
     rw [if_pos (show x < (ndo l i).height by show x < (gn l i).height;omega),show (ndo l i).head.Prev=(gn l i).h.Prev from rfl,p3,h.lkn (by omega)])]
    exact j2
   ·rw [loopO_inl (s':=(p:Int)) (by
     simp only [sargassoref8_Tree_Ancestor.s0]
     rw [if_pos (by omega),if_pos (by omega),Int.toNat_natCast,show l.getD i default=gn l i from rfl,decide_eq_true (by omega),Option.bind_some,if_pos rfl,if_pos (by omega),p2])]
    exact j3
theorem anc_out (h:TR t l)(x:Int):∀ (n i:Nat),i≤n→i < l.length→(x < 0∨(gn l i).height < x)→loopO (sargassoref8_Tree_Ancestor.s0 ⟨l⟩ x) (i:Int)=some (-1):=by
 have hend:loopO (sargassoref8_Tree_Ancestor.s0 ⟨l⟩ x) (-1)=some (-1):=loopO_inr (by
  simp only [sargassoref8_Tree_Ancestor.s0]
  rw [if_neg (by omega),Option.bind_some,if_neg (by decide)])
 intro n
 induction n with
 | zero =>
  intro i hin hi hh
  have:i=0:=by omega
  subst this
  have h0:=h.root
  have hp:=h.hpos hi
  rw [loopO_inl (s':=-1) (by
   simp only [sargassoref8_Tree_Ancestor.s0]
   rw [if_pos (by omega),if_pos (by omega),Int.toNat_natCast,show l.getD 0 default=gn l 0 from rfl,decide_eq_true (by omega),Option.bind_some,if_pos rfl,if_pos (by omega),h0.1])]
  exact hend
 | succ n ih =>
  intro i hin hi hh
  rcases Nat.eq_zero_or_pos i with z | z
  ·exact ih i (by omega) hi hh
  ·obtain ⟨p,p1,p2,p3,p4⟩:=h.par i z hi
   have hp:=h.hpos hi
   rw [loopO_inl (s':=(p:Int)) (by
    simp only [sargassoref8_Tree_Ancestor.s0]
    rw [if_pos (by omega),if_pos (by omega),Int.toNat_natCast,show l.getD i default=gn l i from rfl,decide_eq_true (by omega),Option.bind_some,if_pos rfl,if_pos (by omega),p2])]
   exact ih p (by omega) (by omega) (by omega)
def z32:List Int:=[0,0,0,0,0,0,0,0,0,0,0,0,0,0,0,0,0,0,0,0,0,0,0,0,0,0,0,0,0,0,0,0]
theorem anc_both (h:TR t l){k:List Int}(hk:k.length=32)(x:Int):∃ r:List Int×Bool,tree_Tree_Ancestor.f t k x=some r∧sargassoref8_Tree_Ancestor.f ⟨l⟩ k x=some r∧r.1.length=32:=by
 rcases h.key k with ⟨i,hi,rfl⟩ | hn
 ·have hk:=h.known i hi
  have hs:=h.hpos hi
  by_cases c:0≤x∧x≤(gn l i).height
  ·obtain ⟨j,j1,j2,j3⟩:=anc_in h x c.1 i i (Nat.le_refl _) hi c.2
   refine ⟨((gn l j).id,true),?_,?_,h.id32 j1⟩
   ·simp only [tree_Tree_Ancestor.f]
    rw [if_pos (by rw [hk];rfl),if_neg (by omega),h.lkn hi]
    simp only [nget,Option.bind_some,hk]
    rw [decide_eq_false (show ¬ (ndo l i).height < x from by show ¬ (gn l i).height < x;omega),if_neg (by decide),j2,Option.bind_some]
   ·simp only [sargassoref8_Tree_Ancestor.f]
    rw [find_known h hi,Option.bind_some,j3,Option.bind_some,if_neg (by omega),if_pos (by omega),Int.toNat_natCast]
    rfl
  ·refine ⟨(z32,false),?_,?_,rfl⟩
   ·simp only [tree_Tree_Ancestor.f]
    rw [if_pos (by rw [hk];rfl),h.lkn hi]
    by_cases c1:x < 0
    ·rw [if_pos c1,Option.bind_some,if_pos rfl];rfl
    ·rw [if_neg c1]
     simp only [nget,Option.bind_some,hk]
     rw [decide_eq_true (show (ndo l i).height < x from by show (gn l i).height < x;omega),if_pos rfl];rfl
   ·simp only [sargassoref8_Tree_Ancestor.f]
    rw [find_known h hi,Option.bind_some,anc_out h x i i (Nat.le_refl _) hi (by omega),Option.bind_some,if_pos (by omega)];rfl
 ·refine ⟨(z32,false),?_,?_,rfl⟩
  ·simp only [tree_Tree_Ancestor.f]
   rw [if_neg (by rw [h.unk k hn];simp),Option.bind_some,if_pos rfl];rfl
  ·simp only [sargassoref8_Tree_Ancestor.f]
   rw [find_unk h hk hn,Option.bind_some,loopO_inr (r:=-1) (by
    simp only [sargassoref8_Tree_Ancestor.s0]
    rw [if_neg (by omega),Option.bind_some,if_neg (by decide)]),Option.bind_some,if_pos (by omega)];rfl
def Asc (l:List (List Int)):Prop:=l.Pairwise fun a b=>cmpI a b < 0
theorem hle_of {a b:List Int}(h:cmpI a b < 0):hle a b=true:=by
 have:=ci_neg a b
 simp only [hle,Bool.not_eq_true',decide_eq_false_iff_not]
 omega
theorem hle_anti {a b:List Int}(h1:hle a b=true)(h2:hle b a=true):a=b:=by
 simp only [hle,Bool.not_eq_true',decide_eq_false_iff_not] at h1 h2
 have:=ci_neg a b
 exact ci_zero _ _ (by omega)
theorem hle_trans (a b c:List Int)(h1:hle a b=true)(h2:hle b c=true):hle a c=true:=by
 simp only [hle,Bool.not_eq_true',decide_eq_false_iff_not] at *
 intro h3
 have a1:=ci_neg a b
 have a2:=ci_neg b c
 rcases Int.lt_trichotomy (cmpI a b) 0 with c1 | c1 | c1
 ·have:=ci_trans _ _ _ h3 c1;omega
 ·rw [ci_zero _ _ c1] at h3;omega
 ·omega
theorem hle_total (a b:List Int):(hle a b || hle b a)=true:=by
 simp only [hle,Bool.or_eq_true,Bool.not_eq_true',decide_eq_false_iff_not]
 have:=ci_neg a b
 omega
theorem hsort_asc (l:List (List Int)):(hsort l).Pairwise fun a b=>hle a b=true:=List.pairwise_mergeSort hle_trans hle_total l
theorem hsort_eq {l o:List (List Int)}(hp:o.Perm l)(ho:Asc o):o=hsort l :=
 List.Perm.eq_of_pairwise (fun a b _ _ h1 h2=>hle_anti h1 h2) (ho.imp hle_of) (hsort_asc l) (hp.trans (List.mergeSort_perm l hle).symm)
theorem split_at (x:List Int):∀ l:List (List Int),∃ T D,l=T++D∧(∀ a∈T,cmpI a x < 0)∧(∀ d D',D=d::D'→¬ cmpI d x < 0)
 | []=>⟨[],[],rfl,by simp,by simp⟩
 | a::l=>by
  by_cases h:cmpI a x < 0
  ·obtain ⟨T,D,h1,h2,h3⟩:=split_at x l
   exact ⟨a::T,D,by rw [h1];rfl,fun b hb=>by
    rcases List.mem_cons.1 hb with rfl | hb
    ·exact h
    ·exact h2 b hb,h3⟩
  ·exact ⟨[],a::l,rfl,by simp,fun d D' e=>by cases e;exact h⟩
theorem getD_app {α:Type}(T D:List α)(d:α)(i:Nat)(h:i < T.length):(T++D).getD i d=T.getD i d:=by simp [List.getD,List.getElem?_append_left h]
theorem puthash_eq {l:List (List Int)}{x:List Int}(ha:Asc l)(h32:Hs l)(hx:x.length=32)(hl:l.length≤2000)(hn:x ∉ l):∃ r,q0_PutHash.f l x=some r∧Asc r∧r.Perm (x::l):=by
 obtain ⟨T,D,rfl,h1,h2⟩:=split_at x l
 have hTl:T.length+D.length≤2000:=by simpa using hl
 have hloop:loopO (q0_PutHash.s0 (T++D) x) 0=some (T.length:Int):=by
  refine loop_run (step:=q0_PutHash.s0 (T++D) x) (fun i=>(i:Int)) T.length rfl (fun i hi=>?_) ?_
  ·have hm:(T++D).getD i []∈T:=by rw [getD_app T D [] i hi];exact getD_mem hi
   simp only [q0_PutHash.s0,Int.toNat_natCast,List.length_append]
   rw [if_pos (by omega),if_pos (by omega),lesshash_eq _ _ (h32 _ (List.mem_append_left _ hm)) hx,decide_eq_true (h1 _ hm),Option.bind_some,Option.bind_some,if_pos rfl,winc i (by omega)]
  ·simp only [q0_PutHash.s0,Int.toNat_natCast,List.length_append]
   cases D with
   | nil=>rw [if_neg (by simp),Option.bind_some,if_neg (by decide)]
   | cons d D' =>
    have e:(T++d::D').getD T.length []=d:=by simp [List.getD]
    rw [if_pos (by simp only [List.length_cons];omega),if_pos (by simp only [List.length_cons];omega),e,lesshash_eq _ _ (h32 _ (by simp)) hx,decide_eq_false (h2 d D' rfl),Option.bind_some,Option.bind_some,if_neg (by decide)]
 have hpw:=List.pairwise_append.1 ha
 refine ⟨T++[x]++D,?_,?_,?_⟩
 ·simp only [q0_PutHash.f]
  have e1:((T++D).take (T.length:Int).toNat).drop (0:Int).toNat=T:=by simp
  have e2:((T++D).take (((T++D).length:Int)).toNat).drop (T.length:Int).toNat=D:=by rw [Int.toNat_natCast,Int.toNat_natCast,List.take_length,List.drop_left]
  have e3:(if (T.length:Int) < ((T++D).length:Int) then (if 0≤(T.length:Int)∧(T.length:Int) < ((T++D).length:Int) then ((q0_SameHash.f ((T++D).getD (T.length:Int).toNat []) x).bind fun r2=>some r2) else none) else some false)=some false:=by
   cases D with
   | nil=>rw [if_neg (by simp)]
   | cons d D' =>
    have e:(T++d::D').getD T.length []=d:=by simp [List.getD]
    rw [if_pos (by simp only [List.length_append,List.length_cons];omega),if_pos (by simp only [List.length_append,List.length_cons];omega),Int.toNat_natCast,e,samehash_eq _ _ (h32 _ (by simp)) hx,decide_eq_false (fun e=>hn (by simp [e])),Option.bind_some]
  rw [hloop,Option.bind_some,e3,Option.bind_some,if_neg (by decide),if_pos (by simp only [List.length_append];omega),e1,hashes_eq T (by omega),Option.bind_some,if_pos (by omega),Option.bind_some,if_pos (by simp only [List.length_append];omega),e2,if_pos (by simp only [List.length_append,List.length_singleton];omega)]
 ·rw [Asc,List.append_assoc,List.pairwise_append]
  refine ⟨hpw.1,?_,fun a ha' b hb=>?_⟩
  ·rw [List.singleton_append,List.pairwise_cons]
   refine ⟨fun b hb=>?_,hpw.2.1⟩
   cases D with
   | nil=>cases hb
   | cons d D' =>
    have hd:cmpI x d < 0:=by
     have a1:=h2 d D' rfl
     have a2:=ci_neg d x
     rcases Int.lt_trichotomy (cmpI x d) 0 with c | c | c
     ·exact c
     ·exact absurd (by rw [ci_zero _ _ c];simp) hn
     ·omega
    rcases List.mem_cons.1 hb with rfl | hb
    ·exact hd
    ·exact ci_trans _ _ _ hd ((List.pairwise_cons.1 hpw.2.1).1 b hb)
  ·rcases List.mem_append.1 hb with hb | hb
   ·rw [List.mem_singleton.1 hb];exact h1 a ha'
   ·exact hpw.2.2 a ha' b hb
 ·rw [List.append_assoc]
  exact (List.perm_middle (l₁:=T) (a:=x) (l₂:=D))
variable {t:treeTree} {l:List N8}
def ids (l:List N8)(js:List Nat):List (List Int):=js.map fun j=>(gn l j).id
structure BI (l:List N8) (r:Nat) (js:List Nat) (i:Nat):Prop where
 ile:i≤js.length
 nd:js.Nodup
 lt:∀ j∈js,j < l.length∧r≤j
 root:r∈js
 clos:∀ m,m < i→∀ j∈kidx l (js.getD m 0),j∈js
 par:∀ j∈js,j=r∨∃ m,m < i∧(gn l j).parent=(js.getD m 0:Nat)
theorem TR.parlt (h:TR t l){j p:Nat}(hj:j < l.length)(hp:(gn l j).parent=(p:Int)):p < j:=by
 rcases Nat.eq_zero_or_pos j with z | z
 ·subst z;rw [h.root.1] at hp;omega
 ·obtain ⟨q,q1,q2,_⟩:=h.par j z hj
  rw [q2] at hp;omega
theorem kidx_nodup (l:List N8)(i:Nat):(kidx l i).Nodup:=List.Nodup.sublist List.filter_sublist List.nodup_range
theorem BI.len {r i:Nat}{js:List Nat}(h:BI l r js i):js.length≤l.length:=by
 have:=h.nd.length_le_of_subset (l₂:=List.range l.length) fun j hj=>List.mem_range.2 (h.lt j hj).1
 simpa using this
theorem BI.step (ht:TR t l){r i:Nat}{js:List Nat}(h:BI l r js i)(hi:i < js.length):BI l r (js++kidx l (js.getD i 0)) (i+1):=by
 have hm:js.getD i 0∈js:=getD_mem hi
 have hpar:∀ j∈kidx l (js.getD i 0),js.getD i 0 < j:=fun j hj=>ht.parlt (kidx_mem.1 hj).1 (kidx_mem.1 hj).2
 refine ⟨by simp;omega,?_,fun j hj=>?_,List.mem_append_left _ h.root,fun m hmi j hj=>?_,fun j hj=>?_⟩
 ·rw [List.nodup_append]
  refine ⟨h.nd,kidx_nodup _ _,fun a ha b hb e=>?_⟩
  subst e
  have hb2:=(kidx_mem.1 hb).2
  rcases h.par a ha with rfl | ⟨m,hmi,hp⟩
  ·have:=hpar a hb
   have:=(h.lt _ hm).2
   omega
  ·rw [hp] at hb2
   have hml:m < js.length:=by omega
   have e1:js.getD m 0=js.getD i 0:=by omega
   rw [show js.getD m 0=js[m] by simp [List.getD,hml],show js.getD i 0=js[i] by simp [List.getD,hi]] at e1
   have:=(List.getElem_inj h.nd).1 e1
   omega
 ·rcases List.mem_append.1 hj with hj | hj
  ·exact h.lt j hj
  ·have:=hpar j hj
   have:=(h.lt _ hm).2
   exact ⟨(kidx_mem.1 hj).1,by omega⟩
 ·rw [getD_app js _ 0 m (by omega)] at hj
  rcases Nat.lt_or_ge m i with c | c
  ·exact List.mem_append_left _ (h.clos m c j hj)
  ·have:m=i:=by omega
   subst this
   exact List.mem_append_right _ hj
 ·rcases List.mem_append.1 hj with hj | hj
  ·rcases h.par j hj with e | ⟨m,h1,h2⟩
   ·exact .inl e
   ·exact .inr ⟨m,by omega,by rw [getD_app js _ 0 m (by omega)];exact h2⟩
  ·exact .inr ⟨i,by omega,by rw [getD_app js _ 0 i hi];exact (kidx_mem.1 hj).2⟩
theorem bfs (ht:TR t l){r:Nat}:∀ (n i:Nat) (js:List Nat),BI l r js i→l.length - i≤n→∃ js',BI l r js' js'.length∧loopO (tree_Tree_Under.s0 t) (ids l js,(i:Int))=some (ids l js'):=by
 intro n
 induction n with
 | zero =>
  intro i js h hn
  have h1:=h.ile
  have h2:=h.len
  have e:i=js.length:=by omega
  refine ⟨js,e ▸ h,loopO_inr ?_⟩
  simp only [tree_Tree_Under.s0]
  rw [if_neg (by simp [ids];omega)]
 | succ n ih =>
  intro i js h hn
  by_cases c:i < js.length
  ·have hlen:=h.len
   have hs:=ht.small
   have hm:js.getD i 0∈js:=getD_mem c
   have hk:=ht.known _ (h.lt _ hm).1
   have e1:(ids l js).getD i []=(gn l (js.getD i 0)).id:=by simp [ids,List.getD,c]
   have e2:(kidx l (js.getD i 0)).length≤l.length:=by
    have:=(kidx_nodup l (js.getD i 0)).length_le_of_subset (l₂:=List.range l.length) fun j hj=>List.mem_range.2 (kidx_mem.1 hj).1
    simpa using this
   obtain ⟨js',h1,h2⟩:=ih (i+1) _ (h.step ht c) (by omega)
   refine ⟨js',h1,?_⟩
   rw [loopO_inl (s':=(ids l (js++kidx l (js.getD i 0)),((i+1:Nat):Int))) (by
    simp only [tree_Tree_Under.s0,Int.toNat_natCast]
    rw [if_pos (by simp [ids];omega),if_pos (by simp [ids];omega),e1,lkn_some hk]
    simp only [nget,Option.bind_some,hk]
    rw [if_pos (by simp only [ids,ndo,kids,List.length_map];omega),winc i (by omega)]
    simp [ids,ndo,kids])]
   exact h2
  ·have h1:=h.ile
   have e:i=js.length:=by omega
   refine ⟨js,e ▸ h,loopO_inr ?_⟩
   simp only [tree_Tree_Under.s0]
   rw [if_neg (by simp [ids];omega)]
theorem below_eq (ht:TR t l){r:Nat}{js:List Nat}(h:BI l r js js.length):∀ (n i:Nat),i≤n→i < l.length→sargassoref8_Tree_below.f ⟨l⟩ (i:Int) (r:Int)=some (decide (i∈js)):=by
 have hout:loopO (sargassoref8_Tree_below.s0 ⟨l⟩ (r:Int)) (-1)=some false:=loopO_inr (by
  simp only [sargassoref8_Tree_below.s0]
  rw [if_neg (by omega)])
 have hself:loopO (sargassoref8_Tree_below.s0 ⟨l⟩ (r:Int)) (r:Int)=some true:=loopO_inr (by
  simp only [sargassoref8_Tree_below.s0]
  rw [if_pos (by omega),if_pos trivial])
 intro n
 induction n with
 | zero =>
  intro i hin hi
  have:i=0:=by omega
  subst this
  simp only [sargassoref8_Tree_below.f]
  by_cases c:r=0
  ·subst c
   rw [hself,decide_eq_true h.root]
  ·rw [decide_eq_false (fun hm=>c (by have:=(h.lt 0 hm).2;omega)),loopO_inl (s':=-1) (by
    simp only [sargassoref8_Tree_below.s0,Int.toNat_natCast]
    rw [if_pos (by omega),if_neg (by omega),if_pos (by omega),show l.getD 0 default=gn l 0 from rfl,ht.root.1])]
   exact hout
 | succ n ih =>
  intro i hin hi
  rcases Nat.eq_zero_or_pos i with z | z
  ·exact ih i (by omega) hi
  ·simp only [sargassoref8_Tree_below.f]
   by_cases c:i=r
   ·subst c
    rw [hself,decide_eq_true h.root]
   ·obtain ⟨p,p1,p2,p3,p4⟩:=ht.par i z hi
    have e:=ih p (by omega) (by omega)
    simp only [sargassoref8_Tree_below.f] at e
    rw [loopO_inl (s':=(p:Int)) (by
     simp only [sargassoref8_Tree_below.s0,Int.toNat_natCast]
     rw [if_pos (by omega),if_neg (by omega),if_pos (by omega),show l.getD i default=gn l i from rfl,p2]),e]
    congr 1
    refine decide_eq_decide.2 ⟨fun hp=>?_,fun hm=>?_⟩
    ·obtain ⟨m,hm,e⟩:=List.mem_iff_getElem.1 hp
     refine h.clos m hm i (kidx_mem.2 ⟨hi,?_⟩)
     rw [show js.getD m 0=js[m] by simp [List.getD,hm],e];exact p2
    ·rcases h.par i hm with e | ⟨m,h1,h2⟩
     ·exact absurd e c
     ·rw [p2] at h2
      have:p=js.getD m 0:=by omega
      rw [this];exact getD_mem h1
theorem under_ref (ht:TR t l){r:Nat}{js:List Nat}(hr:r < l.length)(h:BI l r js js.length):sargassoref8_Tree_Under.f ⟨l⟩ (gn l r).id=some (hsort (ids l js)):=by
 have hs:=ht.small
 simp only [sargassoref8_Tree_Under.f]
 rw [find_known ht hr,Option.bind_some]
 obtain ⟨o,h1,h2,h3⟩:=loop_exists2 (step:=sargassoref8_Tree_Under.s0 ⟨l⟩ (r:Int)) (fun i s=>s.2=(i:Int)∧Asc s.1∧s.1.Perm (ids l ((List.range i).filter fun j=>decide (j∈js))))
  (fun o=>Asc o∧o.Perm (ids l ((List.range l.length).filter fun j=>decide (j∈js)))) l.length (s:=([],0)) ⟨rfl,List.Pairwise.nil,by simp [ids]⟩
  (fun i hi s ih=>by
   obtain ⟨s1,s2⟩:=s
   obtain ⟨e1,ha,hp⟩:=ih
   simp only at e1 ha hp
   subst e1
   have hbel:=below_eq ht h i i (Nat.le_refl _) hi
   have hmem:∀ x∈s1,∃ j,j < i∧j∈js∧(gn l j).id=x:=fun x hx=>by
    obtain ⟨j,hj,e⟩:=List.mem_map.1 (hp.mem_iff.1 hx)
    rw [List.mem_filter,List.mem_range] at hj
    exact ⟨j,hj.1,of_decide_eq_true hj.2,e⟩
   have hlen:s1.length≤i:=by
    rw [hp.length_eq]
    simp only [ids,List.length_map]
    exact Nat.le_trans (List.length_filter_le _ _) (by simp)
   simp only [sargassoref8_Tree_Under.s0,Int.toNat_natCast]
   rw [if_pos (by omega),decide_eq_true (by omega),Option.bind_some,if_pos rfl,hbel,Option.bind_some]
   by_cases c:i∈js
   ·rw [decide_eq_true c,if_pos rfl,if_pos (by omega),show l.getD i default=gn l i from rfl]
    obtain ⟨r',e1,e2,e3⟩:=puthash_eq (l:=s1) (x:=(gn l i).id) ha (fun x hx=>by
     obtain ⟨j,h1,h2,rfl⟩:=hmem x hx
     exact ht.id32 (by omega)) (ht.id32 hi) (by omega) (fun hx=>by
     obtain ⟨j,h1,h2,e⟩:=hmem _ hx
     have:=ht.inj j i (by omega) hi e
     omega)
    rw [e1,Option.bind_some,Option.bind_some,winc i (by omega)]
    refine ⟨_,rfl,rfl,e2,?_⟩
    rw [List.range_succ,List.filter_append]
    simp only [List.filter_cons,List.filter_nil,decide_eq_true c,if_true]
    refine e3.trans ?_
    simp only [ids,List.map_append,List.map_cons,List.map_nil]
    refine ((hp.cons (gn l i).id).trans ?_)
    exact (List.perm_append_singleton _ _).symm
   ·rw [decide_eq_false c,if_neg (by decide),Option.bind_some,winc i (by omega)]
    refine ⟨_,rfl,rfl,ha,?_⟩
    rw [List.range_succ,List.filter_append]
    simpa [c] using hp)
  (fun s ih=>by
   obtain ⟨s1,s2⟩:=s
   obtain ⟨e1,ha,hp⟩:=ih
   simp only at e1 ha hp
   subst e1
   simp only [sargassoref8_Tree_Under.s0]
   rw [if_neg (by omega),Option.bind_some,if_neg (by decide)]
   exact ⟨_,rfl,ha,hp⟩)
 rw [h1,Option.bind_some]
 congr 1
 refine hsort_eq (h3.trans ?_) h2
 refine List.Perm.map _ ?_
 rw [List.perm_ext_iff_of_nodup (List.Nodup.sublist List.filter_sublist List.nodup_range) h.nd]
 intro a
 rw [List.mem_filter,List.mem_range,decide_eq_true_eq]
 exact ⟨fun h=>h.2,fun hm=>⟨(h.lt a hm).1,hm⟩⟩
theorem under_both (ht:TR t l){k:List Int}(hk:k.length=32):∃ r,tree_Tree_Under.f t k=some r∧sargassoref8_Tree_Under.f ⟨l⟩ k=some r∧Hs r∧r.length≤1000:=by
 have hs:=ht.small
 rcases ht.key k with ⟨i,hi,rfl⟩ | hn
 ·have h0:BI l i [i] 0:=⟨by omega,by simp,fun j hj=>by rw [List.mem_singleton.1 hj];exact ⟨hi,Nat.le_refl _⟩,by simp,fun m hm=>by omega,fun j hj=>.inl (List.mem_singleton.1 hj)⟩
  obtain ⟨js,h1,h2⟩:=bfs ht l.length 0 [i] h0 (by omega)
  have hjl:=h1.len
  refine ⟨hsort (ids l js),?_,under_ref ht hi h1,fun x hx=>?_,?_⟩
  ·simp only [tree_Tree_Under.f]
   rw [if_pos (by rw [ht.known i hi];rfl),show ([(gn l i).id]:List (List Int))=ids l [i] from rfl,show (0:Int)=((0:Nat):Int) from rfl,h2,Option.bind_some]
   simp only [slices_SortFunc_api_Hash_api_Hash_at_digest_Compare.f]
   rw [if_pos (by simp [ids];omega),Option.bind_some]
  ·have:=(List.mergeSort_perm (ids l js) hle).mem_iff.1 hx
   obtain ⟨j,hj,rfl⟩:=List.mem_map.1 this
   exact ht.id32 (h1.lt j hj).1
  ·show ((ids l js).mergeSort hle).length≤1000
   rw [List.length_mergeSort]
   simp [ids];omega
 ·refine ⟨[],?_,?_,fun x hx=>(by cases hx),by simp⟩
  ·simp only [tree_Tree_Under.f]
   rw [if_neg (by rw [ht.unk k hn];simp)]
  ·simp only [sargassoref8_Tree_Under.f]
   have hp:=ht.pos
   rw [find_unk ht hk hn,Option.bind_some,loopO_inr (r:=([]:List (List Int))) (by
    simp only [sargassoref8_Tree_Under.s0]
    rw [if_pos (by omega),decide_eq_false (by omega),Option.bind_some,if_neg (by decide)]),Option.bind_some]
variable {t:treeTree} {l:List N8}
def idl (l:List N8)(js:List Nat):List (List Int):=js.map fun j=>(gn l j).id
def il (js:List Nat):List Int:=js.map fun (j:Nat)=>(j:Int)
def Upl (l:List N8):List Nat→Nat→Prop
 | [],_=>False
 | [x],i=>x=i∧i=0
 | x::y::r,i=>x=i∧0 < i∧(gn l i).parent=(y:Int)∧y < i∧Upl l (y::r) y
theorem upl_cons {U:List Nat}{i p:Nat}(hi:0 < i)(hp:(gn l i).parent=(p:Int))(hlt:p < i)(h:Upl l U p):Upl l (i::U) i:=by
 cases U with
 | nil=>exact h.elim
 | cons x U =>
  have:x=p:=by
   cases U with
   | nil=>exact h.1
   | cons y U=>exact h.1
  subst this
  exact ⟨rfl,hi,hp,hlt,h⟩
theorem upl_ex (h:TR t l):∀ (n i:Nat),i≤n→i < l.length→∃ U,Upl l U i:=by
 intro n
 induction n with
 | zero=>intro i hin hi;exact ⟨[i],rfl,by omega⟩
 | succ n ih =>
  intro i hin hi
  rcases Nat.eq_zero_or_pos i with z | z
  ·exact ⟨[i],rfl,z⟩
  ·obtain ⟨p,p1,p2,_⟩:=h.par i z hi
   obtain ⟨U,hU⟩:=ih p (by omega) (by omega)
   exact ⟨i::U,upl_cons z p2 p1 hU⟩
theorem upl_lt:∀ (U:List Nat) (i:Nat),Upl l U i→(∀ a∈U,a≤i)∧U.length≤i+1∧∃ r,U=i::r
 | [],_,h=>h.elim
 | [x],i,h=>by
  obtain ⟨rfl,rfl⟩:=h
  exact ⟨by simp,by simp,[],rfl⟩
 | x::y::r,i,h=>by
  obtain ⟨rfl,h1,h2,h3,h4⟩:=h
  obtain ⟨a,b,_⟩:=upl_lt (y::r) y h4
  refine ⟨fun z hz=>?_,by simp only [List.length_cons] at *;omega,_,rfl⟩
  rcases List.mem_cons.1 hz with rfl | hz
  ·exact Nat.le_refl _
  ·have:=a z hz;omega
theorem tup_loop (h:TR t l):∀ (U:List Nat) (i:Nat) (o:List Int),Upl l U i→i < l.length→o.length+U.length≤100000→loopO (sargassoref8_Tree_up.s0 ⟨l⟩) ((i:Int),o)=some (-1,o++il U)
 | [],_,_,h,_,_=>h.elim
 | [x],i,o,hu,hi,hl=>by
  obtain ⟨rfl,rfl⟩:=hu
  rw [loopO_inl (s':=(-1,o++il [0])) (by
   simp only [sargassoref8_Tree_up.s0,Int.toNat_natCast]
   simp only [List.length_cons,List.length_nil] at hl
   rw [if_pos (by omega),if_pos (by omega),if_pos (by omega),show l.getD 0 default=gn l 0 from rfl,h.root.1]
   rfl)]
  refine loopO_inr ?_
  simp only [sargassoref8_Tree_up.s0]
  rw [if_neg (by omega)]
 | x::y::r,i,o,hu,hi,hl=>by
  obtain ⟨rfl,h1,h2,h3,h4⟩:=hu
  simp only [List.length_cons] at hl
  rw [loopO_inl (s':=((y:Int),o++il [x])) (by
   simp only [sargassoref8_Tree_up.s0,Int.toNat_natCast]
   rw [if_pos (by omega),if_pos (by omega),if_pos (by omega),show l.getD x default=gn l x from rfl,h2]
   rfl),tup_loop h (y::r) y _ h4 (by omega) (by simp [il];omega)]
  simp [il]
theorem tup_eq (h:TR t l){U:List Nat}{i:Nat}(hu:Upl l U i)(hi:i < l.length):sargassoref8_Tree_up.f ⟨l⟩ (i:Int)=some (il U):=by
 have hs:=h.small
 have:=(upl_lt U i hu).2.1
 simp only [sargassoref8_Tree_up.f]
 rw [tup_loop h U i [] hu hi (by simp;omega),Option.bind_some]
 simp
theorem dn_upl (h:TR t l){k:Nat}(hk:k < l.length){U:List Nat}(hU:Upl l U k):∀ (la:List (List Int)) (i:Nat),i < l.length→Dn t.m la (gn l i).id (gn l k).id→∃ A,Upl l (A++U) i∧idl l A=la∧∀ a∈A,a < l.length
 | [],i,hi,hd=>by
  have:i=k:=h.inj i k hi hk hd
  subst this
  exact ⟨[],hU,rfl,by simp⟩
 | x::la,i,hi,hd=>by
  obtain ⟨rfl,nd,p',hnd,hp',hh,hd⟩:=hd
  rw [h.known i hi] at hnd
  cases hnd
  have hi0:0 < i:=by
   rcases Nat.eq_zero_or_pos i with z | z
   ·subst z
    have h1:=h.root.2
    have h2:=(h.ok.tin _ _ hp').1
    have h3:(gn l 0).height=p'.height+1:=hh
    omega
   ·exact z
  obtain ⟨p,p1,p2,p3,p4⟩:=h.par i hi0 hi
  have hd':Dn t.m la (gn l p).id (gn l k).id:=by rw [← p3];exact hd
  obtain ⟨A,a1,a2,a3⟩:=dn_upl h hk hU la p (by omega) hd'
  refine ⟨i::A,upl_cons hi0 p2 p1 a1,by rw [← a2];rfl,fun a ha=>?_⟩
  rcases List.mem_cons.1 ha with rfl | ha
  ·exact hi
  ·exact a3 a ha
theorem il_len (U:List Nat):(il U).length=U.length:=by simp [il]
theorem il_get (U:List Nat)(i:Nat)(h:i < U.length):(il U).getD i 0=((U.getD i 0:Nat):Int):=by simp [il,List.getD,h]
theorem app_l (A S:List Nat)(i:Nat)(h:i < A.length):(A++S).getD i 0=A.getD i 0:=by simp [List.getD,List.getElem?_append_left h]
theorem app_r (A S:List Nat)(i:Nat):(A++S).getD (A.length+i) 0=S.getD i 0:=by
 simp only [List.getD]
 rw [List.getElem?_append_right (by omega)]
 congr 2
 omega
theorem both_loop (A B S:List Nat)(hA:A.length+B.length+S.length≤10000)(hne:∀ a b,A.getLast?=some a→B.getLast?=some b→a≠b):loopO (sargassoref8_Tree_Path.s0 (il (A++S)) (il (B++S))) 0=some (S.length:Int):=by
 refine loop_run (step:=sargassoref8_Tree_Path.s0 (il (A++S)) (il (B++S))) (fun i=>(i:Int)) S.length rfl (fun i hi=>?_) ?_
 ·have e1:(((A++S).length:Int) - 1 - i).toNat=A.length+(S.length - 1 - i):=by simp only [List.length_append];omega
  have e2:(((B++S).length:Int) - 1 - i).toNat=B.length+(S.length - 1 - i):=by simp only [List.length_append];omega
  simp only [sargassoref8_Tree_Path.s0,il_len]
  rw [if_pos (by simp only [List.length_append];omega),if_pos (by simp only [List.length_append];omega),w64 (x:=((A++S).length:Int) - 1) (by simp only [List.length_append];omega) (by simp only [List.length_append];omega),w64 (x:=((A++S).length:Int) - 1 - i) (by simp only [List.length_append];omega) (by simp only [List.length_append];omega),
   w64 (x:=((B++S).length:Int) - 1) (by simp only [List.length_append];omega) (by simp only [List.length_append];omega),w64 (x:=((B++S).length:Int) - 1 - i) (by simp only [List.length_append];omega) (by simp only [List.length_append];omega),
   if_pos (by simp only [List.length_append];omega),if_pos (by simp only [List.length_append];omega),e1,e2,il_get _ _ (by simp only [List.length_append];omega),il_get _ _ (by simp only [List.length_append];omega),app_r,app_r,decide_eq_true rfl,Option.bind_some,if_pos rfl,winc i (by omega)]
 ·simp only [sargassoref8_Tree_Path.s0,il_len]
  by_cases ca:A=[]
  ·subst ca
   rw [if_neg (by simp),Option.bind_some,if_neg (by decide)]
  by_cases cb:B=[]
  ·subst cb
   rw [if_neg (show ¬ (S.length:Int) < ((([]:List Nat)++S).length:Int) by simp)]
   simp
  have pa:0 < A.length:=List.length_pos_iff.2 ca
  have pb:0 < B.length:=List.length_pos_iff.2 cb
  have e1:(((A++S).length:Int) - 1 - S.length).toNat=A.length - 1:=by simp only [List.length_append];omega
  have e2:(((B++S).length:Int) - 1 - S.length).toNat=B.length - 1:=by simp only [List.length_append];omega
  have g1:A.getLast?=some (A.getD (A.length - 1) 0):=by
   rw [List.getLast?_eq_getElem?]
   simp [List.getD,show A.length - 1 < A.length by omega]
  have g2:B.getLast?=some (B.getD (B.length - 1) 0):=by
   rw [List.getLast?_eq_getElem?]
   simp [List.getD,show B.length - 1 < B.length by omega]
  have hn:=hne _ _ g1 g2
  rw [if_pos (by simp only [List.length_append];omega),if_pos (by simp only [List.length_append];omega),w64 (x:=((A++S).length:Int) - 1) (by simp only [List.length_append];omega) (by simp only [List.length_append];omega),w64 (x:=((A++S).length:Int) - 1 - S.length) (by simp only [List.length_append];omega) (by simp only [List.length_append];omega),
   w64 (x:=((B++S).length:Int) - 1) (by simp only [List.length_append];omega) (by simp only [List.length_append];omega),w64 (x:=((B++S).length:Int) - 1 - S.length) (by simp only [List.length_append];omega) (by simp only [List.length_append];omega),
   if_pos (by simp only [List.length_append];omega),if_pos (by simp only [List.length_append];omega),e1,e2,il_get _ _ (by simp only [List.length_append];omega),il_get _ _ (by simp only [List.length_append];omega),app_l _ _ _ (by omega),app_l _ _ _ (by omega),decide_eq_false (by omega),Option.bind_some,if_neg (by decide)]
theorem idl_take (l:List N8)(A:List Nat)(i:Nat)(h:i < A.length):idl l (A.take i)++[(gn l (A.getD i 0)).id]=idl l (A.take (i+1)):=by
 rw [← take_next A i 0 h]
 simp [idl]
theorem path_ref (h:TR t l){i j k:Nat}(hi:i < l.length)(hj:j < l.length)(hk:k < l.length){A B S:List Nat}(hA:Upl l (A++S) i)(hB:Upl l (B++S) j)(hS:Upl l S k)(ha:∀ a∈A,a < l.length)(hb:∀ b∈B,b < l.length)
  (hne:∀ a b,A.getLast?=some a→B.getLast?=some b→a≠b):sargassoref8_Tree_Path.f ⟨l⟩ (gn l i).id (gn l j).id=some (idl l A,idl l B.reverse,(gn l k).id,true):=by
 have hs:=h.small
 have l1:=(upl_lt _ _ hA).2.1
 have l2:=(upl_lt _ _ hB).2.1
 obtain ⟨_,l3,r,hr⟩:=upl_lt _ _ hS
 have hSpos:0 < S.length:=by rw [hr];simp
 simp only [List.length_append] at l1 l2
 have eb:=both_loop A B S (by omega) hne
 have e1:IntKind.i64.wrap (((il (A++S)).length:Int) - (S.length:Int))=(A.length:Int):=by rw [il_len,w64 (by simp only [List.length_append];omega) (by simp only [List.length_append];omega)];simp only [List.length_append];omega
 have e2:IntKind.i64.wrap (((il (B++S)).length:Int) - (S.length:Int))=(B.length:Int):=by rw [il_len,w64 (by simp only [List.length_append];omega) (by simp only [List.length_append];omega)];simp only [List.length_append];omega
 have back:loopO (sargassoref8_Tree_Path.s1 ⟨l⟩ (il (A++S)) (S.length:Int)) ([],0)=some (idl l A):=by
  refine loop_run (step:=sargassoref8_Tree_Path.s1 ⟨l⟩ (il (A++S)) (S.length:Int)) (fun n=>(idl l (A.take n),(n:Int))) A.length (by simp [idl]) (fun n hn=>?_) ?_
  ·have hm:=ha _ (getD_mem (d:=0) hn)
   simp only [sargassoref8_Tree_Path.s1,Int.toNat_natCast]
   rw [e1,if_pos (by omega),if_pos (by rw [il_len];simp only [List.length_append];omega),il_get _ _ (by simp only [List.length_append];omega),app_l _ _ _ hn,if_pos (by omega),Int.toNat_natCast,if_pos (by simp [idl];omega),winc n (by omega),← idl_take l A n hn]
   rfl
  ·simp only [sargassoref8_Tree_Path.s1]
   rw [e1,if_neg (by omega),List.take_length]
 have on:loopO (sargassoref8_Tree_Path.s2 ⟨l⟩ (il (B++S))) ([],IntKind.i64.wrap ((B.length:Int) - 1))=some (idl l B.reverse):=by
  rw [w64 (by omega) (by omega)]
  have hlr:B.reverse.length=B.length:=by simp
  refine loop_run (step:=sargassoref8_Tree_Path.s2 ⟨l⟩ (il (B++S))) (fun n=>(idl l (B.reverse.take n),(B.length:Int) - 1 - n)) B.length (by simp [idl]) (fun n hn=>?_) ?_
  ·have e3:((B.length:Int) - 1 - n).toNat=B.length - 1 - n:=by omega
   have e4:B.getD (B.length - 1 - n) 0=B.reverse.getD n 0:=by
    simp only [List.getD]
    rw [List.getElem?_reverse hn]
   have hm:=hb _ (getD_mem (l:=B) (i:=B.length - 1 - n) (d:=0) (by omega))
   simp only [sargassoref8_Tree_Path.s2]
   rw [if_pos (by omega),if_pos (by rw [il_len];simp only [List.length_append];omega),e3,il_get _ _ (by simp only [List.length_append];omega),app_l _ _ _ (by omega),if_pos (by omega),Int.toNat_natCast,if_pos (by simp [idl];omega),w64 (by omega) (by omega),e4,← idl_take l B.reverse n (by omega),show (B.length:Int) - 1 - n - 1=(B.length:Int) - 1 - ((n+1:Nat):Int) by push_cast;omega]
   rfl
  ·simp only [sargassoref8_Tree_Path.s2]
   rw [if_neg (by omega),← hlr,List.take_length]
 simp only [sargassoref8_Tree_Path.f]
 rw [find_known h hi,Option.bind_some,find_known h hj,Option.bind_some,if_neg (by omega),decide_eq_false (by omega),Option.bind_some,if_neg (by decide),tup_eq h hA hi,Option.bind_some,tup_eq h hB hj,Option.bind_some,eb,Option.bind_some,back,Option.bind_some,e2,on,Option.bind_some,e1,if_pos (by rw [il_len];simp only [List.length_append];omega),Int.toNat_natCast,il_get _ _ (by simp only [List.length_append];omega)]
 have e5:(A++S).getD A.length 0=k:=by
  have:=app_r A S 0
  rw [Nat.add_zero] at this
  rw [this,hr];rfl
 rw [e5,if_pos (by omega),Int.toNat_natCast]
 rfl
theorem path_both (h:TR t l){a b:List Int}(ha:a.length=32)(hb:b.length=32):∃(u v:List (List Int))(c:List Int)(ok:Bool),tree_Tree_Path.f t a b=some (u,v,ok)∧tree_Tree_Common.f t a b=some (c,ok)∧sargassoref8_Tree_Path.f ⟨l⟩ a b=some (u,v,c,ok)∧Hs u∧Hs v∧u.length≤1000∧v.length≤1000∧c.length=32:=by
 have hs:=h.small
 have miss:∀ a b:List Int,(mget t.m a=none∨mget t.m b=none)→tree_Tree_Path.f t a b=some ([],[],false)∧tree_Tree_Common.f t a b=some (z32,false):=fun a b hn=>by
  have e:tree_Tree_Common.f t a b=some (z32,false):=by
   simp only [tree_Tree_Common.f]
   rcases hn with hn | hn
   ·rw [if_neg (by rw [hn];simp),Option.bind_some,if_pos rfl];rfl
   ·by_cases c:(mget t.m a).isSome=true
    ·rw [if_pos c,hn];rfl
    ·rw [if_neg c,Option.bind_some,if_pos rfl];rfl
  refine ⟨?_,e⟩
  simp only [tree_Tree_Path.f]
  rw [e,Option.bind_some,if_neg (by decide)]
 rcases h.key a with ⟨i,hi,rfl⟩ | hna
 ·rcases h.key b with ⟨j,hj,rfl⟩ | hnb
  ·have hna:=h.known i hi
   have hnb:=h.known j hj
   have p1:=(h.ok.tin _ _ hna).1
   have p2:=(h.ok.tin _ _ hnb).1
   obtain ⟨cc,la,lb,nc,hc,d1,d2,c1,c2,ds⟩:=com_all h.ok.tin h.ok.one ((ndo l i).height+(ndo l j).height).toNat _ _ _ _ hna hnb (by omega)
   obtain ⟨k,hk,rfl⟩:∃ k,k < l.length∧(gn l k).id=cc:=by
    rcases h.key cc with h' | h'
    ·exact h'
    ·rw [h.unk cc h'] at hc;cases hc
   obtain ⟨S,hS⟩:=upl_ex h k k (Nat.le_refl _) hk
   obtain ⟨A,a1,a2,a3⟩:=dn_upl h hk hS la i hi d1
   obtain ⟨B,b1,b2,b3⟩:=dn_upl h hk hS lb j hj d2
   have l1:=(upl_lt _ _ a1).2.1
   have l2:=(upl_lt _ _ b1).2.1
   simp only [List.length_append] at l1 l2
   have la1:la.length=A.length:=by rw [← a2];simp [idl]
   have lb1:lb.length=B.length:=by rw [← b2];simp [idl]
   have hA:Hs la:=fun x hx=>by
    rw [← a2] at hx
    obtain ⟨y,hy,rfl⟩:=List.mem_map.1 hx
    exact h.id32 (a3 y hy)
   have hB:Hs lb:=fun x hx=>by
    rw [← b2] at hx
    obtain ⟨y,hy,rfl⟩:=List.mem_map.1 hx
    exact h.id32 (b3 y hy)
   refine ⟨la,lb.reverse,_,true,tpath_eq hna hnb hc d1 d2 c1 (by omega) (by omega),tcommon_eq hna hnb c1,?_,hA,fun x hx=>hB x (List.mem_reverse.1 hx),by omega,by rw [List.length_reverse];omega,h.id32 hk⟩
   have:=path_ref h hi hj hk a1 b1 hS a3 b3 (fun x y hx hy e=>by
    subst e
    have m1:x∈A:=List.mem_of_getLast? hx
    have m2:x∈B:=List.mem_of_getLast? hy
    exact ds (gn l x).id (by rw [← a2];exact List.mem_map.2 ⟨x,m1,rfl⟩) (by rw [← b2];exact List.mem_map.2 ⟨x,m2,rfl⟩))
   rw [this,a2]
   congr 2
   rw [← b2]
   simp [idl]
  ·obtain ⟨m1,m2⟩:=miss (gn l i).id b (.inr (h.unk b hnb))
   refine ⟨[],[],z32,false,m1,m2,?_,fun x hx=>(by cases hx),fun x hx=>(by cases hx),by simp,by simp,rfl⟩
   simp only [sargassoref8_Tree_Path.f]
   rw [find_known h hi,Option.bind_some,find_unk h hb hnb,Option.bind_some,if_neg (by omega),decide_eq_true (by omega),Option.bind_some,if_pos rfl];rfl
 ·obtain ⟨m1,m2⟩:=miss a b (.inl (h.unk a hna))
  refine ⟨[],[],z32,false,m1,m2,?_,fun x hx=>(by cases hx),fun x hx=>(by cases hx),by simp,by simp,rfl⟩
  simp only [sargassoref8_Tree_Path.f]
  rw [find_unk h ha hna,Option.bind_some]
  rcases h.key b with ⟨j,hj,rfl⟩ | hnb
  ·rw [find_known h hj,Option.bind_some,if_pos (by omega),Option.bind_some,if_pos rfl];rfl
  ·rw [find_unk h hb hnb,Option.bind_some,if_pos (by omega),Option.bind_some,if_pos rfl];rfl
theorem is_known (c:Int):q2_Is.f xErrKnown c=some (decide (109=c)):=is_at 8 (by decide) c
theorem is_parent (c:Int):q2_Is.f xErrParent c=some (decide (110=c)):=is_at 9 (by decide) c
def Has (l:List N8)(k:List Int):Prop:=∃ i,i < l.length∧(gn l i).id=k
theorem add_any {t:treeTree}{l:List N8}(h:TR t l)(hs:l.length < 1000){c:HN}(o:c.Ok):∃(e:Er)(t':treeTree)(cc:Int)(l':List N8),tree_Tree_Add.f t c.h=some (e,t')∧sargassoref8_Tree_Add.f ⟨l⟩ c.h=some (cc,⟨l'⟩)∧q2_Is.f e cc=some true∧TR t' l'∧l'.length≤l.length+1∧(∀ k,Has l k→Has l' k)∧(Has l c.p→Has l' (hid c)):=by
 rcases h.key (hid c) with ⟨i,hi,e⟩ | hn
 ·obtain ⟨a1,a2⟩:=addr_known h o hi e
  exact ⟨_,_,_,_,a2,a1,by rw [is_known,decide_eq_true rfl],h,by omega,fun k hk=>hk,fun _=>⟨i,hi,e⟩⟩
 ·rcases h.key c.p with ⟨p,hp,e⟩ | hp
  ·obtain ⟨t',l',a1,a2,a3,a4,a5,a6⟩:=addr_new h hs o hn hp e
   exact ⟨_,_,_,_,a2,a1,by rw [is_nil,decide_eq_true rfl],a3,by omega,fun k ⟨i,hi,e⟩=>⟨i,by omega,by rw [a5 i hi];exact e⟩,fun _=>⟨l.length,by omega,a6⟩⟩
  ·obtain ⟨a1,a2⟩:=addr_parent h o hn hp
   exact ⟨_,_,_,_,a2,a1,by rw [is_parent,decide_eq_true rfl],h,by omega,fun k hk=>hk,fun ⟨i,hi,e⟩=>absurd e (hp i hi)⟩
theorem ask_both {t:treeTree}{l:List N8}(h:TR t l){k:List Int}(hk:k.length=32):∃(hd:Head)(ht wk:Int)(ok:Bool),tree_Tree_Head.f t k=some (hd,ok)∧tree_Tree_Height.f t k=some (ht,ok)∧tree_Tree_Work.f t k=some (wk,ok)∧sargassoref8_Tree_Of.f ⟨l⟩ k=some (hd,ht,wk,ok)∧q0_SameHead.f hd hd=some true:=by
 rcases h.key k with ⟨i,hi,rfl⟩ | hn
 ·obtain ⟨a,b,c,d,e⟩:=ask_known h hi
  exact ⟨_,_,_,_,a,b,c,d,e⟩
 ·obtain ⟨a,b,c,d⟩:=ask_unk h hk hn
  exact ⟨_,_,_,_,a,b,c,d,zh_same⟩
theorem plays_ways {t1:TM}{t2:List Int}{l:List N8}(h:TR ⟨t1,t2⟩ l){a b:List Int}(ha:a.length=32)(hb:b.length=32)(i:Nat)(hi:i < 3):loopO (q11_TreePlays.s2 l t1 t2 a b (i:Int)) 0=some (.inl ((i+1:Nat):Int)):=by
 have hL:∀ j,j < 3→(([a,b,[7,0,0,0,0,0,0,0,0,0,0,0,0,0,0,0,0,0,0,0,0,0,0,0,0,0,0,0,0,0,0,0]]:List (List Int)).getD j []).length=32:=fun j hj=>by
  match j,hj with
  | 0,_=>exact ha
  | 1,_=>exact hb
  | 2,_=>rfl
 refine loop_run (step:=q11_TreePlays.s2 l t1 t2 a b (i:Int)) (fun j=>(j:Int)) 3 rfl (fun j hj=>?_) ?_
 ·obtain ⟨u,v,c,ok,p1,p2,p3,p4,p5,p6,p7,p8⟩:=path_both h (hL i hi) (hL j hj)
  have e1:((([a,b,[7,0,0,0,0,0,0,0,0,0,0,0,0,0,0,0,0,0,0,0,0,0,0,0,0,0,0,0,0,0,0,0]]:List (List Int)).length:Nat):Int)=3:=rfl
  simp only [q11_TreePlays.s2,Int.toNat_natCast]
  rw [if_pos (by omega),if_pos (by rw [e1];omega),if_pos (by rw [e1];omega),p1,Option.bind_some,p3,Option.bind_some,Option.bind_some,p2,Option.bind_some,Option.bind_some]
  simp only
  rw [if_neg (fun h=>h rfl),if_neg (fun h=>h rfl),samehash_eq _ _ p8 p8,decide_eq_true rfl,Option.bind_some,if_pos rfl,samehashes_eq _ _ p4 p4 (by omega),decide_eq_true rfl,Option.bind_some,if_pos rfl,samehashes_eq _ _ p5 p5 (by omega),decide_eq_true rfl,Option.bind_some,Option.bind_some,if_neg (by decide),winc j (by omega)]
 ·simp only [q11_TreePlays.s2]
  rw [if_neg (by omega),winc i (by omega)]
theorem plays_all {t1:TM}{t2:List Int}{l:List N8}(h:TR ⟨t1,t2⟩ l){a b:List Int}(ha:a.length=32)(hb:b.length=32)(x:Int):loopO (q11_TreePlays.s1 x true l t1 t2 a b) 0=some (.inr true):=by
 have hL:∀ j,j < 3→(([a,b,[7,0,0,0,0,0,0,0,0,0,0,0,0,0,0,0,0,0,0,0,0,0,0,0,0,0,0,0,0,0,0,0]]:List (List Int)).getD j []).length=32:=fun j hj=>by
  match j,hj with
  | 0,_=>exact ha
  | 1,_=>exact hb
  | 2,_=>rfl
 have e1:((([a,b,[7,0,0,0,0,0,0,0,0,0,0,0,0,0,0,0,0,0,0,0,0,0,0,0,0,0,0,0,0,0,0,0]]:List (List Int)).length:Nat):Int)=3:=rfl
 refine loop_run (step:=q11_TreePlays.s1 x true l t1 t2 a b) (fun j=>(j:Int)) 3 rfl (fun j hj=>?_) ?_
 ·obtain ⟨hd,ht,wk,ok,q1,q2,q3,q4,q5⟩:=ask_both h (hL j hj)
  obtain ⟨r,r1,r2,r3⟩:=anc_both h (hL j hj) x
  obtain ⟨u,u1,u2,u3,u4⟩:=under_both h (hL j hj)
  have ew:=plays_ways h ha hb j hj
  simp only [q11_TreePlays.s1,Int.toNat_natCast]
  rw [if_pos (by omega),if_pos (by rw [e1];omega),q1,Option.bind_some,q4,Option.bind_some,q2,Option.bind_some,q3,Option.bind_some]
  simp only
  rw [if_neg (fun h=>h rfl),if_neg (fun h=>h rfl),if_neg (fun h=>h rfl),q5,Option.bind_some,if_pos rfl,if_neg (fun h=>h rfl),decide_eq_false (fun h=>h rfl),Option.bind_some,if_neg (by decide),r1,Option.bind_some,r2,Option.bind_some,if_neg (fun h=>h rfl),samehash_eq _ _ r3 r3,decide_eq_true rfl,Option.bind_some,if_pos rfl,u1,Option.bind_some,u2,Option.bind_some,samehashes_eq _ _ u3 u3 (by omega),decide_eq_true rfl,Option.bind_some,Option.bind_some,if_neg (by decide),ew]
 ·simp only [q11_TreePlays.s1]
  have hp:=h.pos
  have hst:(gn l 0).id=t2:=h.st
  have h32:t2.length=32:=by rw [← hst];exact h.id32 hp
  have hln:(t1.length:Int)=(l.length:Int):=by have:t1.length=l.length:=h.len;omega
  rw [if_neg (by omega),if_pos trivial]
  simp only [tree_Tree_Len.f,sargassoref8_Tree_Len.f,tree_Tree_Start.f,sargassoref8_Tree_Start.f,Option.bind_some]
  rw [if_pos hln,if_pos (by omega),Option.bind_some,show (l.getD (0:Int).toNat default).id=(gn l 0).id from rfl,hst,samehash_eq _ _ h32 h32,decide_eq_true rfl,Option.bind_some,Option.bind_some]
theorem number_at' {hs:List HN}{x:Int}(hx:InR .i64 x)(h0:0 < hs.length)(hl:hs.length≤1000):∃(y:Int)(g:HN),sargassoworld_Number.f x ((hs.map HN.h).length:Int)=some y∧(0≤y∧y < ((hs.map HN.h).length:Int))∧hs[y.toNat]?=some g:=by
 obtain ⟨y,hy,y0,y1⟩:=number_eq (x:=x) (n:=((hs.map HN.h).length:Int)) hx (by simp;omega) (by simp;omega)
 have hyl:y.toNat < hs.length:=by simp at y1;omega
 exact ⟨y,_,hy,⟨y0,y1⟩,List.getElem?_eq_getElem hyl⟩
theorem q11_TreePlays.m (μ:Store)(x0:List Int)(u0:Value)(h0:Slc (RI .i64) 1 μ u0 x0)(x1:Head)(h1:HeadW μ x1)(x2:Int)(h2:InR .i64 x2)(x3:Int)(h3:InR .i64 x3)(x4:Int)(h4:InR .i64 x4):q11_TreePlays.f x0 x1 x2 x3 x4=some true:=by
 simp only [q11_TreePlays.f]
 rw [first11,Option.bind_some,if_pos rfl]
 by_cases c:60 < (x0.length:Int)
 ·rw [if_pos c]
 rw [if_neg c]
 obtain ⟨hs,eg,hl,ho,hz,hg⟩:=grown_eq x0 (slc_ints h0) (by omega)
 obtain ⟨sy,rfl,so⟩:=hn_of h1
 rw [eg,Option.bind_some,if_pos (by simp;omega),show (0:Int).toNat=0 from rfl,map_get hz,tnew_eq H0_ok,Option.bind_some,newtree_eq H0_ok,Option.bind_some]
 refine loop_exists (step:=q11_TreePlays.s0 sy.h x2 x3 x4 true (hs.map HN.h)) (fun i s=>s.1=((i+1:Nat):Int)∧TR ⟨s.2.2.1,s.2.2.2⟩ s.2.1∧s.2.1.length≤i+1∧∀ (j:Nat) (g:HN),j < i+1→hs[j]?=some g→Has s.2.1 (hid g)) (hs.length - 1) (r:=true) ⟨rfl,tr_new H0_ok,Nat.le_refl _,fun j g hj hjg=>by
   have:j=0:=by omega
   subst this
   rw [hz] at hjg;cases hjg
   exact ⟨0,by simp [n8new],rfl⟩⟩ (fun i hi s ih=>?_) (fun s ih=>?_)
 ·obtain ⟨s1,s2,s3,s4⟩:=s
  obtain ⟨e1,ht,hlen,hk⟩:=ih
  simp only at e1 ht hlen hk
  subst e1
  obtain ⟨h,hh⟩:∃ h,hs[i+1]?=some h:=⟨_,List.getElem?_eq_getElem (by omega)⟩
  obtain ⟨j,g,hj,hjg,hp⟩:=hg (i+1) h hh (by omega)
  obtain ⟨e,t',cc,l',a1,a2,a3,a4,a5,a6,a7⟩:=add_any ht (by omega) (ho h (List.mem_of_getElem? hh))
  simp only [q11_TreePlays.s0,Int.toNat_natCast,List.length_map]
  rw [if_pos (by omega),if_pos (by omega),map_get hh,a1,Option.bind_some,a2,Option.bind_some]
  simp only
  rw [a3,Option.bind_some,if_pos rfl,winc (i+1) (by omega)]
  refine ⟨_,rfl,rfl,a4,by simp only;omega,fun k y hk' hy=>?_⟩
  rcases Nat.lt_or_ge k (i+1) with c1 | c1
  ·exact a6 _ (hk k y c1 hy)
  ·have:k=i+1:=by omega
   subst this
   rw [hh] at hy;cases hy
   exact a7 (by rw [hp];exact hk j g hj hjg)
 ·obtain ⟨s1,s2,s3,s4⟩:=s
  obtain ⟨e1,ht,hlen,hk⟩:=ih
  simp only at e1 ht hlen hk
  subst e1
  obtain ⟨e,t',cc,l',a1,a2,a3,a4,a5,a6,a7⟩:=add_any ht (by omega) so
  obtain ⟨y,ga,ey,yb,ya⟩:=number_at' (hs:=hs) h2 (by omega) (by omega)
  obtain ⟨z,gb,ez,zb,za⟩:=number_at' (hs:=hs) h3 (by omega) (by omega)
  have oa:=ho ga (List.mem_of_getElem? ya)
  have ob:=ho gb (List.mem_of_getElem? za)
  obtain ⟨q,q1,q2⟩:=a6 _ (hk _ _ (by have:=(List.getElem?_eq_some_iff.1 ya).1;omega) ya)
  obtain ⟨_,b2⟩:=addr_known a4 oa q1 q2
  obtain ⟨t1,t2⟩:=t'
  simp only [q11_TreePlays.s0]
  rw [if_neg (by simp only [List.length_map];omega),a1,Option.bind_some,a2,Option.bind_some]
  simp only
  rw [a3,Option.bind_some,if_pos rfl,ey,Option.bind_some,if_pos yb,map_get ya,b2,Option.bind_some]
  simp only
  rw [is_known,decide_eq_true rfl,Option.bind_some,Option.bind_some,if_neg (fun h:(!true)=true=>by cases h),Option.bind_some,if_pos yb,map_get ya,hidr_eq oa,Option.bind_some,ez,Option.bind_some,if_pos zb,map_get za,hidr_eq ob,Option.bind_some,plays_all a4 (hid_len ga) (hid_len gb) x4]
end Go.Proofs.YtdngkgkkblfcjaaGreatDoor.T
namespace Go.Proofs.YtdngkgkkblfcjaaGreatDoor.K
open Go Go.Proofs Go.ChangeShapes Go.WideShapes Go.RowKit
def mem (w:World):Store:=fun k=>w.heap[k]?
theorem agr_mem (w:World):Agr (mem w) w:=fun _ _ h=>h
theorem mem_cell {w:World}{g i:Nat}{v:Value}(h:w.cell? ⟨g,i,none⟩=some v):(mem w).cell g i=some v:=by
 unfold World.cell? at h
 unfold Store.cell mem
 cases hm:w.heap[g]? with
 | none=>simp [hm] at h
 | some o=>cases o <;> simp_all
theorem wf_in {k:IntKind}{n:Int}(h:(Lit.int k n).wf=true):InR k n:=by
 cases k <;> simp [Lit.wf,IntKind.min,IntKind.max,IntKind.signed,IntKind.bits] at h <;> simp [InR] <;> omega
section
variable {H:Type} {enc:TypeId×Value→H} {P:Program} {w:World} {base:Nat} {spare:Nat→Bool} {held:Bool} {t e:TypeId}
def Rd (enc:TypeId×Value→H)(P:Program)(w:World)(base:Nat)(spare:Nat→Bool)(held:Bool)(t:TypeId)(R:List Value→Prop):Prop :=
 ∀ fuel cs x,DataW.trod enc P w base spare held fuel t cs=some x→R cs
theorem rd_int {k:IntKind}(ht:P.underlying t=some (.int k)):Rd enc P w base spare held t (fun c=>∃ n,RI k n c):=by
 intro fuel cs x h
 obtain ⟨n,rfl,_,hw⟩:=DataW.trod_int ht h
 exact ⟨n,rfl,wf_in hw⟩
theorem rd_array {k:IntKind}{n:Nat}(ht:P.underlying t=some (.array n e))(he:P.underlying e=some (.int k))(hc:P.cellsOf e=1)(hn:P.cellsOf t=n) :
  Rd enc P w base spare held t (fun c=>∃ xs,RA k n xs c):=by
 intro fuel cs x h
 obtain ⟨xs,m,_,_,hl,hx,hf⟩:=DataW.trod_array ht h
 rw [hn] at hl
 have each:∀ i,i < n→∃ z,cs[i]?=some (.int k z)∧InR k z:=by
  intro i hi
  have h1:=hf i hi
  rw [hc,Nat.mul_one,List.getElem?_eq_getElem (by omega)] at h1
  obtain ⟨z,hz,_,hw⟩:=DataW.trod_int he h1
  refine ⟨z,?_,wf_in hw⟩
  have:=congrArg (·[0]?) hz
  simpa using this
 refine ⟨cs.map fun v=>match v with | .int _ z=>z | _=>0,?_,?_,?_⟩
 ·simp only [List.flatten_cons,List.flatten_nil,List.append_nil]
  apply List.ext_getElem?
  intro i
  by_cases hi:i < n
  ·obtain ⟨z,hz,_⟩:=each i hi
   rw [av_get _ _ _ hi,hz]
   simp [List.getD,hz]
  ·rw [List.getElem?_eq_none (by omega),List.getElem?_eq_none (by rw [av_len];omega)]
 ·simpa using hl
 ·intro y hy
  obtain ⟨v,hv,rfl⟩:=List.mem_map.1 hy
  obtain ⟨i,hi,rfl⟩:=List.getElem_of_mem hv
  obtain ⟨z,hz,hr⟩:=each i (by omega)
  rw [List.getElem?_eq_getElem hi] at hz
  rw [Option.some.inj hz]
  exact hr
theorem els_of {α:Type}{RE:α→List Value→Prop}{sz:Nat}:∀ {n:Nat} {Q:Nat→Value→Prop},(∀ i,i < n→∃ x c,RE x c∧c.length=sz∧∀ j v,c[j]?=some v→Q (i * sz+j) v) →
  ∃ xs cs,xs.length=n∧Els RE sz xs cs∧∀ j v,cs[j]?=some v→Q j v
 | 0,_,_=>⟨[],[],rfl,.nil,fun j v h=>by simp at h⟩
 | n+1,Q,f=>by
  obtain ⟨x,c,h1,h2,h3⟩:=f 0 (by omega)
  obtain ⟨xs,cs,e1,e2,e3⟩:=els_of (n:=n) (Q:=fun m v=>Q (sz+m) v) (fun i hi=>by
   obtain ⟨x,c,h1,h2,h3⟩:=f (i+1) (by omega)
   refine ⟨x,c,h1,h2,fun j v hj=>?_⟩
   have:=h3 j v hj
   rwa [Nat.add_mul,Nat.one_mul,Nat.add_comm (i * sz),Nat.add_assoc] at this)
  refine ⟨x::xs,c++cs,by simp [e1],.cons h1 h2 e2,fun j v hj=>?_⟩
  rcases Nat.lt_or_ge j c.length with h | h
  ·rw [List.getElem?_append_left h] at hj
   simpa using h3 j v hj
  ·rw [List.getElem?_append_right h] at hj
   have:=e3 _ _ hj
   rwa [h2,Nat.add_sub_cancel' (by omega)] at this
theorem rd_slice {α:Type}{RE:α→List Value→Prop}{sz:Nat}(ht:P.underlying t=some (.slice e))(hc:P.cellsOf e=sz)(h0:0 < sz)(hr:Rd enc P w base spare held e (fun c=>∃ x,RE x c)) :
  Rd enc P w base spare held t (fun c=>∃ v xs,c=[v]∧Slc RE sz (mem w) v xs):=by
 intro fuel cs x h
 rcases DataW.trod_slice ht h with ⟨rfl,_⟩ | ⟨a,len,cap,elems,rest,n,_,rfl,_,_,hl,hm,hlen,hel,_,_⟩
 ·exact ⟨_,[],rfl,[],.nil,none,0,rfl,Nat.le_refl _,Nat.zero_le _,fun h=>absurd rfl h,fun h=>absurd rfl h⟩
 have each0:∀ i,i < len→∃ x c,RE x c∧c.length=sz∧∀ j,j < sz→w.cell? ((a.add (i * sz)).add j)=c[j]?:=by
  intro i hi
  have h1:=hel i hi
  rw [List.getElem?_eq_getElem (by omega),hc] at h1
  obtain ⟨c,hc1,hc2⟩:=Option.bind_eq_some_iff.1 h1
  obtain ⟨_,l1,l2⟩:=World.cells?_some hc1
  obtain ⟨x,hx⟩:=hr _ _ _ hc2
  exact ⟨x,c,hx,l1,l2⟩
 have hs:0 < len→a.spot=none:=by
  intro hp
  obtain ⟨x,c,_,l1,l2⟩:=each0 0 hp
  have h2:=(l2 0 h0).trans (List.getElem?_eq_getElem (by omega))
  simpa [Addr.add] using World.cell?_spot h2
 obtain ⟨b,off,spot⟩:=a
 simp only at hs
 have each:∀ i,i < len→∃ x c,RE x c∧c.length=sz∧∀ j v,c[j]?=some v→(fun m v=>w.cell? ⟨b,off+m,none⟩=some v) (i * sz+j) v:=by
  intro i hi
  obtain ⟨x,c,hx,l1,l2⟩:=each0 i hi
  refine ⟨x,c,hx,l1,fun j v hj=>?_⟩
  have hjl:j < sz:=by
   have:=(List.getElem?_eq_some_iff.1 hj).1
   omega
  have h2:=(l2 j hjl).trans hj
  rw [hs (by omega),add_plain,add_plain] at h2
  simpa [Nat.add_assoc] using h2
 obtain ⟨xs,cs,e1,e2,e3⟩:=els_of (RE:=RE) (sz:=sz) (Q:=fun m v=>w.cell? ⟨b,off+m,none⟩=some v) each
 refine ⟨_,xs,rfl,cs,e2,some ⟨b,off,spot⟩,cap,by rw [e1],by omega,hm,fun hn=>by rw [hs (by omega)];rfl,fun hn j v hj=>mem_cell (e3 j v hj)⟩
theorem rd_struct {fs:Array Field}{fuel:Nat}{cs:List Value}{x:DataW H×List MemPlace}(ht:P.underlying t=some (.struct fs))(h:DataW.trod enc P w base spare held fuel t cs=some x) :
  cs.length=P.cellsOf t∧∀ (i:Nat) (f:Field),fs[i]?=some f→∃ n y,DataW.trod enc P w base spare held n f.type ((cs.drop f.offset).take (P.cellsOf f.type))=some y:=by
 obtain ⟨xs,n,_,_,hl,hx,hf⟩:=DataW.trod_struct ht h
 refine ⟨hl,fun i f hi=>?_⟩
 have h1:=hf i f hi
 have:i < fs.size:=(Array.getElem?_eq_some_iff.1 hi).1
 rw [List.getElem?_eq_getElem (by omega)] at h1
 exact ⟨n,_,h1⟩
theorem chop {α:Type}(cs:List α)(o n m:Nat)(h:o+n=m):cs.drop o=(cs.drop o).take n++cs.drop m:=by
 subst h
 rw [← List.drop_drop,List.take_append_drop]
theorem rd_at {R:List Value→Prop}{v:Value}{d:DataW H}{ps:List MemPlace}(hr:Rd enc P w base spare held t R)(h:DataW.Trod enc P w base spare held t v d ps):R v.cells.toList:=by
 obtain ⟨fuel,hf⟩:=h
 exact hr _ _ _ hf
theorem at_slice {α:Type}{RE:α→List Value→Prop}{sz:Nat}{r:Reach}{b0:Nat}{v:Value}{d:DataW H}{ps:List MemPlace}(ht:P.underlying t=some (.slice e))(hval:Value.okWide P w r b0 t v)
  (hr:Rd enc P w base spare held t (fun c=>∃ v xs,c=[v]∧Slc RE sz (mem w) v xs)) (h:DataW.Trod enc P w base spare held t v d ps):∃ xs,Slc RE sz (mem w) v xs:=by
 obtain ⟨a,len,cap,rfl⟩:=okWide_slice ht hval
 obtain ⟨u,xs,e1,h2⟩:=rd_at hr h
 simp [Value.cells] at e1
 subst e1
 exact ⟨xs,h2⟩
theorem at_agg {R:List Value→Prop}{v:Value}{d:DataW H}{ps:List MemPlace}(hv:∃ cs,v=.agg cs)(hr:Rd enc P w base spare held t R)(h:DataW.Trod enc P w base spare held t v d ps):∃ cs:List Value,v=.agg cs.toArray∧R cs:=by
 obtain ⟨cs,rfl⟩:=hv
 exact ⟨cs.toList,by simp,rd_at hr h⟩
theorem agg_struct {fs:Array Field}{r:Reach}{b0:Nat}{v:Value}(ht:P.underlying t=some (.struct fs))(hval:Value.okWide P w r b0 t v):∃ cs,v=.agg cs:=let ⟨cs,h,_⟩:=okWide_struct ht hval;⟨cs,h⟩
theorem again {W W':World}{v:Value}{d:DataW H}{ps:List MemPlace}(hl:laidOutB P=true)(hr:P.readableRec t=true)(hrow:t < P.types.size)(h:DataW.Trod enc P W 0 (fun _=>true) true t v d ps)(hb:Below W.heap.size W W') :
  DataW.Trod enc P W' 0 (fun b=>decide (b < W.heap.size)) true t v d ps :=
 Below.trod hl hr hrow h hb (fun p hp=>let ⟨n,hn⟩:=h;DataW.trod_lt n _ _ _ hn p hp)
end
end Go.Proofs.YtdngkgkkblfcjaaGreatDoor.K
namespace Go.Proofs.YtdngkgkkblfcjaaGreatDoor.K
open Go Go.Proofs
set_option linter.unusedVariables false
theorem laid_each {P:Program}{W:World}:∀ {l:List (String×DataW Unit)} {ps:List MemPlace},DataW.LaidVars P W l ps→∀ {n:String} {d:DataW Unit},(n,d)∈l →
  ∃ g t cs fuel p,P.globalNamed n=some g∧(P.globals[g]?).map (·.type)=some t∧W.var? P n=some cs∧DataW.trod (fun _=>()) P W 0 (fun _=>true) false fuel t cs.toList=some (d,p)∧∀ x∈MemPlace.row ⟨g,0,none⟩ cs.size++p,x∈ps
 | [],ps,h,n,d,hm=>by cases hm
 | (m,e)::r,ps,h,n,d,hm=>by
  obtain ⟨g,t,cs,fuel,p,q,hg,ht,hv,hd,hr,rfl⟩:=h
  rcases List.mem_cons.1 hm with e1 | hm
  ·cases e1
   exact ⟨g,t,cs,fuel,p,hg,ht,hv,hd,fun x hx=>List.mem_append_left _ hx⟩
  ·obtain ⟨g',t',cs',fuel',p',a1,a2,a3,a4,a5⟩:=laid_each hr hm
   exact ⟨g',t',cs',fuel',p',a1,a2,a3,a4,fun x hx=>List.mem_append_right _ (a5 x hx)⟩
theorem sent_of_laid {P:Program}{W:World}{laid:List (String×DataW Unit)}{code:ByteArray→Nat}{n:String}{text:List UInt8}{g:Nat}{ti tp ta te ts:TypeId}{ms:Array (String×TypeId)}{f:Field}
  (h : laidMet P laid W) (hm : (n, .iface "*errors.errorString" (.ptr (.agg [.lit (.string text)]))) ∈ laid) (hg : P.globalNamed n = some g) (ht : (P.globals[g]?).map (·.type) = some ti)
  (hi : P.underlying ti = some (.interface ms)) (hrow : ∀ u, P.typeName? 3 u = some "*errors.errorString" → u = tp) (hp : P.underlying tp = some (.pointer te)) (he : P.underlying te = some (.struct #[f])) (hft : f.type = ts) (hfo : f.offset = 0) (hs : P.underlying ts = some .string) (hc : P.cellsOf te = 1) (hcs : P.cellsOf ts = 1)
  (hcode:∀ s:ByteArray,s.data.toList=text→code s=g+1):∃ v,ErV tp ta code (mem W) (.b (g+1)) v:=by
 obtain ⟨ps,hl,hnd,hrows⟩:=h
 obtain ⟨g',t',cs,fuel,p,a1,a2,a3,a4,a5⟩:=laid_each hl hm
 obtain rfl:=Option.some.inj (hg.symm.trans a1)
 obtain rfl:=Option.some.inj (ht.symm.trans a2)
 obtain ⟨l⟩:=cs
 have ok:∀ u v,l=[.iface u v]→Value.okWide P W .any 0 u v:=fun u v e=>by
  subst e
  exact (hrows g 0 (a5 _ (by simp [MemPlace.row]))).2 u v (by simpa using World.var?_cell hg a3 0)
 obtain ⟨a,s,rfl,hcell,hst,hz,rfl⟩:=errorString_of_trod hi hrow hp he hft hfo hs hc hcs a4 ok
 obtain ⟨c,t,hb⟩:=(hrows a.block a.off (a5 _ (by simp [MemPlace.row]))).1
 refine ⟨.iface tp (.pointer (some a)),.inr ⟨by omega,mem_cell (by simpa using World.var?_cell hg a3 0),a,s,c,t,rfl,hb,hcode s hst,fun w hw=>?_⟩⟩
 have e:w.heap[a.block]?=W.heap[a.block]?:=(hw _ _ hb).trans hb.symm
 unfold World.cell? at hcell ⊢
 rw [e]
 exact hcell
end Go.Proofs.YtdngkgkkblfcjaaGreatDoor.K
namespace Go.Proofs.YtdngkgkkblfcjaaGreatDoor.T
open Go Go.Proofs Go.Proofs.YtdngkgkkblfcjaaGreatDoor.K
set_option linter.unusedVariables false
set_option linter.unusedSimpArgs false
set_option maxRecDepth 100000
theorem own:ownKnob Tryz.prog.godebug=none:=by kernel_rfl
noncomputable def low:Nat:=(World.holding Tryz.prog default ⟨#[],#[],[]⟩).heap.size
abbrev es0:ByteArray:={ data:=#[107,110,111,119,110,32,97,108,114,101,97,100,121] }
abbrev es1:ByteArray:={ data:=#[110,111,32,115,117,99,104,32,112,97,114,101,110,116] }
abbrev es2:ByteArray:={ data:=#[116,104,101,114,101,32,105,115,32,110,111,32,114,111,111,109] }
abbrev es3:ByteArray:={ data:=#[97,32,110,117,109,98,101,114,32,111,117,116,32,111,102,32,105,116,115,32,114,97,110,103,101] }
abbrev es5:ByteArray:={ data:=#[105,116,32,101,110,100,115,32,116,111,111,32,101,97,114,108,121] }
abbrev es6:ByteArray:={ data:=#[110,111,116,32,97,115,32,105,116,32,104,97,115,32,116,111,32,98,101] }
abbrev es7:ByteArray:={ data:=#[116,111,111,32,108,111,110,103] }
abbrev es8:ByteArray:={ data:=#[116,111,111,32,109,97,110,121,44,32,111,114,32,116,111,111,32,102,101,119] }
abbrev es9:ByteArray:={ data:=#[97,110,32,97,109,111,117,110,116,32,116,104,97,116,32,99,97,110,39,116,32,98,101] }
abbrev es10:ByteArray:={ data:=#[111,110,101,32,116,104,105,110,103,32,116,119,105,99,101] }
abbrev es11:ByteArray:={ data:=#[110,111,32,102,105,114,115,116,32,116,114,97,110,115,97,99,116,105,111,110,32,119,104,101,114,101,32,116,104,101,114,101,32,104,97,115,32,116,111,32,98,101,32,111,110,101,44,32,111,114,32,111,110,101,32,119,104,101,114,101,32,116,104,101,114,101,32,109,97,121,32,98,101,32,110,111,110,101] }
abbrev es12:ByteArray:={ data:=#[97,32,114,111,111,116,32,116,104,97,116,32,100,111,101,115,32,110,111,116,32,102,105,116] }
abbrev es13:ByteArray:={ data:=#[98,101,104,105,110,100,32,119,104,97,116,32,105,115,32,110,111,116,32,118,97,108,105,100] }
abbrev es14:ByteArray:={ data:=#[97,32,116,105,109,101,32,116,104,97,116,32,105,115,32,116,111,111,32,101,97,114,108,121] }
abbrev es15:ByteArray:={ data:=#[97,32,99,111,105,110,32,116,104,97,116,32,105,115,32,110,111,116,32,116,104,101,114,101] }
abbrev es16:ByteArray:={ data:=#[97,32,107,101,121,32,116,104,97,116,32,100,111,101,115,32,110,111,116,32,102,105,116] }
abbrev es17:ByteArray:={ data:=#[97,32,99,111,105,110,32,116,104,97,116,32,105,115,32,116,111,111,32,121,111,117,110,103] }
abbrev es18:ByteArray:={ data:=#[116,111,111,32,101,97,114,108,121,32,116,111,32,98,101,32,116,97,107,101,110] }
abbrev es19:ByteArray:={ data:=#[108,101,115,115,32,99,111,109,101,115,32,105,110,32,116,104,97,110,32,103,111,101,115,32,111,117,116] }
abbrev es20:ByteArray:={ data:=#[109,111,114,101,32,116,104,97,110,32,116,104,101,32,114,101,119,97,114,100] }
abbrev es21:ByteArray:={ data:=#[97,32,99,111,105,110,32,116,104,97,116,32,105,115,32,115,112,101,110,116,32,105,110,32,116,104,101,32,112,111,111,108] }
abbrev es22:ByteArray:={ data:=#[116,111,111,32,109,97,110,121,32,116,104,97,116,32,104,97,110,103,32,116,111,103,101,116,104,101,114] }
abbrev es23:ByteArray:={ data:=#[116,104,101,114,101,32,105,115,32,110,111,110,101] }
abbrev es24:ByteArray:={ data:=#[110,111,32,115,117,99,104,32,119,111,114,100] }
abbrev es25:ByteArray:={ data:=#[110,111,116,32,97,32,110,117,109,98,101,114] }
def setC (v:Value):Obj→Obj
 | .cells _ t frozen=>.cells #[v] t frozen
 | x=>x
noncomputable def laidWorld (os:Os):World :=
 let w0:=World.holding Tryz.prog os ⟨#[.cells #[.string es0] 391,.cells #[.string es1] 391,.cells #[.string es2] 391,.cells #[.string es3] 391,.cells #[.string es5] 391,.cells #[.string es6] 391,.cells #[.string es7] 391,.cells #[.string es8] 391,.cells #[.string es9] 391,.cells #[.string es10] 391,.cells #[.string es11] 391,.cells #[.string es12] 391,.cells #[.string es13] 391,.cells #[.string es14] 391,.cells #[.string es15] 391,.cells #[.string es16] 391,.cells #[.string es17] 391,.cells #[.string es18] 391,.cells #[.string es19] 391,.cells #[.string es20] 391,.cells #[.string es21] 391,.cells #[.string es22] 391,.cells #[.string es23] 391,.cells #[.string es24] 391,.cells #[.string es25] 391],#[],[]⟩
 { w0 with heap:=(((((((((((((((((((((((((w0.heap.modify 0 (setC (.iface 374 (.pointer (some ⟨low+0,0,none⟩))))).modify 1 (setC (.iface 374 (.pointer (some ⟨low+1,0,none⟩))))).modify 2 (setC (.iface 374 (.pointer (some ⟨low+2,0,none⟩))))).modify 3 (setC (.iface 374 (.pointer (some ⟨low+3,0,none⟩))))).modify 5 (setC (.iface 374 (.pointer (some ⟨low+4,0,none⟩))))).modify 6 (setC (.iface 374 (.pointer (some ⟨low+5,0,none⟩))))).modify 7 (setC (.iface 374 (.pointer (some ⟨low+6,0,none⟩))))).modify 8 (setC (.iface 374 (.pointer (some ⟨low+7,0,none⟩))))).modify 9 (setC (.iface 374 (.pointer (some ⟨low+8,0,none⟩))))).modify 10 (setC (.iface 374 (.pointer (some ⟨low+9,0,none⟩))))).modify 11 (setC (.iface 374 (.pointer (some ⟨low+10,0,none⟩))))).modify 12 (setC (.iface 374 (.pointer (some ⟨low+11,0,none⟩))))).modify 13 (setC (.iface 374 (.pointer (some ⟨low+12,0,none⟩))))).modify 14 (setC (.iface 374 (.pointer (some ⟨low+13,0,none⟩))))).modify 15 (setC (.iface 374 (.pointer (some ⟨low+14,0,none⟩))))).modify 16 (setC (.iface 374 (.pointer (some ⟨low+15,0,none⟩))))).modify 17 (setC (.iface 374 (.pointer (some ⟨low+16,0,none⟩))))).modify 18 (setC (.iface 374 (.pointer (some ⟨low+17,0,none⟩))))).modify 19 (setC (.iface 374 (.pointer (some ⟨low+18,0,none⟩))))).modify 20 (setC (.iface 374 (.pointer (some ⟨low+19,0,none⟩))))).modify 21 (setC (.iface 374 (.pointer (some ⟨low+20,0,none⟩))))).modify 22 (setC (.iface 374 (.pointer (some ⟨low+21,0,none⟩))))).modify 23 (setC (.iface 374 (.pointer (some ⟨low+22,0,none⟩))))).modify 24 (setC (.iface 374 (.pointer (some ⟨low+23,0,none⟩))))).modify 25 (setC (.iface 374 (.pointer (some ⟨low+24,0,none⟩))))) }
theorem starE : "*" ++ "errors.errorString" = "*errors.errorString" := by decide
theorem rowE (u : TypeId) (h : Tryz.prog.typeName? 3 u = some "*errors.errorString") : u = 374 :=
 typeName_ptr_named (nm := "errors.errorString") (by rw [starE]; kernel_rfl) (by kernel_rfl) (by decide) u (by rw [starE]; exact h)
theorem ceE:Tryz.prog.cellsOf 391=1:=by kernel_rfl
theorem csE:Tryz.prog.cellsOf 9=1:=by kernel_rfl
theorem sent0 {W : World} {l : List (String × DataW Unit)} (h : laidMet Tryz.prog l W) (hm : ("sargasso/api.ErrKnown", .iface "*errors.errorString" (.ptr (.agg [.lit (.string [107, 110, 111, 119, 110, 32, 97, 108, 114, 101, 97, 100, 121])]))) ∈ l) : ∃ v, ErS (mem W) v (Er.b 1) :=
 sent_of_laid h hm (by kernel_rfl) (by kernel_rfl) Tryz.underlying37 rowE Tryz.underlying374 Tryz.underlying391 rfl rfl Tryz.underlying9 ceE csE (fun s hs=>by unfold errCode;rw [hs];kernel_rfl)
theorem sent1 {W : World} {l : List (String × DataW Unit)} (h : laidMet Tryz.prog l W) (hm : ("sargasso/api.ErrParent", .iface "*errors.errorString" (.ptr (.agg [.lit (.string [110, 111, 32, 115, 117, 99, 104, 32, 112, 97, 114, 101, 110, 116])]))) ∈ l) : ∃ v, ErS (mem W) v (Er.b 2) :=
 sent_of_laid h hm (by kernel_rfl) (by kernel_rfl) Tryz.underlying37 rowE Tryz.underlying374 Tryz.underlying391 rfl rfl Tryz.underlying9 ceE csE (fun s hs=>by unfold errCode;rw [hs];kernel_rfl)
theorem sent2 {W : World} {l : List (String × DataW Unit)} (h : laidMet Tryz.prog l W) (hm : ("sargasso/api.ErrFull", .iface "*errors.errorString" (.ptr (.agg [.lit (.string [116, 104, 101, 114, 101, 32, 105, 115, 32, 110, 111, 32, 114, 111, 111, 109])]))) ∈ l) : ∃ v, ErS (mem W) v (Er.b 3) :=
 sent_of_laid h hm (by kernel_rfl) (by kernel_rfl) Tryz.underlying37 rowE Tryz.underlying374 Tryz.underlying391 rfl rfl Tryz.underlying9 ceE csE (fun s hs=>by unfold errCode;rw [hs];kernel_rfl)
theorem sent3 {W : World} {l : List (String × DataW Unit)} (h : laidMet Tryz.prog l W) (hm : ("sargasso/api.ErrRange", .iface "*errors.errorString" (.ptr (.agg [.lit (.string [97, 32, 110, 117, 109, 98, 101, 114, 32, 111, 117, 116, 32, 111, 102, 32, 105, 116, 115, 32, 114, 97, 110, 103, 101])]))) ∈ l) : ∃ v, ErS (mem W) v (Er.b 4) :=
 sent_of_laid h hm (by kernel_rfl) (by kernel_rfl) Tryz.underlying37 rowE Tryz.underlying374 Tryz.underlying391 rfl rfl Tryz.underlying9 ceE csE (fun s hs=>by unfold errCode;rw [hs];kernel_rfl)
theorem sent5 {W : World} {l : List (String × DataW Unit)} (h : laidMet Tryz.prog l W) (hm : ("sargasso/api.ErrEnd", .iface "*errors.errorString" (.ptr (.agg [.lit (.string [105, 116, 32, 101, 110, 100, 115, 32, 116, 111, 111, 32, 101, 97, 114, 108, 121])]))) ∈ l) : ∃ v, ErS (mem W) v (Er.b 6) :=
 sent_of_laid h hm (by kernel_rfl) (by kernel_rfl) Tryz.underlying37 rowE Tryz.underlying374 Tryz.underlying391 rfl rfl Tryz.underlying9 ceE csE (fun s hs=>by unfold errCode;rw [hs];kernel_rfl)
theorem sent6 {W : World} {l : List (String × DataW Unit)} (h : laidMet Tryz.prog l W) (hm : ("sargasso/api.ErrShape", .iface "*errors.errorString" (.ptr (.agg [.lit (.string [110, 111, 116, 32, 97, 115, 32, 105, 116, 32, 104, 97, 115, 32, 116, 111, 32, 98, 101])]))) ∈ l) : ∃ v, ErS (mem W) v (Er.b 7) :=
 sent_of_laid h hm (by kernel_rfl) (by kernel_rfl) Tryz.underlying37 rowE Tryz.underlying374 Tryz.underlying391 rfl rfl Tryz.underlying9 ceE csE (fun s hs=>by unfold errCode;rw [hs];kernel_rfl)
theorem sent7 {W : World} {l : List (String × DataW Unit)} (h : laidMet Tryz.prog l W) (hm : ("sargasso/api.ErrLong", .iface "*errors.errorString" (.ptr (.agg [.lit (.string [116, 111, 111, 32, 108, 111, 110, 103])]))) ∈ l) : ∃ v, ErS (mem W) v (Er.b 8) :=
 sent_of_laid h hm (by kernel_rfl) (by kernel_rfl) Tryz.underlying37 rowE Tryz.underlying374 Tryz.underlying391 rfl rfl Tryz.underlying9 ceE csE (fun s hs=>by unfold errCode;rw [hs];kernel_rfl)
theorem sent8 {W : World} {l : List (String × DataW Unit)} (h : laidMet Tryz.prog l W) (hm : ("sargasso/api.ErrMany", .iface "*errors.errorString" (.ptr (.agg [.lit (.string [116, 111, 111, 32, 109, 97, 110, 121, 44, 32, 111, 114, 32, 116, 111, 111, 32, 102, 101, 119])]))) ∈ l) : ∃ v, ErS (mem W) v (Er.b 9) :=
 sent_of_laid h hm (by kernel_rfl) (by kernel_rfl) Tryz.underlying37 rowE Tryz.underlying374 Tryz.underlying391 rfl rfl Tryz.underlying9 ceE csE (fun s hs=>by unfold errCode;rw [hs];kernel_rfl)
theorem sent9 {W : World} {l : List (String × DataW Unit)} (h : laidMet Tryz.prog l W) (hm : ("sargasso/api.ErrValue", .iface "*errors.errorString" (.ptr (.agg [.lit (.string [97, 110, 32, 97, 109, 111, 117, 110, 116, 32, 116, 104, 97, 116, 32, 99, 97, 110, 39, 116, 32, 98, 101])]))) ∈ l) : ∃ v, ErS (mem W) v (Er.b 10) :=
 sent_of_laid h hm (by kernel_rfl) (by kernel_rfl) Tryz.underlying37 rowE Tryz.underlying374 Tryz.underlying391 rfl rfl Tryz.underlying9 ceE csE (fun s hs=>by unfold errCode;rw [hs];kernel_rfl)
theorem sent10 {W : World} {l : List (String × DataW Unit)} (h : laidMet Tryz.prog l W) (hm : ("sargasso/api.ErrTwice", .iface "*errors.errorString" (.ptr (.agg [.lit (.string [111, 110, 101, 32, 116, 104, 105, 110, 103, 32, 116, 119, 105, 99, 101])]))) ∈ l) : ∃ v, ErS (mem W) v (Er.b 11) :=
 sent_of_laid h hm (by kernel_rfl) (by kernel_rfl) Tryz.underlying37 rowE Tryz.underlying374 Tryz.underlying391 rfl rfl Tryz.underlying9 ceE csE (fun s hs=>by unfold errCode;rw [hs];kernel_rfl)
theorem sent11 {W : World} {l : List (String × DataW Unit)} (h : laidMet Tryz.prog l W) (hm : ("sargasso/api.ErrBase", .iface "*errors.errorString" (.ptr (.agg [.lit (.string [110, 111, 32, 102, 105, 114, 115, 116, 32, 116, 114, 97, 110, 115, 97, 99, 116, 105, 111, 110, 32, 119, 104, 101, 114, 101, 32, 116, 104, 101, 114, 101, 32, 104, 97, 115, 32, 116, 111, 32, 98, 101, 32, 111, 110, 101, 44, 32, 111, 114, 32, 111, 110, 101, 32, 119, 104, 101, 114, 101, 32, 116, 104, 101, 114, 101, 32, 109, 97, 121, 32, 98, 101, 32, 110, 111, 110, 101])]))) ∈ l) : ∃ v, ErS (mem W) v (Er.b 12) :=
 sent_of_laid h hm (by kernel_rfl) (by kernel_rfl) Tryz.underlying37 rowE Tryz.underlying374 Tryz.underlying391 rfl rfl Tryz.underlying9 ceE csE (fun s hs=>by unfold errCode;rw [hs];kernel_rfl)
theorem sent12 {W : World} {l : List (String × DataW Unit)} (h : laidMet Tryz.prog l W) (hm : ("sargasso/api.ErrRoot", .iface "*errors.errorString" (.ptr (.agg [.lit (.string [97, 32, 114, 111, 111, 116, 32, 116, 104, 97, 116, 32, 100, 111, 101, 115, 32, 110, 111, 116, 32, 102, 105, 116])]))) ∈ l) : ∃ v, ErS (mem W) v (Er.b 13) :=
 sent_of_laid h hm (by kernel_rfl) (by kernel_rfl) Tryz.underlying37 rowE Tryz.underlying374 Tryz.underlying391 rfl rfl Tryz.underlying9 ceE csE (fun s hs=>by unfold errCode;rw [hs];kernel_rfl)
theorem sent13 {W : World} {l : List (String × DataW Unit)} (h : laidMet Tryz.prog l W) (hm : ("sargasso/api.ErrInvalid", .iface "*errors.errorString" (.ptr (.agg [.lit (.string [98, 101, 104, 105, 110, 100, 32, 119, 104, 97, 116, 32, 105, 115, 32, 110, 111, 116, 32, 118, 97, 108, 105, 100])]))) ∈ l) : ∃ v, ErS (mem W) v (Er.b 14) :=
 sent_of_laid h hm (by kernel_rfl) (by kernel_rfl) Tryz.underlying37 rowE Tryz.underlying374 Tryz.underlying391 rfl rfl Tryz.underlying9 ceE csE (fun s hs=>by unfold errCode;rw [hs];kernel_rfl)
theorem sent14 {W : World} {l : List (String × DataW Unit)} (h : laidMet Tryz.prog l W) (hm : ("sargasso/api.ErrTime", .iface "*errors.errorString" (.ptr (.agg [.lit (.string [97, 32, 116, 105, 109, 101, 32, 116, 104, 97, 116, 32, 105, 115, 32, 116, 111, 111, 32, 101, 97, 114, 108, 121])]))) ∈ l) : ∃ v, ErS (mem W) v (Er.b 15) :=
 sent_of_laid h hm (by kernel_rfl) (by kernel_rfl) Tryz.underlying37 rowE Tryz.underlying374 Tryz.underlying391 rfl rfl Tryz.underlying9 ceE csE (fun s hs=>by unfold errCode;rw [hs];kernel_rfl)
theorem sent15 {W : World} {l : List (String × DataW Unit)} (h : laidMet Tryz.prog l W) (hm : ("sargasso/api.ErrMissing", .iface "*errors.errorString" (.ptr (.agg [.lit (.string [97, 32, 99, 111, 105, 110, 32, 116, 104, 97, 116, 32, 105, 115, 32, 110, 111, 116, 32, 116, 104, 101, 114, 101])]))) ∈ l) : ∃ v, ErS (mem W) v (Er.b 16) :=
 sent_of_laid h hm (by kernel_rfl) (by kernel_rfl) Tryz.underlying37 rowE Tryz.underlying374 Tryz.underlying391 rfl rfl Tryz.underlying9 ceE csE (fun s hs=>by unfold errCode;rw [hs];kernel_rfl)
theorem sent16 {W : World} {l : List (String × DataW Unit)} (h : laidMet Tryz.prog l W) (hm : ("sargasso/api.ErrKey", .iface "*errors.errorString" (.ptr (.agg [.lit (.string [97, 32, 107, 101, 121, 32, 116, 104, 97, 116, 32, 100, 111, 101, 115, 32, 110, 111, 116, 32, 102, 105, 116])]))) ∈ l) : ∃ v, ErS (mem W) v (Er.b 17) :=
 sent_of_laid h hm (by kernel_rfl) (by kernel_rfl) Tryz.underlying37 rowE Tryz.underlying374 Tryz.underlying391 rfl rfl Tryz.underlying9 ceE csE (fun s hs=>by unfold errCode;rw [hs];kernel_rfl)
theorem sent17 {W : World} {l : List (String × DataW Unit)} (h : laidMet Tryz.prog l W) (hm : ("sargasso/api.ErrYoung", .iface "*errors.errorString" (.ptr (.agg [.lit (.string [97, 32, 99, 111, 105, 110, 32, 116, 104, 97, 116, 32, 105, 115, 32, 116, 111, 111, 32, 121, 111, 117, 110, 103])]))) ∈ l) : ∃ v, ErS (mem W) v (Er.b 18) :=
 sent_of_laid h hm (by kernel_rfl) (by kernel_rfl) Tryz.underlying37 rowE Tryz.underlying374 Tryz.underlying391 rfl rfl Tryz.underlying9 ceE csE (fun s hs=>by unfold errCode;rw [hs];kernel_rfl)
theorem sent18 {W : World} {l : List (String × DataW Unit)} (h : laidMet Tryz.prog l W) (hm : ("sargasso/api.ErrEarly", .iface "*errors.errorString" (.ptr (.agg [.lit (.string [116, 111, 111, 32, 101, 97, 114, 108, 121, 32, 116, 111, 32, 98, 101, 32, 116, 97, 107, 101, 110])]))) ∈ l) : ∃ v, ErS (mem W) v (Er.b 19) :=
 sent_of_laid h hm (by kernel_rfl) (by kernel_rfl) Tryz.underlying37 rowE Tryz.underlying374 Tryz.underlying391 rfl rfl Tryz.underlying9 ceE csE (fun s hs=>by unfold errCode;rw [hs];kernel_rfl)
theorem sent19 {W : World} {l : List (String × DataW Unit)} (h : laidMet Tryz.prog l W) (hm : ("sargasso/api.ErrLess", .iface "*errors.errorString" (.ptr (.agg [.lit (.string [108, 101, 115, 115, 32, 99, 111, 109, 101, 115, 32, 105, 110, 32, 116, 104, 97, 110, 32, 103, 111, 101, 115, 32, 111, 117, 116])]))) ∈ l) : ∃ v, ErS (mem W) v (Er.b 20) :=
 sent_of_laid h hm (by kernel_rfl) (by kernel_rfl) Tryz.underlying37 rowE Tryz.underlying374 Tryz.underlying391 rfl rfl Tryz.underlying9 ceE csE (fun s hs=>by unfold errCode;rw [hs];kernel_rfl)
theorem sent20 {W : World} {l : List (String × DataW Unit)} (h : laidMet Tryz.prog l W) (hm : ("sargasso/api.ErrReward", .iface "*errors.errorString" (.ptr (.agg [.lit (.string [109, 111, 114, 101, 32, 116, 104, 97, 110, 32, 116, 104, 101, 32, 114, 101, 119, 97, 114, 100])]))) ∈ l) : ∃ v, ErS (mem W) v (Er.b 21) :=
 sent_of_laid h hm (by kernel_rfl) (by kernel_rfl) Tryz.underlying37 rowE Tryz.underlying374 Tryz.underlying391 rfl rfl Tryz.underlying9 ceE csE (fun s hs=>by unfold errCode;rw [hs];kernel_rfl)
theorem sent21 {W : World} {l : List (String × DataW Unit)} (h : laidMet Tryz.prog l W) (hm : ("sargasso/api.ErrClash", .iface "*errors.errorString" (.ptr (.agg [.lit (.string [97, 32, 99, 111, 105, 110, 32, 116, 104, 97, 116, 32, 105, 115, 32, 115, 112, 101, 110, 116, 32, 105, 110, 32, 116, 104, 101, 32, 112, 111, 111, 108])]))) ∈ l) : ∃ v, ErS (mem W) v (Er.b 22) :=
 sent_of_laid h hm (by kernel_rfl) (by kernel_rfl) Tryz.underlying37 rowE Tryz.underlying374 Tryz.underlying391 rfl rfl Tryz.underlying9 ceE csE (fun s hs=>by unfold errCode;rw [hs];kernel_rfl)
theorem sent22 {W : World} {l : List (String × DataW Unit)} (h : laidMet Tryz.prog l W) (hm : ("sargasso/api.ErrLimit", .iface "*errors.errorString" (.ptr (.agg [.lit (.string [116, 111, 111, 32, 109, 97, 110, 121, 32, 116, 104, 97, 116, 32, 104, 97, 110, 103, 32, 116, 111, 103, 101, 116, 104, 101, 114])]))) ∈ l) : ∃ v, ErS (mem W) v (Er.b 23) :=
 sent_of_laid h hm (by kernel_rfl) (by kernel_rfl) Tryz.underlying37 rowE Tryz.underlying374 Tryz.underlying391 rfl rfl Tryz.underlying9 ceE csE (fun s hs=>by unfold errCode;rw [hs];kernel_rfl)
theorem sent23 {W : World} {l : List (String × DataW Unit)} (h : laidMet Tryz.prog l W) (hm : ("sargasso/api.ErrNone", .iface "*errors.errorString" (.ptr (.agg [.lit (.string [116, 104, 101, 114, 101, 32, 105, 115, 32, 110, 111, 110, 101])]))) ∈ l) : ∃ v, ErS (mem W) v (Er.b 24) :=
 sent_of_laid h hm (by kernel_rfl) (by kernel_rfl) Tryz.underlying37 rowE Tryz.underlying374 Tryz.underlying391 rfl rfl Tryz.underlying9 ceE csE (fun s hs=>by unfold errCode;rw [hs];kernel_rfl)
theorem sent24 {W : World} {l : List (String × DataW Unit)} (h : laidMet Tryz.prog l W) (hm : ("sargasso/api.ErrWord", .iface "*errors.errorString" (.ptr (.agg [.lit (.string [110, 111, 32, 115, 117, 99, 104, 32, 119, 111, 114, 100])]))) ∈ l) : ∃ v, ErS (mem W) v (Er.b 25) :=
 sent_of_laid h hm (by kernel_rfl) (by kernel_rfl) Tryz.underlying37 rowE Tryz.underlying374 Tryz.underlying391 rfl rfl Tryz.underlying9 ceE csE (fun s hs=>by unfold errCode;rw [hs];kernel_rfl)
theorem sent25 {W : World} {l : List (String × DataW Unit)} (h : laidMet Tryz.prog l W) (hm : ("sargasso/api.ErrNumber", .iface "*errors.errorString" (.ptr (.agg [.lit (.string [110, 111, 116, 32, 97, 32, 110, 117, 109, 98, 101, 114])]))) ∈ l) : ∃ v, ErS (mem W) v (Er.b 26) :=
 sent_of_laid h hm (by kernel_rfl) (by kernel_rfl) Tryz.underlying37 rowE Tryz.underlying374 Tryz.underlying391 rfl rfl Tryz.underlying9 ceE csE (fun s hs=>by unfold errCode;rw [hs];kernel_rfl)
theorem laid:laidOutB Tryz.prog=true:=by kernel_rfl
theorem cl3:Tryz.prog.cellsOf 3=1:=by kernel_rfl
theorem rr3:Tryz.prog.readableRec 3=true:=by kernel_rfl
theorem tr3:3 < Tryz.prog.types.size:=of_decide_eq_true (by kernel_rfl)
theorem rr22:Tryz.prog.readableRec 22=true:=by kernel_rfl
theorem tr22:22 < Tryz.prog.types.size:=of_decide_eq_true (by kernel_rfl)
theorem cl23:Tryz.prog.cellsOf 23=1:=by kernel_rfl
theorem cl5:Tryz.prog.cellsOf 5=1:=by kernel_rfl
theorem cl25:Tryz.prog.cellsOf 25=32:=by kernel_rfl
theorem cl27:Tryz.prog.cellsOf 27=68:=by kernel_rfl
theorem rr27:Tryz.prog.readableRec 27=true:=by kernel_rfl
theorem tr27:27 < Tryz.prog.types.size:=of_decide_eq_true (by kernel_rfl)
section
variable {H:Type} {enc:TypeId×Value→H} {w:World} {base:Nat} {spare:Nat→Bool} {held:Bool}
theorem rd3:Rd enc Tryz.prog w base spare held 3 (fun c=>∃ n,RI .i64 n c):=rd_int Tryz.underlying3
theorem rd22:Rd enc Tryz.prog w base spare held 22 (fun c=>∃ v xs,c=[v]∧Slc (RI .i64) 1 (mem w) v xs):=rd_slice Tryz.underlying22 cl3 (by decide) rd3
theorem rd23:Rd enc Tryz.prog w base spare held 23 (fun c=>∃ n,RI .u32 n c):=rd_int Tryz.underlying23
theorem rd25:Rd enc Tryz.prog w base spare held 25 (fun c=>∃ xs,RA .u8 32 xs c):=rd_array Tryz.underlying25 Tryz.underlying5 cl5 cl25
theorem rd27:Rd enc Tryz.prog w base spare held 27 (fun c=>∃ x,RHead (mem w) x c):=by
 intro fuel cs x h
 obtain ⟨hl,hf⟩:=rd_struct Tryz.underlying27 h
 rw [cl27] at hl
 obtain ⟨n0,y0,h0⟩:=hf 0 _ rfl
 obtain ⟨x0,e0,w0⟩:=rd23 _ _ _ h0
 have e0:(cs.drop 0).take (Tryz.prog.cellsOf 23)=_:=e0
 rw [cl23] at e0
 have c0:=chop cs 0 1 1 rfl
 rw [e0] at c0
 obtain ⟨n1,y1,h1⟩:=hf 1 _ rfl
 obtain ⟨x1,e1,w1⟩:=rd25 _ _ _ h1
 have e1:(cs.drop 1).take (Tryz.prog.cellsOf 25)=_:=e1
 rw [cl25] at e1
 have c1:=chop cs 1 32 33 rfl
 rw [e1] at c1
 obtain ⟨n2,y2,h2⟩:=hf 2 _ rfl
 obtain ⟨x2,e2,w2⟩:=rd25 _ _ _ h2
 have e2:(cs.drop 33).take (Tryz.prog.cellsOf 25)=_:=e2
 rw [cl25] at e2
 have c2:=chop cs 33 32 65 rfl
 rw [e2] at c2
 obtain ⟨n3,y3,h3⟩:=hf 3 _ rfl
 obtain ⟨x3,e3,w3⟩:=rd23 _ _ _ h3
 have e3:(cs.drop 65).take (Tryz.prog.cellsOf 23)=_:=e3
 rw [cl23] at e3
 have c3:=chop cs 65 1 66 rfl
 rw [e3] at c3
 obtain ⟨n4,y4,h4⟩:=hf 4 _ rfl
 obtain ⟨x4,e4,w4⟩:=rd23 _ _ _ h4
 have e4:(cs.drop 66).take (Tryz.prog.cellsOf 23)=_:=e4
 rw [cl23] at e4
 have c4:=chop cs 66 1 67 rfl
 rw [e4] at c4
 obtain ⟨n5,y5,h5⟩:=hf 5 _ rfl
 obtain ⟨x5,e5,w5⟩:=rd23 _ _ _ h5
 have e5:(cs.drop 67).take (Tryz.prog.cellsOf 23)=_:=e5
 rw [cl23] at e5
 have c5:=chop cs 67 1 68 rfl
 rw [e5] at c5
 rw [List.drop_eq_nil_of_le (i:=68) (by omega)] at c5
 rw [c5] at c4
 rw [c4] at c3
 rw [c3] at c2
 rw [c2] at c1
 rw [c1] at c0
 rw [List.drop_zero] at c0
 exact ⟨⟨x0,x1,x2,x3,x4,x5⟩, by rw [c0];simp [HeadC],⟨w0,w1,w2,w3,w4,w5⟩⟩
end
end Go.Proofs.YtdngkgkkblfcjaaGreatDoor.T
namespace Go.Proofs.YtdngkgkkblfcjaaGreatDoor.J
open Go Go.Proofs
theorem words_cons:∀ (w r:List Char),w.all (· != ' ')=true→wordsSigns (w++' '::r)=w::wordsSigns r
 | [],r,_=>rfl
 | c::w,r,h=>by
  simp only [List.all_cons,Bool.and_eq_true,bne_iff_ne,ne_eq] at h
  have ih:=words_cons w r h.2
  rw [List.cons_append,wordsSigns,ih]
  exact fun e=>h.1 e
set_option maxRecDepth 100000
def w0:List Char:=['h','a','r','n','e','s','s']
def w1:List Char:=['9','0','6','d','0','9','e','0','1','b','9','e','b','0','7','3','f','2','4','a','f','9','9','c','0','0','e','c','b','e','9','e','9','6','b','0','3','e','e','c','e','3','5','0','2','0','a','f','1','5','1','b','8','f','1','2','0','6','1','d','b','2','e','7']
def w2:List Char:=['c','u','t']
def w3:List Char:=['a','t',' ','s','a','r','g','a','s','s','o','/','s','a','r','g','a','s','s','o','l','a','w','1','1','.','T','r','e','e','P','l','a','y','s',' ','s','a','r','g','a','s','s','o','/','s','a','r','g','a','s','s','o','l','a','w','2','4','.','R','e','d','o','P','l','a','y','s']
theorem io0:Tryz.prog.initOrder=String.ofList (w0++' '::(w1++' '::(w2++' '::w3))):=by kernel_rfl
theorem io:Tryz.prog.initOrder.toList=w0++' '::(w1++' '::(w2++' '::w3)):=(congrArg String.toList io0).trans String.toList_ofList
theorem ws:wordsSigns Tryz.prog.initOrder.toList=w0::w1::w2::wordsSigns w3:=by
 rw [io,words_cons _ _ (by kernel_rfl),words_cons _ _ (by kernel_rfl),words_cons _ _ (by kernel_rfl)]
theorem bm (R:List (List Char)):behindMainWord (w0::w1::w2::R)=w2::R:=by kernel_rfl
theorem main_of {P:Program}{R:List (List Char)}(h:wordsSigns P.initOrder.toList=w0::w1::R):P.mainIs=some (true,w1):=by
 unfold Program.mainIs
 rw [h]
 kernel_rfl
theorem mainIs:Tryz.prog.mainIs=some (true,w1):=main_of ws
theorem bw:behindMainWord (wordsSigns Tryz.prog.initOrder.toList)=w2::wordsSigns w3:=by rw [ws,bm]
theorem st (R:List (List Char)):stripLifts liftWords (w2::R)=([],w2::R):=by kernel_rfl
theorem make_of {P:Program}{R:List (List Char)}(h:behindMainWord (wordsSigns P.initOrder.toList)=w2::R):P.make=some .cut:=by
 unfold Program.make
 rw [h]
 kernel_rfl
theorem head_of {P:Program}{R:List (List Char)}(h:behindMainWord (wordsSigns P.initOrder.toList)=w2::R):P.headLifts=[]:=by
 unfold Program.headLifts
 rw [h,st]
 kernel_rfl
theorem lifts_of {P:Program}{R:List (List Char)}(h:behindMainWord (wordsSigns P.initOrder.toList)=w2::R):P.liftsFinal=false:=by
 unfold Program.liftsFinal
 rw [h,head_of h]
 kernel_rfl
theorem may_of {P:Program}{R:List (List Char)}(h:behindMainWord (wordsSigns P.initOrder.toList)=w2::R)(h1:P.laysLater=false)(h2:P.bearsReflect=false)(h3:P.doorFits []=true):P.mayEnter=true:=by
 unfold Program.mayEnter
 rw [h]
 simp only [st,h1,h2,h3]
 kernel_rfl
theorem later:Tryz.prog.laysLater=false:=by kernel_rfl
theorem reflect:Tryz.prog.bearsReflect=false:=by kernel_rfl
theorem door:Tryz.prog.doorFits []=true:=by kernel_rfl
theorem make:Tryz.prog.make=some .cut:=make_of bw
theorem lifts:Tryz.prog.liftsFinal=false:=lifts_of bw
theorem may:Tryz.prog.mayEnter=true:=may_of bw later reflect door
end Go.Proofs.YtdngkgkkblfcjaaGreatDoor.J
namespace Go.Proofs.YtdngkgkkblfcjaaGreatDoor.zTreePlays
open Go Go.Proofs Go.Proofs.YtdngkgkkblfcjaaGreatDoor.K Go.Proofs.YtdngkgkkblfcjaaGreatDoor.T
open Go.ChangeShapes Go.WideShapes Go.ChangeAt Go.RowKit
set_option linter.unusedVariables false
theorem met (os:Os)(args:Array Value):laidMetH Tryz.prog Rows.treePlaysRow.laid ((laidWorld os).forCall (fun _ _=>0) ⟨#[],args,[]⟩).memory :=
 laidMetH_of_parts (laidMet_of_run' 8 (by kernel_rfl) (by kernel_rfl)) (by kernel_rfl)
set_option maxRecDepth 100000 in
theorem lifted (os:Os)(started:os.Started)(H:Type)(enc:TypeId×Value→H) :
  ReturnsInHanded {} Tryz.checked os 3 .any (fun w args=>(Rows.treePlaysSpec.pre enc Tryz.prog Tryz.f3 [] false w args∧laidMetH Tryz.prog Rows.treePlaysRow.laid w)∧sizedMet enc Tryz.prog Tryz.f3 (OpenSpec.ofChange Rows.treePlaysSpec) false w args) (Rows.treePlaysSpec.post enc Tryz.prog Tryz.f3 false true false false):=by
 refine returnsInHanded_of_change_and (C:=Tryz.checked) (X:=fun w _=>laidMetH Tryz.prog Rows.treePlaysRow.laid w) (fun _ _ _ hh h=>h.of_heap hh) own started (by kernel_rfl) Tryz.func3
  (ChangeSpec.witness_at (enc:=enc) (C:=Tryz.checked) (os:=os) (X:=fun w _=>laidMetH Tryz.prog Rows.treePlaysRow.laid w) false (laidWorld os) #[.slice none 0 0,.agg #[.int .u32 0,.int .u8 0,.int .u8 0,.int .u8 0,.int .u8 0,.int .u8 0,.int .u8 0,.int .u8 0,.int .u8 0,.int .u8 0,.int .u8 0,.int .u8 0,.int .u8 0,.int .u8 0,.int .u8 0,.int .u8 0,.int .u8 0,.int .u8 0,.int .u8 0,.int .u8 0,.int .u8 0,.int .u8 0,.int .u8 0,.int .u8 0,.int .u8 0,.int .u8 0,.int .u8 0,.int .u8 0,.int .u8 0,.int .u8 0,.int .u8 0,.int .u8 0,.int .u8 0,.int .u8 0,.int .u8 0,.int .u8 0,.int .u8 0,.int .u8 0,.int .u8 0,.int .u8 0,.int .u8 0,.int .u8 0,.int .u8 0,.int .u8 0,.int .u8 0,.int .u8 0,.int .u8 0,.int .u8 0,.int .u8 0,.int .u8 0,.int .u8 0,.int .u8 0,.int .u8 0,.int .u8 0,.int .u8 0,.int .u8 0,.int .u8 0,.int .u8 0,.int .u8 0,.int .u8 0,.int .u8 0,.int .u8 0,.int .u8 0,.int .u8 0,.int .u8 0,.int .u32 0,.int .u32 0,.int .u32 0],.int .i64 0,.int .i64 0,.int .i64 0] 8 rfl (by kernel_rfl) (by kernel_rfl) (by kernel_rfl) (by kernel_rfl) (by kernel_rfl) (met os _)) ?_
 intro W base args ds gs before hval0 hW hcnd hsz0 hL _
 have hL:laidMet Tryz.prog Rows.treePlaysRow.laid W:=hL
 have hG:Gl (mem W):=⟨sent0 hL (List.mem_of_getElem? (i:=8) rfl),sent1 hL (List.mem_of_getElem? (i:=9) rfl),sent2 hL (List.mem_of_getElem? (i:=20) rfl),sent3 hL (List.mem_of_getElem? (i:=21) rfl),sent5 hL (List.mem_of_getElem? (i:=0) rfl),sent6 hL (List.mem_of_getElem? (i:=1) rfl),sent7 hL (List.mem_of_getElem? (i:=2) rfl),sent8 hL (List.mem_of_getElem? (i:=3) rfl),sent9 hL (List.mem_of_getElem? (i:=4) rfl),sent10 hL (List.mem_of_getElem? (i:=5) rfl),sent11 hL (List.mem_of_getElem? (i:=6) rfl),sent12 hL (List.mem_of_getElem? (i:=7) rfl),sent13 hL (List.mem_of_getElem? (i:=10) rfl),sent14 hL (List.mem_of_getElem? (i:=11) rfl),sent15 hL (List.mem_of_getElem? (i:=12) rfl),sent16 hL (List.mem_of_getElem? (i:=13) rfl),sent17 hL (List.mem_of_getElem? (i:=14) rfl),sent18 hL (List.mem_of_getElem? (i:=15) rfl),sent19 hL (List.mem_of_getElem? (i:=16) rfl),sent20 hL (List.mem_of_getElem? (i:=17) rfl),sent21 hL (List.mem_of_getElem? (i:=18) rfl),sent22 hL (List.mem_of_getElem? (i:=19) rfl),sent23 hL (List.mem_of_getElem? (i:=22) rfl),sent24 hL (List.mem_of_getElem? (i:=23) rfl),sent25 hL (List.mem_of_getElem? (i:=24) rfl)⟩
 have hW':=hW
 obtain ⟨p,q,hA0,hV,rfl,hfz,hnd⟩:=hW
 have hA:DataW.TrodAll enc Tryz.prog W 0 (fun _=>true) true Tryz.f3.params.toList args.toList ds p:=hA0
 have hval:∀ (j:Nat) t v,Tryz.f3.params[j]?=some t→args[j]?=some v→Value.okWide Tryz.prog W .any base t v:=hval0
 rw [Tryz.params3] at hA hval
 obtain ⟨v0,vs0,d0,ds0,p0,q0,hargs,rfl,rfl,h0,r0⟩:=trodAll_cons hA
 obtain ⟨v1,vs1,d1,ds1,p1,q1,rfl,rfl,rfl,h1,r1⟩:=trodAll_cons r0
 obtain ⟨v2,vs2,d2,ds2,p2,q2,rfl,rfl,rfl,h2,r2⟩:=trodAll_cons r1
 obtain ⟨v3,vs3,d3,ds3,p3,q3,rfl,rfl,rfl,h3,r3⟩:=trodAll_cons r2
 obtain ⟨v4,vs4,d4,ds4,p4,q4,rfl,rfl,rfl,h4,r4⟩:=trodAll_cons r3
 obtain ⟨rfl,rfl,rfl⟩:=trodAll_nil r4
 obtain rfl:args=#[v0,v1,v2,v3,v4]:=by cases args;simp_all
 obtain ⟨rfl,rfl⟩:=trodVars_none hV
 obtain ⟨x0,w0⟩:=at_slice Tryz.underlying22 (hval 0 22 v0 rfl rfl) rd22 h0
 obtain ⟨c1,rfl,x1,rfl,w1⟩:=at_agg (agg_struct Tryz.underlying27 (hval 1 27 v1 rfl rfl)) rd27 h1
 obtain ⟨x2,rfl,_,_,w2⟩:=open_int Tryz.underlying3 (hval 2 3 v2 rfl rfl) h2
 obtain ⟨x3,rfl,_,_,w3⟩:=open_int Tryz.underlying3 (hval 3 3 v3 rfl rfl) h3
 obtain ⟨x4,rfl,_,_,w4⟩:=open_int Tryz.underlying3 (hval 4 3 v4 rfl rfl) h4
 have hμ:Agr (mem W) W:=agr_mem W
 have hm:=q11_TreePlays.m (mem W) x0 v0 w0 x1 w1 x2 (wf_in w2) x3 (wf_in w3) x4 (wf_in w4)
 refine (q11_TreePlays.c (mem W) W hμ x0 v0 w0 x1 w1 x2 (wf_in w2) x3 (wf_in w3) x4 (wf_in w4) hG true hm).mono fun e W' ⟨v,he,hv,_,hI⟩=>?_
 subst hv
 subst he
 have bel:Below W.heap.size W W':=hI.below
 exact ⟨_,rfl,_,_,_,[],_,[],hW',trodAll_mk1 (shut_bool Tryz.underlying4 _),(trodAll_cons_mk (again laid rr22 tr22 h0 bel) (trodAll_cons_mk (again laid rr27 tr27 h1 bel) (trodAll_cons_mk (again laid rr3 tr3 h2 bel) (trodAll_cons_mk (again laid rr3 tr3 h3 bel) (trodAll_cons_mk (again laid rr3 tr3 h4 bel) trodAll_mk0))))),rfl,bel.frame _,fun h=>by cases h⟩
theorem closed:joinedFacts Tryz.prog 3 Tryz.f3 Rows.treePlaysSpec Rows.treePlaysRow=true:=by
 unfold joinedFacts
 rw [J.may,J.lifts,J.make]
 kernel_rfl
theorem over:Rows.treePlaysRow.holds Tryz.pinned (OpenSpec.ofChange Rows.treePlaysSpec) :=
 OpenClaim.holds_of_wide 3 Tryz.f3 rfl rfl rfl rfl rfl rfl rfl ⟨rfl,rfl,rfl,rfl,rfl⟩ rfl rfl rfl rfl rfl (by kernel_rfl) Tryz.func3 closed
  (of_decide_eq_true (by kernel_rfl)) (by unfold Func.isWrapper;first | (rw [if_pos (by decide +kernel)];kernel_rfl) | (rw [if_neg (by decide +kernel)];exact ⟨rfl,rfl⟩))
  (fun os started H enc _=>lifted os started H enc)
theorem card:Rows.TreePlaysCardSaid :=
 Claim7.holds_tied_plain_at .later [] [.sentinel, .sentinel, .sentinel, .sentinel, .sentinel, .sentinel, .sentinel, .sentinel, .sentinel, .sentinel, .sentinel, .sentinel, .sentinel, .sentinel, .sentinel, .sentinel, .sentinel, .sentinel, .sentinel, .sentinel, .sentinel, .sentinel, .sentinel, .sentinel, .sentinel] true (true, "906d09e01b9eb073f24af99c00ecbe9e96b03eece35020af151b8f12061db2e7") true
  over (fun _ h=>by cases h) (by kernel_rfl) (fun _ h=>by cases h) treePlays_row_tie rfl ⟨rfl,rfl⟩ (J.mainIs.trans (congrArg (fun s=>some (true,s)) (by kernel_rfl))) rfl
  (fun f fn hf hfn=>by
   obtain rfl : f = 3 := Option.some.inj ((show Tryz.prog.funcNamed "sargasso/sargassolaw11.TreePlays" = some 3 by kernel_rfl).symm.trans hf) |>.symm
   obtain rfl:fn=Tryz.f3:=(Option.some.inj (Tryz.func3.symm.trans hfn)).symm
   exact ⟨by kernel_rfl,fun j t ht=>by
    rw [Tryz.params3] at ht
    rcases j with _ | _ | _ | _ | _ | j
    ·obtain rfl:(22:TypeId)=t:=by simpa using ht
     exact (show Tryz.prog.wantsStandIn 22=false by kernel_rfl)
    ·obtain rfl:(27:TypeId)=t:=by simpa using ht
     exact (show Tryz.prog.wantsStandIn 27=false by kernel_rfl)
    ·obtain rfl:(3:TypeId)=t:=by simpa using ht
     exact (show Tryz.prog.wantsStandIn 3=false by kernel_rfl)
    ·obtain rfl:(3:TypeId)=t:=by simpa using ht
     exact (show Tryz.prog.wantsStandIn 3=false by kernel_rfl)
    ·obtain rfl:(3:TypeId)=t:=by simpa using ht
     exact (show Tryz.prog.wantsStandIn 3=false by kernel_rfl)
    ·simp at ht⟩)
  (by kernel_rfl)
end Go.Proofs.YtdngkgkkblfcjaaGreatDoor.zTreePlays
namespace Go.Proofs.YtdngkgkkblfcjaaGreatDoor
theorem treePlays_holds:Rows.TreePlaysCardSaid:=zTreePlays.card
#print axioms treePlays_holds
end Go.Proofs.YtdngkgkkblfcjaaGreatDoor
