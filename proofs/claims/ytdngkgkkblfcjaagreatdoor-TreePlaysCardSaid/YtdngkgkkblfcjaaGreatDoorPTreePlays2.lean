/- Proved: the statement TreePlays, as given (its conditions are those of the given row, and card where there is one; no others): the call ends, with true, and the input reads as it did. This file is one of its parts. -/
import Derived.Test.YtdngkgkkblfcjaaGreatDoorPTreePlays1
import Derived.Shelf.SlSortCmp.NoneTotal
import Derived.LaidEql
import Derived.Test.YtdngkgkkblfcjaaGreatDoorProg
namespace Go.Proofs.YtdngkgkkblfcjaaGreatDoor.K
open Go Go.Shelf Go.Sort
set_option linter.unusedVariables false
set_option linter.unusedSectionVars false
theorem ci_neg:∀ a b:List Int,cmpI b a=- cmpI a b
 | [],[]=>rfl
 | [],_::_=>rfl
 | _::_,[]=>rfl
 | x::a,y::b=>by
  simp only [cmpI]
  by_cases h:x < y
  ·rw [if_pos h,if_neg (by omega),if_pos h];rfl
  ·by_cases h2:y < x
   ·rw [if_pos h2,if_neg h,if_pos h2]
   ·rw [if_neg h2,if_neg h,if_neg h,if_neg h2,ci_neg a b]
theorem ci_zero:∀ a b:List Int,cmpI a b=0→a=b
 | [],[],_=>rfl
 | [],_::_,h=>by simp [cmpI] at h
 | _::_,[],h=>by simp [cmpI] at h
 | x::a,y::b,h=>by
  simp only [cmpI] at h
  by_cases h1:x < y
  ·rw [if_pos h1] at h;omega
  ·rw [if_neg h1] at h
   by_cases h2:y < x
   ·rw [if_pos h2] at h;omega
   ·rw [if_neg h2] at h
    rw [ci_zero a b h,show x=y by omega]
theorem ci_trans:∀ a b c:List Int,cmpI a b < 0→cmpI b c < 0→cmpI a c < 0
 | [],[],_,h,_=>by simp [cmpI] at h
 | _,_::_,[],_,h=>by simp [cmpI] at h
 | [],_::_,_::_,_,_=>by simp [cmpI]
 | _::_,[],_,h,_=>by simp [cmpI] at h
 | x::a,y::b,z::c,h1,h2=>by
  simp only [cmpI] at h1 h2 ⊢
  by_cases p1:x < y
  ·by_cases p2:y < z
   ·rw [if_pos (by omega)];omega
   ·rw [if_neg p2] at h2
    by_cases p3:z < y
    ·rw [if_pos p3] at h2;omega
    ·rw [if_pos (by omega)];omega
  ·rw [if_neg p1] at h1
   by_cases q1:y < x
   ·rw [if_pos q1] at h1;omega
   ·rw [if_neg q1] at h1
    by_cases p2:y < z
    ·rw [if_pos (by omega)];omega
    ·rw [if_neg p2] at h2
     by_cases p3:z < y
     ·rw [if_pos p3] at h2;omega
     ·rw [if_neg p3] at h2
      rw [if_neg (by omega),if_neg (by omega)]
      exact ci_trans a b c h1 h2
section
variable {α:Type} [Inhabited α] {enc:α→List Value} {k:Nat}
theorem flat_get (hk:∀ x,(enc x).length=k):∀ (l:List α) (t:Nat),t < l.length * k→(l.flatMap enc)[t]?=some ((enc (l.getD (t / k) default))[t % k]!)
 | [],t,h=>by simp at h
 | x::l,t,h=>by
  rw [List.flatMap_cons]
  rcases Nat.lt_or_ge t k with h1 | h1
  ·rw [List.getElem?_append_left (by rw [hk];exact h1),Nat.div_eq_of_lt h1,Nat.mod_eq_of_lt h1]
   have:t < (enc x).length:=by rw [hk];exact h1
   simp [this]
  ·have h2:t - k < l.length * k:=by
    simp only [List.length_cons,Nat.add_mul,Nat.one_mul] at h
    omega
   have hk0:0 < k:=by
    rcases Nat.eq_zero_or_pos k with e | e
    ·subst e;simp at h2
    ·exact e
   rw [List.getElem?_append_right (by rw [hk];exact h1),hk,flat_get hk l (t - k) h2]
   have e1:t / k=(t - k) / k+1:=by
    rw [← Nat.add_div_right (t - k) hk0]
    congr 1
    omega
   have e2:t % k=(t - k) % k:=by rw [Nat.mod_eq_sub_mod h1]
   rw [e1,e2]
   rfl
theorem flat_len (hk:∀ x,(enc x).length=k)(l:List α):(l.flatMap enc).length=l.length * k:=by
 induction l with
 | nil=>simp
 | cons x l ih=>rw [List.flatMap_cons,List.length_append,hk,ih,List.length_cons,Nat.add_mul,Nat.one_mul,Nat.add_comm]
theorem flatK_list (hk:∀ x,(enc x).length=k)(d:Array α):(flatK enc k d).toList=d.toList.flatMap enc:=by
 apply List.ext_getElem?
 intro t
 rcases Nat.lt_or_ge t (d.size * k) with h | h
 ·rw [flat_get hk d.toList t (by simpa using h)]
  have h1:=get_flatK enc k d t h
  have h2:t < (flatK enc k d).size:=by rw [size_flatK];exact h
  rw [getElem!_pos _ t h2] at h1
  rw [Array.getElem?_toList,Array.getElem?_eq_getElem h2,h1]
  congr 3
  have h3:t / k < d.size:=by
   have hk0:0 < k:=by
    rcases Nat.eq_zero_or_pos k with e | e
    ·subst e;simp at h
    ·exact e
   exact (Nat.div_lt_iff_lt_mul hk0).2 h
  rw [getElem!_pos d _ h3]
  simp [List.getD,h3]
 ·rw [List.getElem?_eq_none (by rw [Array.length_toList,size_flatK];exact h),List.getElem?_eq_none (by rw [flat_len hk];simpa using h)]
variable {μ:Store} {w0:World} {e:TypeId} {g cap:Nat} {cur:Array Value} {d d':Array α}
theorem holds_row (hk:∀ x,(enc x).length=k)(hg:w0.heap[g]?=some (.cells cur e (0,0)))(hc:cur.toList.take (d.size * k)=d.toList.flatMap enc):HoldsK enc k w0 g 0 d:=by
 intro j hj
 rw [size_flatK] at hj
 have h1:(d.toList.flatMap enc)[j]?=some (flatK enc k d)[j]!:=by
  rw [← flatK_list hk]
  have h2:j < (flatK enc k d).size:=by rw [size_flatK];exact hj
  rw [getElem!_pos _ j h2,Array.getElem?_toList,Array.getElem?_eq_getElem h2]
 rw [← hc,List.getElem?_take,if_pos hj,Array.getElem?_toList] at h1
 constructor
 ·simp [World.cell?,hg,h1]
 ·simp [World.frozen?,hg]
theorem row_sorted (hμ:Agr μ w0)(hk:∀ x,(enc x).length=k)(hg:w0.heap[g]?=some (.cells cur e (0,0)))(hn:d.size≤cap)(hcm:cap≤maxLen)(hcs:cur.size=cap * k)(hd:d'.size=d.size)(hgs:g < w0.heap.size)(hmu:μ g=none)(m:Nat)(os:Array Obj)(cs:List Value)(nn:Nat)(hnn:nn=d.size) :
  Iv w0 (row e k (.slice (some ⟨g,0,none⟩) nn cap) nn cs).foot μ μ [row e k (.slice (some ⟨g,0,none⟩) nn cap) nn (d'.toList.flatMap enc)] (sortWorldK enc k w0 g 0 m d' os):=by
 subst hnn
 have hdk:d.size * k≤cap * k:=Nat.mul_le_mul_right _ hn
 have hheap:∀ j,j≠g→j < w0.heap.size→(sortWorldK enc k w0 g 0 m d' os).heap[j]?=w0.heap[j]?:=fun j hj hjs=>by
  show (((putRow id (Go.Sort.ahead w0 m) g 0 (flatK enc k d')).heap)++os)[j]?=_
  rw [Array.getElem?_append_left (by show j < (w0.heap.modify g _).size;simpa using hjs)]
  show (w0.heap.modify g _)[j]?=_
  rw [Array.getElem?_modify,if_neg (fun e=>hj e.symm)]
 have hself:(sortWorldK enc k w0 g 0 m d' os).heap[g]?=some (.cells (putCells id 0 (flatK enc k d') cur) e (0,0)):=by
  show (((putRow id (Go.Sort.ahead w0 m) g 0 (flatK enc k d')).heap)++os)[g]?=_
  rw [Array.getElem?_append_left (by show g < (w0.heap.modify g _).size;simpa using hgs)]
  show (w0.heap.modify g _)[g]?=_
  rw [Array.getElem?_modify,if_pos rfl,hg]
  rfl
 have hsize:(sortWorldK enc k w0 g 0 m d' os).heap.size=w0.heap.size+os.size:=by
  show ((w0.heap.modify g _)++os).size=_
  simp
 have hfoot:∀ cs,(row e k (.slice (some ⟨g,0,none⟩) d.size cap) d.size cs).foot=[g]:=fun cs=>rfl
 refine ⟨rfl,rfl,rfl,by rw [hsize];omega,fun j hj hm=>hheap j (fun e=>hm (by rw [hfoot,e];simp)) hj,Store.le.refl _,fun j o ho=>?_,fun j o ho=>.inl ho,by simp [hfoot],fun i hi=>?_⟩
 ·have hj:=hμ j o ho
  rw [hheap j (fun e=>by rw [e,hmu] at ho;cases ho) (Array.getElem?_eq_some_iff.1 hj).1]
  exact hj
 ·obtain rfl:=List.mem_singleton.1 hi
  refine ⟨⟨by rw [flat_len hk,Array.length_toList,hd],.inr ⟨g,cap,_,rfl,Nat.zero_le _,hself,hn,hcm,by simp [putCells,hcs],?_⟩⟩,fun x hx=>?_⟩
  ·rw [← flatK_list hk]
   apply List.ext_getElem?
   intro t
   rw [List.getElem?_take]
   by_cases ht:t < d.size * k
   ·rw [if_pos ht,Array.getElem?_toList,Array.getElem?_toList]
    have h1:t < cur.size:=by rw [hcs];omega
    have h2:t < (flatK enc k d').size:=by rw [size_flatK,hd];exact ht
    simp only [putCells,Array.getElem?_mapIdx,Array.getElem?_eq_getElem h1,Option.map_some,Nat.zero_le,true_and,Nat.zero_add,Nat.sub_zero]
    rw [if_pos h2,Array.getElem?_eq_getElem h2,getElem!_pos _ t h2]
    rfl
   ·rw [if_neg ht,List.getElem?_eq_none (by rw [Array.length_toList,size_flatK,hd];omega)]
  ·rw [hfoot] at hx
   obtain rfl:=List.mem_singleton.1 hx
   exact ⟨by rw [hsize];omega,hmu,.inr (by rw [hfoot];simp)⟩
end
abbrev H32:={x:List Int // Arr .u8 32 x}
instance:Inhabited H32:=⟨⟨List.replicate 32 0,arr_zero _ _⟩⟩
def henc (x:H32):List Value:=av .u8 32 x.1
def hcf (x y:H32):Int:=cmpI x.1 y.1
def hle (x y:List Int):Bool:=!decide (cmpI y x < 0)
def hsort (l:List (List Int)):List (List Int):=l.mergeSort hle
theorem henc_len (x:H32):(henc x).length=32:=av_len _ _ _
theorem hcf_swo:SWO (ltOf hcf) where
 irrefl x:=by
  have:cmpI x.1 x.1=0:=by have:=ci_neg x.1 x.1;omega
  simp [ltOf,hcf,this]
 trans x y z h1 h2:=by
  exact decide_eq_true (ci_trans _ _ _ (of_decide_eq_true h1) (of_decide_eq_true h2))
 ntrans x y z h1 h2:=by
  have h1:=of_decide_eq_false h1
  have h2:=of_decide_eq_false h2
  refine decide_eq_false fun h3=>?_
  simp only [hcf] at h1 h2 h3
  have a:=ci_neg x.1 y.1
  have b:=ci_neg y.1 z.1
  rcases Int.lt_trichotomy (cmpI y.1 x.1) 0 with c | c | c
  ·have:=ci_trans _ _ _ c h3;omega
  ·rw [ci_zero _ _ c] at h2;omega
  ·omega
theorem hcf_total (x y:H32)(h1:ltOf hcf x y=false)(h2:ltOf hcf y x=false):x=y:=by
 have h1:=of_decide_eq_false h1
 have h2:=of_decide_eq_false h2
 simp only [hcf] at h1 h2
 have a:=ci_neg x.1 y.1
 exact Subtype.ext (ci_zero _ _ (by omega))
theorem els_h32:∀ {xs:List (List Int)} {cs:List Value},Els (RA .u8 32) 32 xs cs→∃ d:List H32,d.map (·.1)=xs∧cs=d.flatMap henc
 | _,_,.nil=>⟨[],rfl,rfl⟩
 | _,_,.cons (x:=x) ha hl h=>by
  obtain ⟨d,h1,h2⟩:=els_h32 h
  exact ⟨⟨x,ha.2⟩::d,by simp [h1],by
   have h3:=ha.1
   rw [List.flatMap_cons,← h2]
   congr 1
   first | done | (rw [h3];simp [henc])⟩
theorem h32_els:∀ (d:List H32),Els (RA .u8 32) 32 (d.map (·.1)) (d.flatMap henc)
 | []=>.nil
 | x::d=>by
  rw [List.flatMap_cons,List.map_cons]
  exact .cons ⟨by simp [henc],x.2⟩ (henc_len x) (h32_els d)
theorem hsort_map (d:List H32):(d.mergeSort fun x y=>!ltOf hcf y x).map (·.1)=hsort (d.map (·.1)):=by
 unfold hsort
 exact List.map_mergeSort fun a _ b _=>rfl
theorem sort_hash {P:Program}{ρ:Ren}(L:SlLaysF0.n6 P ρ)(aE:∀ w,(isAgg (ρ.t 24)).run P w=.ok true w)(zE:∀ w,(Go.sizeOf (ρ.t 24)).run P w=.ok 32 w)(g:Nat)(eg:∀ args w,(callFunc g args).run P w=.ok (.enter g args) w)
  (hC:∀ (x y:H32) (W:World),Calls P g #[.agg (henc x).toArray,.agg (henc y).toArray] W fun e w'=>e=.returned (.int .i64 (hcf x y))∧∃ q os',w'=grow (W.drewN q) os')
  {e:TypeId} {μ:Store} {w0:World} (hμ:Agr μ w0) {x0:List (List Int)} {u0:Value} {k0:List Value} (hx0:Els (RA .u8 32) 32 x0 k0) (ho0:RowOK μ w0 e 32 u0 x0.length k0) (hl:x0.length≤4398046511104) :
  Calls P (ρ.f 6) #[u0,.func (.func g) #[] #[]] w0 fun e' w'=>∃ v,e'=.returned v∧∃(c0:List Value),v=.tuple #[]∧Els (RA .u8 32) 32 (hsort x0) c0∧Iv w0 (row e 32 u0 x0.length k0).foot μ μ [row e 32 u0 (hsort x0).length c0] w':=by
 obtain ⟨d,rfl,rfl⟩:=els_h32 hx0
 have hlen:(hsort (d.map (·.1))).length=(d.map (·.1)).length:=by simp [hsort]
 rcases ho0.1.2 with ⟨rfl,hn⟩ | ⟨b,cap,cur,rfl,_,hg,hn,hcm,hcs,htk⟩
 ·obtain rfl:d=[]:=by simpa using hn
  refine (AnyF.slices_SortFunc_none L none 0 _ w0).mono fun e' w' h=>?_
  obtain ⟨rfl,rfl⟩:=h
  exact ⟨_,rfl,[],rfl,by simpa [hsort] using Els.nil,by simpa [hsort] using ho0.start hμ⟩
 ·have hb:=ho0.2.2 b (by simp [row,Value.ownBlock])
  have hz:d.toArray.size=d.length:=by simp
  have hh:HoldsK henc 32 w0 b 0 d.toArray:=holds_row henc_len hg (by simpa using htk)
  have:=AnyQ.slices_SortFunc_total L 32 aE zE henc henc_len (fun x=>one_av _ _ _) hcf hcf_swo g #[] b 0 cap d.toArray w0 eg (fun m os dk hs x y=>by simpa using hC x y _) hh hb.1 (by simp at hl ⊢;omega) hcf_total
  rw [hz] at this
  have e1:(d.map (·.1)).length=d.length:=by simp
  rw [e1]
  refine this.mono fun e' w' h=>?_
  obtain ⟨rfl,m,os,rfl⟩:=h
  refine ⟨_,rfl,(d.mergeSort fun x y=>!ltOf hcf y x).flatMap henc,rfl,?_,?_⟩
  ·rw [← hsort_map];exact h32_els _
  ·rw [hlen,e1]
   exact row_sorted (d:=d.toArray) (d':=(d.mergeSort fun x y=>!ltOf hcf y x).toArray) hμ henc_len hg (by simpa using hn) hcm hcs (by simp) hb.1 hb.2 m os _ d.length (by simp)
def Gw (W0 w:World):Prop:=∃(q:Nat)(os:Array Obj),w=grow (W0.drewN q) os
theorem Gw.refl (w:World):Gw w w:=⟨0,#[],by rw [grow_empty];rfl⟩
theorem Gw.alloc {W0 w:World}(h:Gw W0 w)(o:Obj):Gw W0 (w.alloc o):=by
 obtain ⟨q,os,rfl⟩:=h
 exact ⟨q,os++#[o],by rw [alloc_eq_grow,grow_grow]⟩
theorem Gw.drew1 {W0 w:World}(h:Gw W0 w):Gw W0 { w with drawn:=w.drawn+1 }:=by
 obtain ⟨q,os,rfl⟩:=h
 exact ⟨q+1,os,rfl⟩
section
variable {P:Program} {N R:AW} {E:List (Nat×AW)} {Q:Exit→AW} {ops:Array Oper} {rest:List Oper} {W0:World} {md:List Nat} {μ0 μ:Store} {its:List It} {w:World} {a:Act} {n:Nat} {L:List (Nat×Value)} {d:Nat} {ty T:TypeId} {pos:String} {aft:Array Edge} {x:Operand} {v:Value}
theorem o_boxG (chs:List (List Value))(hI:Iv W0 md μ0 μ its w)(hG:Gw W0 w)(hA:Fr a n L)(hx:ov L x=some v)(hc:v.cells=chs.flatten.toArray)(hd:Nat.ble (d+1) n=true)
  (k:∀ g a w,Fr a n ((d,.pointer (some ⟨g,0,none⟩))::L)→Iv W0 md μ0 μ (cel g chs T::its) w→Gw W0 w→wpList P ops Q rest a w):wpList P ops Q (⟨some d,.box T x,ty,pos,aft,none⟩::rest) a w:=by
 have hr:(execOp a.eval ⟨some d,.box T x,ty,pos,aft,none⟩).run P w=.ok (.value (.pointer (some ⟨w.heap.size,0,none⟩))) (w.alloc (.cells chs.flatten.toArray T)):=by
  simp [execOp,hA.ev hx,Instr.box,newVar,newRow,newObj,hc,Sem.run]
 exact wpl_val hr (k _ _ _ (hA.put hd _) (hI.alloc _ _ rfl (by show _=_;rw [heap_alloc_new])) (hG.alloc _))
theorem w_drawG {id:Nat}{l:List Oper}(hm:P.follows .mixedOrders=true)(hB:Region.lexB .any l.toArray=true)(hI:Iv W0 md μ0 μ its w)(hG:Gw W0 w)
  (h:wpQuiet P l.toArray (fun w=>Iv W0 md μ0 μ its w∧Gw W0 w) (fun a=>∀ w,Iv W0 md μ0 μ its w∧Gw W0 w→N a w) l a):(Code.region id l.toArray true).wp P (PQ N E R) a w :=
 wp_region_quiet (C:=fun w=>Iv W0 md μ0 μ its w∧Gw W0 w) hm hB ⟨hI.drew1,hG.drew1⟩ h
end
end Go.Proofs.YtdngkgkkblfcjaaGreatDoor.K
namespace Go.Proofs.YtdngkgkkblfcjaaGreatDoor.K
open Go
set_option linter.unusedVariables false
set_option linter.unusedSectionVars false
abbrev NG:=Nat×Value×List Value
def pvn {K:Type}(gs:K→NG):Option K→Value
 | none=>.pointer none
 | some k=>.pointer (some ⟨(gs k).1,0,none⟩)
def kl {K N:Type}(m:List (K×N)):List (K×Option K):=m.map fun p=>(p.1,some p.1)
def gup {K:Type}[DecidableEq K](gs:K→NG)(k:K)(u:NG):K→NG:=fun x=>if x=k then u else gs x
section
variable {K N:Type} (NC:N→Value→List (List Value)) (T e sz:Nat) (ln:N→Nat)
def nodI (gs:K→NG)(p:K×N):List It:=[cel (gs p.1).1 (NC p.2 (gs p.1).2.1) T,row e sz (gs p.1).2.1 (ln p.2) (gs p.1).2.2]
def ndI (kv:K→Value)(g:Nat)(m:List (K×N))(gs:K→NG):It:=many (mpI g (ent kv (pvn gs) (kl m))::m.flatMap (nodI NC T e sz ln gs))
def ndR [DecidableEq K](kv:K→Value)(g:Nat)(m:List (K×N))(gs:K→NG)(k:K):It:=many (mpI g (ent kv (pvn gs) (kl m))::(m.filter fun p=>decide (p.1≠k)).flatMap (nodI NC T e sz ln gs))
end
section
variable {W0:World} {md:List Nat} {μ0 μ μ':Store} {its its1 its2:List It} {w:World}
theorem Iv.perm (h:Iv W0 md μ0 μ its w)(hp:its.Perm its2):Iv W0 md μ0 μ its2 w :=
 ⟨h.os,h.tape,h.out,h.size,h.frame,h.le,h.agr,h.fresh,(hp.flatMap_right _).nodup_iff.1 h.nodup,fun i hi=>h.own i (hp.mem_iff.2 hi)⟩
variable {K N:Type} [DecidableEq K] {kv:K→Value} {g:Nat} {m:List (K×N)} {gs:K→NG} {k:K} {n n':N} {NC:N→Value→List (List Value)} {T e sz:Nat} {ln:N→Nat}
theorem mget_perm:∀ {m:List (K×N)},(m.map (·.1)).Nodup→mget m k=some n→m.Perm ((k,n)::m.filter fun p=>decide (p.1≠k))
 | [],_,h=>by simp [mget] at h
 | p::m,hn,h=>by
  simp only [List.map_cons,List.nodup_cons] at hn
  unfold mget at h
  split at h
  ·rename_i e1
   obtain ⟨p1,p2⟩:=p
   simp only at e1;subst e1
   cases h
   have:(m.filter fun q=>decide (q.1≠p1))=m:=List.filter_eq_self.2 fun q hq=>by
    have:q.1≠p1:=fun e=>hn.1 (List.mem_map.2 ⟨q,hq,e⟩)
    simpa using this
   rw [List.filter_cons_of_neg (by simp),this]
  ·rename_i e1
   rw [List.filter_cons_of_pos (by simpa using e1)]
   exact ((mget_perm hn.2 h).cons p).trans (List.Perm.swap ..)
theorem mput_filter:∀ {m:List (K×N)},((mput m k n).filter fun p=>decide (p.1≠k))=m.filter fun p=>decide (p.1≠k)
 | []=>by simp [mput]
 | p::m=>by
  unfold mput
  split
  ·rename_i e1;simp [e1]
  ·rename_i e1
   rw [List.filter_cons_of_pos (by simpa using e1),List.filter_cons_of_pos (by simpa using e1),mput_filter]
theorem mget_mput_self:∀ {m:List (K×N)},mget (mput m k n) k=some n
 | []=>by simp [mput,mget]
 | p::m=>by
  unfold mput
  split
  ·simp [mget]
  ·rename_i e1;simp [mget,e1,mget_mput_self]
theorem mput_map1:∀ {m:List (K×N)},mget m k=some n→(mput m k n').map (·.1)=m.map (·.1)
 | [],h=>by simp [mget] at h
 | p::m,h=>by
  unfold mget at h
  unfold mput
  split at h
  ·rename_i e1;simp [e1]
  ·rename_i e1;rw [if_neg e1];simp [mput_map1 h]
theorem kl_map {m m':List (K×N)}(h:m'.map (·.1)=m.map (·.1)):kl m'=kl m:=by
 have:∀ m:List (K×N),kl m=(m.map (·.1)).map fun k=>(k,some k):=fun m=>by simp [kl,List.map_map,Function.comp_def]
 rw [this,this,h]
theorem kl_mput:∀ {m:List (K×N)},kl (mput m k n)=mput (kl m) k (some k)
 | []=>by simp [kl,mput]
 | p::m=>by
  unfold mput
  simp only [kl,List.map_cons]
  split
  ·rfl
  ·rw [List.map_cons];exact congrArg _ kl_mput
theorem mget_kl:∀ {m:List (K×N)},mget (kl m) k=(mget m k).map fun _=>some k
 | []=>by simp [kl,mget]
 | p::m=>by
  simp only [kl,List.map_cons,mget]
  split
  ·rename_i e1;simp [e1]
  ·exact mget_kl
theorem mget_ne {m:List (K×N)}(h:mget m k=none):∀ p∈m,p.1≠k:=by
 induction m with
 | nil=>simp
 | cons p m ih =>
  unfold mget at h
  split at h
  ·cases h
  ·rename_i e1
   intro q hq
   rcases List.mem_cons.1 hq with rfl | hq
   ·exact e1
   ·exact ih h q hq
theorem mem_of_mget {m:List (K×N)}(h:mget m k=some n):(k,n)∈m:=by
 induction m with
 | nil=>simp [mget] at h
 | cons p m ih =>
  unfold mget at h
  split at h
  ·rename_i e1
   obtain ⟨p1,p2⟩:=p
   simp only at e1;subst e1
   cases h
   simp
  ·exact List.mem_cons_of_mem _ (ih h)
theorem nodI_gup {u:NG}{p:K×N}(h:p.1≠k):nodI NC T e sz ln (gup gs k u) p=nodI NC T e sz ln gs p:=by simp [nodI,gup,h]
theorem flat_gup {u:NG}{m:List (K×N)}:(m.filter fun p=>decide (p.1≠k)).flatMap (nodI NC T e sz ln (gup gs k u))=(m.filter fun p=>decide (p.1≠k)).flatMap (nodI NC T e sz ln gs):=by
 rw [List.flatMap_def,List.flatMap_def]
 congr 1
 exact List.map_congr_left fun p hp=>nodI_gup (by simpa using (List.mem_filter.1 hp).2)
theorem Iv.focus (h:Iv W0 md μ0 μ (ndI NC T e sz ln kv g m gs::its) w)(hn:(m.map (·.1)).Nodup)(hk:mget m k=some n) :
  Iv W0 md μ0 μ (cel (gs k).1 (NC n (gs k).2.1) T::row e sz (gs k).2.1 (ln n) (gs k).2.2::ndR NC T e sz ln kv g m gs k::its) w:=by
 have h1:=h.unpack
 have hp:(mpI g (ent kv (pvn gs) (kl m))::m.flatMap (nodI NC T e sz ln gs)++its).Perm ((mpI g (ent kv (pvn gs) (kl m))::(m.filter fun p=>decide (p.1≠k)).flatMap (nodI NC T e sz ln gs))++([cel (gs k).1 (NC n (gs k).2.1) T,row e sz (gs k).2.1 (ln n) (gs k).2.2]++its)):=by
  have h2:(m.flatMap (nodI NC T e sz ln gs)).Perm _:=(mget_perm hn hk).flatMap_right _
  rw [List.flatMap_cons] at h2
  have h3:=(h2.trans List.perm_append_comm).append_right its
  rw [List.append_assoc] at h3
  exact h3.cons _
 have h2:=(h1.perm hp).pack
 refine h2.perm ?_
 exact (List.perm_middle (l₁:=[cel (gs k).1 (NC n (gs k).2.1) T,row e sz (gs k).2.1 (ln n) (gs k).2.2])).symm
theorem Iv.unfocus {v:Value}{cs:List Value}(h:Iv W0 md μ0 μ (cel (gs k).1 (NC n' v) T::row e sz v (ln n') cs::ndR NC T e sz ln kv g m gs k::its) w)(hn:(m.map (·.1)).Nodup)(hk:mget m k=some n) :
  Iv W0 md μ0 μ (ndI NC T e sz ln kv g (mput m k n') (gup gs k ((gs k).1,v,cs))::its) w:=by
 have h1:=h.perm (List.perm_middle (l₁:=[cel (gs k).1 (NC n' v) T,row e sz v (ln n') cs]))
 have h2:=h1.unpack
 refine Iv.pack (h2.perm ?_)
 have hm:(mput m k n').map (·.1)=m.map (·.1):=mput_map1 hk
 have he:ent kv (pvn (gup gs k ((gs k).1,v,cs))) (kl (mput m k n'))=ent kv (pvn gs) (kl m):=by
  rw [kl_map hm]
  simp only [ent]
  refine List.map_congr_left fun p hp=>?_
  obtain ⟨q,hq,rfl⟩:=List.mem_map.1 hp
  simp only [pvn,gup]
  split
  ·rename_i e1;rw [e1]
  ·rfl
 rw [he]
 have h3:((mput m k n').flatMap (nodI NC T e sz ln (gup gs k ((gs k).1,v,cs)))).Perm _:=(mget_perm (by rw [hm];exact hn) (mget_mput_self (m:=m) (n:=n'))).flatMap_right _
 rw [List.flatMap_cons,mput_filter,flat_gup] at h3
 have e1:nodI NC T e sz ln (gup gs k ((gs k).1,v,cs)) (k,n')=[cel (gs k).1 (NC n' v) T,row e sz v (ln n') cs]:=by simp [nodI,gup]
 rw [e1] at h3
 have h4:=(h3.trans List.perm_append_comm).append_right its
 rw [List.append_assoc] at h4
 exact (h4.symm.cons _)
end
section
variable {K N:Type} {KW:K→Prop} {kv:K→Value} {P:Program} {NN RR:AW} {E:List (Nat×AW)} {Q:Exit→AW} {ops:Array Oper} {rest:List Oper} {W0:World} {md:List Nat} {μ0 μ:Store} {its:List It} {w:World} {a:Act} {n:Nat} {L:List (Nat×Value)} {dst:Option Nat} {ty t kt et:TypeId} {pos:String} {aft:Array Edge} {gd:Option (Nat×Bool)} {x y:Operand} {g:Nat} {m:List (K×N)} {gs:K→NG} {k:K} {nd:N} {d:Nat} {NC:N→Value→List (List Value)} {T e sz:Nat} {ln:N→Nat}
variable [DecidableEq K]
def KM (KW:K→Prop)(m:List (K×N)):Prop:=(∀ p∈m,KW p.1)∧(m.map (·.1)).Nodup
theorem KM.mw (h:KM KW m):MW KW (fun _:Option K=>True) (kl m):=by
 refine ⟨fun p hp=>?_,?_⟩
 ·obtain ⟨q,hq,rfl⟩:=List.mem_map.1 hp
  exact ⟨h.1 q hq,trivial⟩
 ·have:(kl m).map (·.1)=m.map (·.1):=by simp [kl,List.map_map,Function.comp_def]
  rw [this];exact h.2
theorem Iv.ndm (hI:Iv W0 md μ0 μ its w){j:Nat}(hj:its[j]?=some (ndI NC T e sz ln kv g m gs)):∃ its',Iv W0 md μ0 μ (mpI g (ent kv (pvn gs) (kl m))::its') w:=by
 have h1:=(hI.sl [j] (its':=[ndI NC T e sz ln kv g m gs]) (by simp [hj]) (by simp)).unpack (its2:=[])
 exact ⟨_,by simpa using h1⟩
def lkn (m:List (K×N))(k:K):Option K:=(mget m k).map fun _=>k
theorem lkn_eq:(mget (kl m) k).getD none=lkn m k:=by
 rw [mget_kl,lkn];cases mget m k <;> rfl
theorem r_nlook2 (Nk:KeyN P kt kv KW)(ht:P.underlying t=some (.map kt et))(hz:(P.info? et).map (·.zero)=some (some (.pointer none)))(hl:KM KW m)(hk:KW k){j:Nat}(hI:Iv W0 md μ0 μ its w)(hj:its[j]?=some (ndI NC T e sz ln kv g m gs))(hA:Fr a n L)(hx:ov L x=some (.map (some g)))(hy:ov L y=some (kv k)) :
  (execOp a.eval ⟨dst,.lookup t x y true,ty,pos,aft,gd⟩).run P w=.ok (.value (.tuple #[pvn gs (lkn m k),.bool (mget m k).isSome])) w:=by
 obtain ⟨its',hI'⟩:=hI.ndm hj
 have:=r_look2 (dst:=dst) (ty:=ty) (pos:=pos) (aft:=aft) (gd:=gd) (vv:=pvn gs) (z0:=none) Nk ht hz hl.mw hk (j:=0) hI' rfl hA hx hy
 rw [lkn_eq,mget_kl] at this
 rw [this]
 cases mget m k <;> rfl
theorem r_nlook (Nk:KeyN P kt kv KW)(ht:P.underlying t=some (.map kt et))(hz:(P.info? et).map (·.zero)=some (some (.pointer none)))(hl:KM KW m)(hk:KW k){j:Nat}(hI:Iv W0 md μ0 μ its w)(hj:its[j]?=some (ndI NC T e sz ln kv g m gs))(hA:Fr a n L)(hx:ov L x=some (.map (some g)))(hy:ov L y=some (kv k)) :
  (execOp a.eval ⟨dst,.lookup t x y false,ty,pos,aft,gd⟩).run P w=.ok (.value (pvn gs (lkn m k))) w:=by
 obtain ⟨its',hI'⟩:=hI.ndm hj
 have:=r_look (dst:=dst) (ty:=ty) (pos:=pos) (aft:=aft) (gd:=gd) (vv:=pvn gs) (z0:=none) Nk ht hz hl.mw hk (j:=0) hI' rfl hA hx hy
 rw [lkn_eq] at this
 exact this
theorem r_nlen (ht:P.underlying t=some (.map kt et)){j:Nat}(hI:Iv W0 md μ0 μ its w)(hj:its[j]?=some (ndI NC T e sz ln kv g m gs))(hA:Fr a n L)(hx:ov L x=some (.map (some g))) :
  (execOp a.eval ⟨dst,.call { callee:=.builtin .len,args:=#[x],argTypes:=#[t] },ty,pos,aft,gd⟩).run P w=.ok (.value (.int .i64 (m.length:Int))) w:=by
 obtain ⟨its',hI'⟩:=hI.ndm hj
 have:=r_mlen (dst:=dst) (ty:=ty) (pos:=pos) (aft:=aft) (gd:=gd) (vv:=pvn gs) (l:=kl m) ht (j:=0) hI' rfl hA hx
 simpa [kl] using this
def nget (m:List (K×N))(o:Option K):Option N:=o.bind (mget m)
theorem nget_some {o:Option K}(h:nget m o=some nd):∃ k,o=some k∧mget m k=some nd:=by
 cases o with
 | none=>simp [nget] at h
 | some k=>exact ⟨k,rfl,h⟩
theorem KM.put (h:KM KW m)(hk:KW k):KM KW (mput m k nd):=by
 have:=MW.put (VW:=fun _:N=>True) (v:=nd) (l:=m) (KW:=KW) ⟨fun p hp=>⟨h.1 p hp,trivial⟩,h.2⟩ hk trivial
 exact ⟨fun p hp=>(this.1 p hp).1,this.2⟩
theorem mget_mem:∀ {m:List (K×N)} {p:K×N},(m.map (·.1)).Nodup→p∈m→mget m p.1=some p.2
 | q::m,p,hn,h=>by
  simp only [List.map_cons,List.nodup_cons] at hn
  unfold mget
  rcases List.mem_cons.1 h with rfl | h
  ·simp
  ·rw [if_neg fun e=>hn.1 (List.mem_map.2 ⟨p,h,e.symm⟩)]
   exact mget_mem hn.2 h
theorem mem_mput {p:K×N}(hn:((mput m k nd).map (·.1)).Nodup)(h:p∈mput m k nd):p=(k,nd)∨(p∈m∧p.1≠k):=by
 by_cases e1:p.1=k
 ·have h1:=mget_mem hn h
  rw [e1,mget_mput_self] at h1
  obtain ⟨p1,p2⟩:=p
  simp only at e1;subst e1
  cases h1
  exact .inl rfl
 ·have h1:p∈(mput m k nd).filter fun p=>decide (p.1≠k):=List.mem_filter.2 ⟨h,by simpa using e1⟩
  rw [mput_filter] at h1
  exact .inr ⟨(List.mem_filter.1 h1).1,e1⟩
theorem gup_ne {u:NG}{k':K}(h:k'≠k):gup gs k u k'=gs k':=by simp [gup,h]
theorem mget_ne_of {k':K}{nd':N}(h:mget m k=none)(h':mget m k'=some nd'):k'≠k:=fun e=>by rw [e,h] at h';cases h'
theorem mget_mput_ne {k':K}(h:k'≠k):∀ {m:List (K×N)},mget (mput m k nd) k'=mget m k'
 | []=>by simp only [mput,mget];rw [if_neg fun e:k=k'=>h e.symm]
 | p::m=>by
  unfold mput
  split
  ·rename_i e1
   simp only [mget]
   rw [if_neg (fun e:k=k'=>h e.symm),if_neg (fun e:p.1=k'=>h (e.symm.trans e1))]
  ·simp only [mget,mget_mput_ne h]
def nput (m:List (K×N))(o:Option K)(n:N):List (K×N):=match o with
 | none=>m
 | some k=>mput m k n
def NdW (KW:K→Prop)(NW:N→List Value→Prop)(m:List (K×N))(gs:K→NG):Prop:=KM KW m∧∀ p∈m,NW p.2 (gs p.1).2.2
variable {NW NW':N→List Value→Prop}
theorem NdW.at (h:NdW KW NW m gs)(hk:mget m k=some nd):NW nd (gs k).2.2:=h.2 _ (mem_of_mget hk)
theorem NdW.kw (h:NdW KW NW m gs)(hk:mget m k=some nd):KW k:=h.1.1 _ (mem_of_mget hk)
theorem NdW.mono (h:NdW KW NW m gs)(hw:∀ n cs,NW n cs→NW' n cs):NdW KW NW' m gs:=⟨h.1,fun p hp=>hw _ _ (h.2 p hp)⟩
theorem NdW.put {u:NG}(h:NdW KW NW m gs)(hk:KW k)(hn:NW nd u.2.2):NdW KW NW (mput m k nd) (gup gs k u):=by
 refine ⟨h.1.put hk,fun p hp=>?_⟩
 rcases mem_mput (h.1.put (nd:=nd) hk).2 hp with rfl | ⟨h1,h2⟩
 ·simpa [gup] using hn
 ·rw [gup_ne h2];exact h.2 p h1
theorem NdW.nil:NdW KW NW ([]:List (K×N)) gs:=⟨⟨by simp,by simp⟩,by simp⟩
theorem r_nilcN {o:Option K}(ho:o=some k)(hA:Fr a n L)(hx:ov L x=some (pvn gs o)):(execOp a.eval ⟨dst,.nilCheck x,ty,pos,aft,gd⟩).run P w=.ok (.value (.pointer (some ⟨(gs k).1,0,none⟩))) w:=by
 subst ho;exact r_nilc hA hx
theorem o_mknd (kv:K→Value)(NC:N→Value→List (List Value))(T e sz:Nat)(ln:N→Nat)(hI:Iv W0 md μ0 μ its w)(hA:Fr a n L)(hd:Nat.ble (d+1) n=true)
  (k:∀ g a w,Iv W0 md μ0 μ (ndI NC T e sz ln kv g [] (fun _=>(0,.pointer none,[]))::its) w→Fr a n ((d,.map (some g))::L)→wpList P ops Q rest a w) :
  wpList P ops Q (⟨some d,.makeMap t none,ty,pos,aft,none⟩::rest) a w :=
 o_mkmap kv (pvn fun _=>(0,.pointer none,[])) hI hA hd fun g a w hI hA=>k g a w (Iv.pack (its1:=[_]) hI) hA
theorem run_nput {v:Value}{cs:List Value}(gn:Nat)(nd:N)(Nk:KeyN P kt kv KW)(ht:P.underlying t=some (.map kt et))(hl:KM KW m)(hk:KW k)(hno:mget m k=none)
  (hI:Iv W0 md μ0 μ (cel gn (NC nd v) T::row e sz v (ln nd) cs::ndI NC T e sz ln kv g m gs::its) w) :
  ∃ w',(Instr.mapUpdate t (.map (some g)) (kv k) (.pointer (some ⟨gn,0,none⟩))).run P w=.ok () w'∧Iv W0 md μ0 μ (ndI NC T e sz ln kv g (mput m k nd) (gup gs k (gn,v,cs))::its) w':=by
 have hne:=mget_ne hno
 have he:ent kv (pvn gs) (kl m)=ent kv (pvn (gup gs k (gn,v,cs))) (kl m):=by
  simp only [ent]
  refine List.map_congr_left fun p hp=>?_
  obtain ⟨q,hq,rfl⟩:=List.mem_map.1 hp
  simp [pvn,gup,hne q hq]
 have hfl:(m.filter fun p=>decide (p.1≠k))=m:=List.filter_eq_self.2 fun q hq=>by simpa using hne q hq
 have hf:m.flatMap (nodI NC T e sz ln gs)=m.flatMap (nodI NC T e sz ln (gup gs k (gn,v,cs))):=by
  have:=flat_gup (NC:=NC) (T:=T) (e:=e) (sz:=sz) (ln:=ln) (gs:=gs) (k:=k) (u:=(gn,v,cs)) (m:=m)
  rw [hfl] at this
  exact this.symm
 have h1:=(hI.perm (List.perm_middle (l₁:=[cel gn (NC nd v) T,row e sz v (ln nd) cs]))).unpack
 rw [he,hf] at h1
 obtain ⟨w',h2,h3⟩:=run_mput (v:=some k) (P:=P) (vv:=pvn (gup gs k (gn,v,cs))) Nk ht hl.mw hk (j:=0) h1 rfl
 refine ⟨w',by simpa [pvn,gup] using h2,?_⟩
 simp only [List.cons_append,List.set_cons_zero] at h3
 rw [← kl_mput (n:=nd)] at h3
 refine Iv.pack (h3.perm ?_)
 rw [mput_none hne,List.flatMap_append]
 have e1:[(k,nd)].flatMap (nodI NC T e sz ln (gup gs k (gn,v,cs)))=[cel gn (NC nd v) T,row e sz v (ln nd) cs]:=by simp [nodI,gup]
 rw [e1]
 simp
theorem o_nput {v:Value}{cs:List Value}(gn:Nat)(nd:N)(Nk:KeyN P kt kv KW)(ht:P.underlying t=some (.map kt et))(hl:KM KW m)(hk:KW k)(hno:mget m k=none)
  (hI:Iv W0 md μ0 μ (cel gn (NC nd v) T::row e sz v (ln nd) cs::ndI NC T e sz ln kv g m gs::its) w) {u:Operand} (hA:Fr a n L) (hx:ov L x=some (.map (some g))) (hy:ov L y=some (kv k)) (hu:ov L u=some (.pointer (some ⟨gn,0,none⟩)))
  (kk:∀ w,Iv W0 md μ0 μ (ndI NC T e sz ln kv g (mput m k nd) (gup gs k (gn,v,cs))::its) w→wpList P ops Q rest a w) :
  wpList P ops Q (⟨none,.mapUpdate t x y u,ty,pos,aft,none⟩::rest) a w:=by
 obtain ⟨w',h1,h2⟩:=run_nput (P:=P) gn nd Nk ht hl hk hno hI
 refine wpl_skip (w':=w') ?_ (by simpa [Act.put] using kk w' h2)
 simp [execOp,hA.ev hx,hA.ev hy,hA.ev hu,h1]
theorem o_nins {v:Value}{cs:List Value}(gn:Nat)(nd:N)(Nk:KeyN P kt kv KW)(ht:P.underlying t=some (.map kt et))(hl:KM KW m)(hk:KW k)(hno:mget m k=none)
  (hI:Iv W0 md μ0 μ (cel gn (NC nd v) T::row e sz v (ln nd) cs::ndI NC T e sz ln kv g m gs::its) w) {u:Operand} (hA:Fr a n L) (hx:ov L x=some (.map (some g))) (hy:ov L y=some (kv k)) (hu:ov L u=some (.pointer (some ⟨gn,0,none⟩)))
  (kk:∀ w,Iv W0 md μ0 μ (ndI NC T e sz ln kv g (mput m k nd) (gup gs k (gn,v,cs))::its) w→wpList P ops Q rest a w) :
  wpList P ops Q (⟨none,.insert t x y u,ty,pos,aft,none⟩::rest) a w:=by
 obtain ⟨w',h1,h2⟩:=run_nput (P:=P) gn nd Nk ht hl hk hno hI
 refine wpl_skip (w':=w') ?_ (by simpa [Act.put] using kk w' h2)
 simp [execOp,hA.ev hx,hA.ev hy,hA.ev hu,h1]
theorem r_field {fs:Array Field}{f:Field}{A:Array Value}{v:Value}{mm:Nat}(hu:P.underlying t=some (.struct fs))(hf:fs[mm]?=some f)(hX:∀ w,(part f.type A f.offset).run P w=.ok v w)(hA:Fr a n L)(hx:ov L x=some (.agg A)) :
  (execOp a.eval ⟨dst,.field t x mm,ty,pos,aft,gd⟩).run P w=.ok (.value v) w:=by
 simp [execOp,hA.ev hx,Instr.field,run_underlying hu,hf,asAgg,hX]
theorem Iv.unfocusB {b:Nat}{n0 n1:N}{v:Value}{cs:List Value}{o:Option K}(hb:(gs k).1=b)(ho:o=some k)(h:Iv W0 md μ0 μ (cel b (NC n1 v) T::row e sz v (ln n1) cs::ndR NC T e sz ln kv g m gs k::its) w)(hn:(m.map (·.1)).Nodup)(hk:mget m k=some n0) :
  Iv W0 md μ0 μ (ndI NC T e sz ln kv g (nput m o n1) (gup gs k (b,v,cs))::its) w:=by
 subst hb;subst ho;exact h.unfocus hn hk
theorem Iv.focusB {n0:N}{u:NG}(hb:gs k=u)(h:Iv W0 md μ0 μ (ndI NC T e sz ln kv g m gs::its) w)(hn:(m.map (·.1)).Nodup)(hk:mget m k=some n0) :
  Iv W0 md μ0 μ (cel u.1 (NC n0 u.2.1) T::row e sz u.2.1 (ln n0) u.2.2::ndR NC T e sz ln kv g m gs k::its) w:=by
 subst hb;exact h.focus hn hk
theorem NdW.nput {u:NG}{o:Option K}{n1:N}(ho:o=some k)(h:NdW KW NW m gs)(hk:KW k)(hn:NW n1 u.2.2):NdW KW NW (nput m o n1) (gup gs k u):=by
 subst ho;exact h.put hk hn
theorem NdW.atB {n0:N}{u:NG}(hb:gs k=u)(h:NdW KW NW m gs)(hk:mget m k=some n0):NW n0 u.2.2:=by
 subst hb;exact h.at hk
end
end Go.Proofs.YtdngkgkkblfcjaaGreatDoor.K
namespace Go.Proofs.YtdngkgkkblfcjaaGreatDoor.K
open Go Go.Proofs
set_option linter.unusedVariables false
inductive Er where
 | b (n:Nat)
 | pl (p:Int) (e:Er)
deriving DecidableEq,Inhabited
def Er.isP:Er→Bool
 | .pl _ _=>true
 | _=>false
def Er.pos:Er→Int
 | .pl p _=>p
 | _=>0
def Er.err:Er→Er
 | .pl _ e=>e
 | _=>.b 0
def Er.cmp:Er→Er→Bool
 | .b 0,.b 0=>false
 | .pl _ _,.pl _ _=>false
 | _,_=>true
def ErB (tp:TypeId)(code:ByteArray→Nat)(μ:Store)(v:Value)(x:Nat):Prop :=
 (x=0∧v=.nilIface)∨(x≠0∧μ.cell (x - 1) 0=some v∧∃(a:Addr)(s:ByteArray)(c:Array Value)(t:TypeId),v=.iface tp (.pointer (some a))∧μ a.block=some (.cells c t (0,0))∧code s=x∧∀ w:World,Agr μ w→w.cell? a=some (.string s))
def ErV (tp ta:TypeId)(code:ByteArray→Nat)(μ:Store):Er→Value→Prop
 | .b x,v=>ErB tp code μ v x
 | .pl p e,v=>∃(g:Nat)(u:Value),v=.iface ta (.pointer (some ⟨g,0,none⟩))∧At μ g 0 [[.int .i64 p],[u]].flatten∧InR .i64 p∧ErV tp ta code μ e u
section
variable {tp ta:TypeId} {code:ByteArray→Nat} {μ ν:Store} {v v':Value} {x y:Er} {i j:Nat}
theorem ErB.le (hl:μ.le ν)(h:ErB tp code μ v i):ErB tp code ν v i:=by
 rcases h with h | ⟨h0,h1,a,s,c,t,h2,h3,h4,h5⟩
 ·exact .inl h
 ·exact .inr ⟨h0,hl.cell h1,a,s,c,t,h2,hl _ _ h3,h4,fun w hw=>h5 w (fun k o e=>hw k o (hl k o e))⟩
theorem ErV.le (_:∀ (a b:Nat) (h:True),True)(hl:μ.le ν):∀ {x:Er} {v:Value},ErV tp ta code μ x v→ErV tp ta code ν x v
 | .b _,_,h=>ErB.le hl h
 | .pl _ _,_,⟨g,u,h1,h2,h3,h4⟩=>⟨g,u,h1,h2.le hl,h3,h4.le (fun _ _ h=>h) hl⟩
theorem erv_nil:ErV tp ta code μ (.b 0) .nilIface:=.inl ⟨rfl,rfl⟩
theorem ErB.one (h:ErB tp code μ v i):v.oneCell'=true:=by
 rcases h with ⟨_,rfl⟩ | ⟨_,_,a,s,c,t,rfl,_⟩ <;> rfl
theorem ErV.one:∀ {x:Er} {v:Value},ErV tp ta code μ x v→v.oneCell'=true
 | .b _,_,h=>ErB.one h
 | .pl _ _,_,⟨_,_,h1,_⟩=>by subst h1;rfl
theorem ErB.same (h:ErB tp code μ v i)(h':ErB tp code μ v' i):v=v':=by
 rcases h with ⟨e,rfl⟩ | ⟨e,h1,a,s,c,t,rfl,h3⟩
 ·rcases h' with ⟨_,rfl⟩ | ⟨e',_⟩
  ·rfl
  ·exact absurd e e'
 ·rcases h' with ⟨e',_⟩ | ⟨_,h1',_⟩
  ·exact absurd e' e
  ·exact Option.some.inj (h1.symm.trans h1')
theorem ErV.load {g:Nat}(h:ErV tp ta code μ (.b (g+1)) v):μ.cell g 0=some v:=by
 rcases (show ErB tp code μ v (g+1) from h) with ⟨e,_⟩ | ⟨_,h1,_⟩
 ·cases e
 ·exact h1
def aP (ta:TypeId):Value→Value
 | .iface t u=>if t=ta then u else .pointer none
 | _=>.pointer none
theorem ErV.isP (h:ErV tp ta code μ x v)(hp:x.isP=true):∃(g:Nat)(u:Value),aP ta v=.pointer (some ⟨g,0,none⟩)∧At μ g 0 [[.int .i64 x.pos],[u]].flatten∧InR .i64 x.pos∧ErV tp ta code μ x.err u:=by
 cases x with
 | b n=>cases hp
 | pl p e =>
  obtain ⟨g,u,rfl,h2,h3,h4⟩:=h
  exact ⟨g,u,by simp [aP],h2,h3,h4⟩
theorem ErV.low {l:List (Er×Value)}(hle:μ.le ν)(h:ErV tp ta code ν x v)(hx:x∈l.map (·.1))(hl:∀ p∈l,ErV tp ta code μ p.1 p.2∧p.1.isP=false):ErV tp ta code μ x v:=by
 obtain ⟨p,hp,rfl⟩:=List.mem_map.1 hx
 obtain ⟨h1,h2⟩:=hl p hp
 cases hq:p.1 with
 | pl _ _=>rw [hq] at h2;cases h2
 | b n =>
  rw [hq] at h h1
  have h3:ErB tp code ν p.2 n:=ErB.le hle h1
  rw [ErB.same (show ErB tp code ν v n from h) h3]
  exact h1
def RErV (tp ta:TypeId)(code:ByteArray→Nat)(μ:Store)(x:Er)(c:List Value):Prop:=∃ v:Value,c=[[v]].flatten∧ErV tp ta code μ x v
theorem RErV.le (hl:μ.le ν){c:List Value}(h:RErV tp ta code μ x c):RErV tp ta code ν x c:=let ⟨v,h0,h1⟩:=h;⟨v,h0,h1.le (fun _ _ h=>h) hl⟩
theorem RErV.ones:∀ (x:Er) (c:List Value),RErV tp ta code μ x c→∀ u∈c,u.oneCell'=true:=by
 rintro x c ⟨v,rfl,h⟩ u hu
 have:u=v:=by simpa using hu
 subst this
 exact h.one
structure ErF (P:Program) (ti tp ta:TypeId):Prop where
 ne:tp≠ta
 hi:∃ ms,P.underlying ti=some (.interface ms)
 hp:∃ te i j,P.underlying tp=some (.pointer te)∧P.info? tp=some i∧i.comparable=true∧P.info? te=some j∧j.size≠0
theorem ErF.of {P:Program}{ti tp te:TypeId}{ms:Array (String×TypeId)}(hi:P.underlying ti=some (.interface ms))(hp:P.underlying tp=some (.pointer te))(hc:(P.info? tp).map (·.comparable)=some true)(hs:(P.info? te).map (·.size)=some 1)(hn:tp≠ta):ErF P ti tp ta:=by
 obtain ⟨i,hi',hc'⟩:=Option.map_eq_some_iff.1 hc
 obtain ⟨j,hj,hs'⟩:=Option.map_eq_some_iff.1 hs
 exact ⟨hn,⟨ms,hi⟩,⟨te,i,j,hp,hi',hc',hj,by rw [hs'];decide⟩⟩
theorem eqIn_errB {P:Program}{ti:TypeId}{w:World}(F:ErF P ti tp ta)(hA:Agr μ w)(h:ErB tp code μ v i)(h':ErB tp code μ v' j):(Op.equalIn 10000 ti v v').run P w=.ok (decide (i=j)) w:=by
 obtain ⟨ms,hi⟩:=F.hi
 obtain ⟨te,q,r,hp,hif,hc,hj,hs⟩:=F.hp
 by_cases e:i=j
 ·subst e
  have:=h.same h'
  subst this
  rw [decide_eq_true rfl]
  rcases h with ⟨_,rfl⟩ | ⟨_,_,a,s,c,t,rfl,_⟩
  ·exact (show ∀ d:Nat,(Op.equalIn (d+1) ti .nilIface .nilIface).run P w=.ok true w from fun d=>by simp [Op.equalIn,run_underlying hi]) 9999
  ·exact run_equalIn_iface_ptr_same w 9998 a hi hp hif hc hj
 ·rw [decide_eq_false e]
  rcases h with ⟨e1,rfl⟩ | ⟨e1,_,a,s,c,t,rfl,hb,hco,hce⟩ <;> rcases h' with ⟨e2,rfl⟩ | ⟨e2,_,a',s',c',t',rfl,hb',hco',hce'⟩
  ·exact absurd (e1.trans e2.symm) e
  ·exact (show ∀ (d:Nat) (u:Value),(Op.equalIn (d+1) ti .nilIface (.iface tp u)).run P w=.ok false w from fun d u=>by simp [Op.equalIn,run_underlying hi]) 9999 _
  ·exact (show ∀ (d:Nat) (u:Value),(Op.equalIn (d+1) ti (.iface tp u) .nilIface).run P w=.ok false w from fun d u=>by simp [Op.equalIn,run_underlying hi]) 9999 _
  ·refine run_equalIn_iface_ptr_other w 9998 hi hp hif hc hj hs ?_ (hA _ _ hb) (hA _ _ hb')
   rintro rfl
   have:=(hce w hA).symm.trans (hce' w hA)
   simp only [Option.some.injEq,Value.string.injEq] at this
   subst this
   exact e (hco.symm.trans hco')
theorem eqIn_off {P:Program}{ti:TypeId}{w:World}(F:ErF P ti tp ta){u u':Value}{t t':TypeId}(hn:t≠t'):(Op.equalIn 10000 ti (.iface t u) (.iface t' u')).run P w=.ok false w:=by
 obtain ⟨ms,hi⟩:=F.hi
 exact (show ∀ d:Nat,(Op.equalIn (d+1) ti (.iface t u) (.iface t' u')).run P w=.ok false w from fun d=>by simp [Op.equalIn,run_underlying hi,hn]) 9999
theorem eqIn_nilL {P:Program}{ti:TypeId}{w:World}(F:ErF P ti tp ta){u:Value}{t:TypeId}:(Op.equalIn 10000 ti (.iface t u) .nilIface).run P w=.ok false w:=by
 obtain ⟨ms,hi⟩:=F.hi
 exact (show ∀ d:Nat,(Op.equalIn (d+1) ti (.iface t u) .nilIface).run P w=.ok false w from fun d=>by simp [Op.equalIn,run_underlying hi]) 9999
theorem eqIn_nilR {P:Program}{ti:TypeId}{w:World}(F:ErF P ti tp ta){u:Value}{t:TypeId}:(Op.equalIn 10000 ti .nilIface (.iface t u)).run P w=.ok false w:=by
 obtain ⟨ms,hi⟩:=F.hi
 exact (show ∀ d:Nat,(Op.equalIn (d+1) ti .nilIface (.iface t u)).run P w=.ok false w from fun d=>by simp [Op.equalIn,run_underlying hi]) 9999
def Er.fit (x y:Er):Bool:=!x.isP || !y.isP
theorem Er.fitR {n:Nat}:x.fit (Er.b n)=true:=by cases x <;> rfl
theorem eqIn_err {P:Program}{ti:TypeId}{w:World}(F:ErF P ti tp ta)(hA:Agr μ w)(hf:x.fit y=true)(h:ErV tp ta code μ x v)(h':ErV tp ta code μ y v'):(Op.equalIn 10000 ti v v').run P w=.ok (decide (x=y)) w:=by
 cases x with
 | b i =>
  cases y with
  | b j =>
   have:=eqIn_errB F hA (show ErB tp code μ v i from h) (show ErB tp code μ v' j from h')
   simpa using this
  | pl p e =>
   obtain ⟨g,u,rfl,_⟩:=h'
   rw [decide_eq_false (by simp)]
   rcases (show ErB tp code μ v i from h) with ⟨_,rfl⟩ | ⟨_,_,a,s,c,t,rfl,_⟩
   ·exact eqIn_nilR F
   ·exact eqIn_off F F.ne
 | pl p e =>
  cases y with
  | b j =>
   obtain ⟨g,u,rfl,_⟩:=h
   rw [decide_eq_false (by simp)]
   rcases (show ErB tp code μ v' j from h') with ⟨_,rfl⟩ | ⟨_,_,a,s,c,t,rfl,_⟩
   ·exact eqIn_nilL F
   ·exact eqIn_off F F.ne.symm
  | pl p' e'=>cases hf
end
section
variable {P:Program} {w:World} {a:Act} {n:Nat} {L:List (Nat×Value)} {dst:Option Nat} {ty t t' tp ta:TypeId} {pos:String} {aft:Array Edge} {gd:Option (Nat×Bool)} {x y:Operand} {code:ByteArray→Nat} {μ:Store} {v v':Value} {i j:Er}
def Lits (x y:Operand)(i j:Er):Prop:=((∃ c,x=.const c)∨∃ c,y=.const c)∧i.fit j=true∨i.cmp j=true
theorem Lits.fit (h:Lits x y i j):i.fit j=true:=by
 rcases h with h | h
 ·exact h.2
 ·cases i <;> cases j <;> first | rfl | cases h
theorem Lits.nil (h:Lits x y (.b 0) (.b 0)):(∃ c,x=.const c)∨∃ c,y=.const c:=by
 rcases h with h | h
 ·exact h.1
 ·cases h
theorem erv_form (h:ErV tp ta code μ i v):(i=.b 0∧v=.nilIface)∨∃ t u,v=.iface t u:=by
 cases i with
 | b n =>
  rcases (show ErB tp code μ v n from h) with ⟨rfl,rfl⟩ | ⟨_,_,a,s,c,t,rfl,_⟩
  ·exact .inl ⟨rfl,rfl⟩
  ·exact .inr ⟨_,_,rfl⟩
 | pl p e =>
  obtain ⟨g,u,rfl,_⟩:=h
  exact .inr ⟨_,_,rfl⟩
theorem eg_err {op:BinOp}(h:ErV tp ta code μ i v)(h':ErV tp ta code μ j v')(hg:Lits x y i j):(eqGuard op t x y v v').run P w=.ok () w:=by
 rcases erv_form h with ⟨rfl,rfl⟩ | ⟨_,_,rfl⟩ <;> rcases erv_form h' with ⟨rfl,rfl⟩ | ⟨_,_,rfl⟩
 ·rcases hg.nil with ⟨c,rfl⟩ | ⟨c,rfl⟩
  ·cases op <;> simp [eqGuard]
  ·cases op <;> simp [eqGuard]
 all_goals cases op <;> simp [eqGuard]
theorem r_eqE (F:ErF P t tp ta)(hr:Agr μ w)(h:ErV tp ta code μ i v)(h':ErV tp ta code μ j v')(hg:Lits x y i j)(hA:Fr a n L)(hx:ov L x=some v)(hy:ov L y=some v') :
  (execOp a.eval ⟨dst,.binOp .eql t x y t',ty,pos,aft,gd⟩).run P w=.ok (.value (.bool (decide (i=j)))) w:=by
 have hb:(binOp .eql t v v').run P w=.ok (.bool (decide (i=j))) w:=by
  have he:=eqIn_err F hr hg.fit h h'
  clear hx hy hg
  rcases erv_form h with ⟨_,rfl⟩ | ⟨_,_,rfl⟩ <;> rcases erv_form h' with ⟨_,rfl⟩ | ⟨_,_,rfl⟩ <;> (simp only [binOp,Op.equal,Op.maxDepth];rw [Sem.run_bind,he];rfl)
 simp [execOp,hA.ev hx,hA.ev hy,eg_err h h' hg,hb]
theorem r_ldG {d:TypeDesc}{g:Nat}(hu:P.underlying t=some d)(hd:isAggD d=false)(hr:Agr μ w)(h:ErV tp ta code μ (.b (g+1)) v)(hA:Fr a n L) :
  (execOp a.eval ⟨dst,.load t (.global g),ty,pos,aft,gd⟩).run P w=.ok (.value v) w:=by
 have hx:ov L (.global g)=some (.pointer (some ⟨g,0,none⟩)):=rfl
 simp [execOp,hA.ev hx,Instr.loadAt,Instr.sureAddr,run_loadVar_one (P:=P) hu hd _ (hr.cell h.load)]
theorem r_asP {te:TypeId}(hn:tp≠ta)(hu:P.underlying ta=some (.pointer te))(hz:(P.info? ta).map (·.zero)=some (some (.pointer none)))(h:ErV tp ta code μ i v)(hA:Fr a n L)(hx:ov L x=some v) :
  (execOp a.eval ⟨dst,.typeAssert x t ta true,ty,pos,aft,gd⟩).run P w=.ok (.value (.tuple #[aP ta v,.bool i.isP])) w:=by
 have hz':(zeroValue ta).run P w=.ok (.pointer none) w:=by
  cases hq:P.info? ta with
  | none=>simp [hq] at hz
  | some q =>
   have:q.zero=some (.pointer none):=by simpa [hq] using hz
   simp [zeroValue,typeInfo,hq,this]
 cases i with
 | b k =>
  rcases (show ErB tp code μ v k from h) with ⟨rfl,rfl⟩ | ⟨_,_,a,s,c,t,rfl,_⟩
  ·simp [execOp,hA.ev hx,Instr.typeAssert,run_underlying hu,hz',aP,Er.isP]
  ·simp [execOp,hA.ev hx,Instr.typeAssert,run_underlying hu,hz',aP,Er.isP,hn]
 | pl p e =>
  obtain ⟨g,u,rfl,_⟩:=h
  simp [execOp,hA.ev hx,Instr.typeAssert,run_underlying hu,aP,Er.isP]
theorem cells_err1 (h:ErV tp ta code μ i v):v.cells=#[v]:=by
 rcases erv_form h with ⟨_,rfl⟩ | ⟨_,_,rfl⟩ <;> rfl
end
theorem at_in {μ:Store}{g b o:Nat}(A B C:List (List Value))(h:At μ g b (A++(B++C)).flatten)(ho:b+A.flatten.length=o):At μ g o B.flatten:=by
 subst ho
 rw [List.flatten_append,List.flatten_append] at h
 exact h.part
end Go.Proofs.YtdngkgkkblfcjaaGreatDoor.K
namespace Go.Proofs.YtdngkgkkblfcjaaGreatDoor.T
open Go Go.Proofs Go.Proofs.YtdngkgkkblfcjaaGreatDoor.K
set_option linter.unusedVariables false
set_option linter.unusedSimpArgs false
def errTexts:List (Nat×List UInt8):=[(0,[107,110,111,119,110,32,97,108,114,101,97,100,121]),(1,[110,111,32,115,117,99,104,32,112,97,114,101,110,116]),(2,[116,104,101,114,101,32,105,115,32,110,111,32,114,111,111,109]),(3,[97,32,110,117,109,98,101,114,32,111,117,116,32,111,102,32,105,116,115,32,114,97,110,103,101]),(5,[105,116,32,101,110,100,115,32,116,111,111,32,101,97,114,108,121]),(6,[110,111,116,32,97,115,32,105,116,32,104,97,115,32,116,111,32,98,101]),(7,[116,111,111,32,108,111,110,103]),(8,[116,111,111,32,109,97,110,121,44,32,111,114,32,116,111,111,32,102,101,119]),(9,[97,110,32,97,109,111,117,110,116,32,116,104,97,116,32,99,97,110,39,116,32,98,101]),(10,[111,110,101,32,116,104,105,110,103,32,116,119,105,99,101]),(11,[110,111,32,102,105,114,115,116,32,116,114,97,110,115,97,99,116,105,111,110,32,119,104,101,114,101,32,116,104,101,114,101,32,104,97,115,32,116,111,32,98,101,32,111,110,101,44,32,111,114,32,111,110,101,32,119,104,101,114,101,32,116,104,101,114,101,32,109,97,121,32,98,101,32,110,111,110,101]),(12,[97,32,114,111,111,116,32,116,104,97,116,32,100,111,101,115,32,110,111,116,32,102,105,116]),(13,[98,101,104,105,110,100,32,119,104,97,116,32,105,115,32,110,111,116,32,118,97,108,105,100]),(14,[97,32,116,105,109,101,32,116,104,97,116,32,105,115,32,116,111,111,32,101,97,114,108,121]),(15,[97,32,99,111,105,110,32,116,104,97,116,32,105,115,32,110,111,116,32,116,104,101,114,101]),(16,[97,32,107,101,121,32,116,104,97,116,32,100,111,101,115,32,110,111,116,32,102,105,116]),(17,[97,32,99,111,105,110,32,116,104,97,116,32,105,115,32,116,111,111,32,121,111,117,110,103]),(18,[116,111,111,32,101,97,114,108,121,32,116,111,32,98,101,32,116,97,107,101,110]),(19,[108,101,115,115,32,99,111,109,101,115,32,105,110,32,116,104,97,110,32,103,111,101,115,32,111,117,116]),(20,[109,111,114,101,32,116,104,97,110,32,116,104,101,32,114,101,119,97,114,100]),(21,[97,32,99,111,105,110,32,116,104,97,116,32,105,115,32,115,112,101,110,116,32,105,110,32,116,104,101,32,112,111,111,108]),(22,[116,111,111,32,109,97,110,121,32,116,104,97,116,32,104,97,110,103,32,116,111,103,101,116,104,101,114]),(23,[116,104,101,114,101,32,105,115,32,110,111,110,101]),(24,[110,111,32,115,117,99,104,32,119,111,114,100]),(25,[110,111,116,32,97,32,110,117,109,98,101,114])]
def errCode (z:ByteArray):Nat:=match errTexts.find? (fun q=>decide (q.2=z.data.toList)) with | some q=>q.1+1 | none=>0
abbrev xErrKnown:Er:=Er.b 1
abbrev xErrParent:Er:=Er.b 2
abbrev xErrFull:Er:=Er.b 3
abbrev xErrRange:Er:=Er.b 4
abbrev xErrEnd:Er:=Er.b 6
abbrev xErrShape:Er:=Er.b 7
abbrev xErrLong:Er:=Er.b 8
abbrev xErrMany:Er:=Er.b 9
abbrev xErrValue:Er:=Er.b 10
abbrev xErrTwice:Er:=Er.b 11
abbrev xErrBase:Er:=Er.b 12
abbrev xErrRoot:Er:=Er.b 13
abbrev xErrInvalid:Er:=Er.b 14
abbrev xErrTime:Er:=Er.b 15
abbrev xErrMissing:Er:=Er.b 16
abbrev xErrKey:Er:=Er.b 17
abbrev xErrYoung:Er:=Er.b 18
abbrev xErrEarly:Er:=Er.b 19
abbrev xErrLess:Er:=Er.b 20
abbrev xErrReward:Er:=Er.b 21
abbrev xErrClash:Er:=Er.b 22
abbrev xErrLimit:Er:=Er.b 23
abbrev xErrNone:Er:=Er.b 24
abbrev xErrWord:Er:=Er.b 25
abbrev xErrNumber:Er:=Er.b 26
abbrev ErS (μ:Store)(v:Value)(x:Er):Prop:=ErV 374 231 errCode μ x v
structure Gl (μ:Store):Prop where
 g0:∃ v,ErS μ v (Er.b 1)
 g1:∃ v,ErS μ v (Er.b 2)
 g2:∃ v,ErS μ v (Er.b 3)
 g3:∃ v,ErS μ v (Er.b 4)
 g5:∃ v,ErS μ v (Er.b 6)
 g6:∃ v,ErS μ v (Er.b 7)
 g7:∃ v,ErS μ v (Er.b 8)
 g8:∃ v,ErS μ v (Er.b 9)
 g9:∃ v,ErS μ v (Er.b 10)
 g10:∃ v,ErS μ v (Er.b 11)
 g11:∃ v,ErS μ v (Er.b 12)
 g12:∃ v,ErS μ v (Er.b 13)
 g13:∃ v,ErS μ v (Er.b 14)
 g14:∃ v,ErS μ v (Er.b 15)
 g15:∃ v,ErS μ v (Er.b 16)
 g16:∃ v,ErS μ v (Er.b 17)
 g17:∃ v,ErS μ v (Er.b 18)
 g18:∃ v,ErS μ v (Er.b 19)
 g19:∃ v,ErS μ v (Er.b 20)
 g20:∃ v,ErS μ v (Er.b 21)
 g21:∃ v,ErS μ v (Er.b 22)
 g22:∃ v,ErS μ v (Er.b 23)
 g23:∃ v,ErS μ v (Er.b 24)
 g24:∃ v,ErS μ v (Er.b 25)
 g25:∃ v,ErS μ v (Er.b 26)
theorem Gl.le {μ ν:Store}(hl:μ.le ν)(h:Gl μ):Gl ν:=⟨h.g0.imp fun _ h=>ErV.le (fun _ _ h=>h) hl h,h.g1.imp fun _ h=>ErV.le (fun _ _ h=>h) hl h,h.g2.imp fun _ h=>ErV.le (fun _ _ h=>h) hl h,h.g3.imp fun _ h=>ErV.le (fun _ _ h=>h) hl h,h.g5.imp fun _ h=>ErV.le (fun _ _ h=>h) hl h,h.g6.imp fun _ h=>ErV.le (fun _ _ h=>h) hl h,h.g7.imp fun _ h=>ErV.le (fun _ _ h=>h) hl h,h.g8.imp fun _ h=>ErV.le (fun _ _ h=>h) hl h,h.g9.imp fun _ h=>ErV.le (fun _ _ h=>h) hl h,h.g10.imp fun _ h=>ErV.le (fun _ _ h=>h) hl h,h.g11.imp fun _ h=>ErV.le (fun _ _ h=>h) hl h,h.g12.imp fun _ h=>ErV.le (fun _ _ h=>h) hl h,h.g13.imp fun _ h=>ErV.le (fun _ _ h=>h) hl h,h.g14.imp fun _ h=>ErV.le (fun _ _ h=>h) hl h,h.g15.imp fun _ h=>ErV.le (fun _ _ h=>h) hl h,h.g16.imp fun _ h=>ErV.le (fun _ _ h=>h) hl h,h.g17.imp fun _ h=>ErV.le (fun _ _ h=>h) hl h,h.g18.imp fun _ h=>ErV.le (fun _ _ h=>h) hl h,h.g19.imp fun _ h=>ErV.le (fun _ _ h=>h) hl h,h.g20.imp fun _ h=>ErV.le (fun _ _ h=>h) hl h,h.g21.imp fun _ h=>ErV.le (fun _ _ h=>h) hl h,h.g22.imp fun _ h=>ErV.le (fun _ _ h=>h) hl h,h.g23.imp fun _ h=>ErV.le (fun _ _ h=>h) hl h,h.g24.imp fun _ h=>ErV.le (fun _ _ h=>h) hl h,h.g25.imp fun _ h=>ErV.le (fun _ _ h=>h) hl h⟩
abbrev RErr (μ:Store)(x:Er)(c:List Value):Prop:=RErV 374 231 errCode μ x c
structure dWr where
 s:List Int
 rest:List Int
 n:Int
deriving Inhabited,DecidableEq
def dWrC (x:dWr)(v0:Value):List (List Value):=[av .u32 8 x.s,[v0],[.int .i64 x.n]]
def dWrW (μ:Store)(x:dWr)(v0:Value):Prop:=Arr .u32 8 x.s∧Slc (RI .u8) 1 μ v0 x.rest∧InR .i64 x.n
def RdWr (μ:Store)(x:dWr)(c:List Value):Prop:=∃ v0:Value,c=(dWrC x v0).flatten∧dWrW μ x v0
theorem dWrW.le {μ ν:Store}(hl:μ.le ν){x:dWr}{v0:Value}(h:dWrW μ x v0):dWrW ν x v0:=let ⟨h0,h1,h2⟩:=h;⟨h0,h1.le (fun _ _ h=>h) hl,h2⟩
theorem RdWr.ones {μ:Store}:∀ x c,RdWr μ x c→∀ u∈c,u.oneCell'=true:=by
 rintro x c ⟨v0,rfl,hw⟩ u hu
 simp only [dWrC,List.flatten_cons,List.flatten_nil,List.append_nil,List.mem_append,List.mem_singleton,List.mem_cons,List.not_mem_nil,or_false] at hu
 obtain ⟨_,hs0⟩:=Slc.sv (hw.2.1)
 rcases hu with hu | hu | hu <;> first | exact one_av _ _ _ _ hu | (subst hu;rfl) | (subst hu;exact one_sl hs0)
theorem RdWr.le {μ ν:Store}(hl:μ.le ν){x:dWr}{c:List Value}(h:RdWr μ x c):RdWr ν x c:=let ⟨v0,h0,h1⟩:=h;⟨v0,h0,h1.le hl⟩
structure Head where
 Version:Int
 Prev:List Int
 Root:List Int
 Time:Int
 Work:Int
 Nonce:Int
deriving Inhabited,DecidableEq
def HeadC (x:Head):List (List Value):=[[.int .u32 x.Version],av .u8 32 x.Prev,av .u8 32 x.Root,[.int .u32 x.Time],[.int .u32 x.Work],[.int .u32 x.Nonce]]
def HeadW (μ:Store)(x:Head):Prop:=InR .u32 x.Version∧Arr .u8 32 x.Prev∧Arr .u8 32 x.Root∧InR .u32 x.Time∧InR .u32 x.Work∧InR .u32 x.Nonce
def RHead (μ:Store)(x:Head)(c:List Value):Prop:=c=(HeadC x).flatten∧HeadW μ x
theorem HeadW.le {μ ν:Store}(hl:μ.le ν){x:Head}(h:HeadW μ x):HeadW ν x:=let ⟨h0,h1,h2,h3,h4,h5⟩:=h;⟨h0,h1,h2,h3,h4,h5⟩
theorem RHead.ones {μ:Store}:∀ x c,RHead μ x c→∀ u∈c,u.oneCell'=true:=by
 rintro x c ⟨rfl,hw⟩ u hu
 simp only [HeadC,List.flatten_cons,List.flatten_nil,List.append_nil,List.mem_append,List.mem_singleton,List.mem_cons,List.not_mem_nil,or_false] at hu
 rcases hu with hu | hu | hu | hu | hu | hu <;> first | exact one_av _ _ _ _ hu | (subst hu;rfl)
theorem RHead.le {μ ν:Store}(hl:μ.le ν){x:Head}{c:List Value}(h:RHead μ x c):RHead ν x c:=let ⟨h0,h1⟩:=h;⟨h0,h1.le hl⟩
structure treeNode where
 head:Head
 height:Int
 work:Int
 up:List (List Int)
deriving Inhabited,DecidableEq
def treeNodeC (x:treeNode)(v0:Value):List (List Value):=[[.int .u32 x.head.Version],av .u8 32 x.head.Prev,av .u8 32 x.head.Root,[.int .u32 x.head.Time],[.int .u32 x.head.Work],[.int .u32 x.head.Nonce],[.int .i64 x.height],[.int .u64 x.work],[v0]]
def treeNodeW (μ:Store)(x:treeNode)(v0:Value):Prop:=InR .u32 x.head.Version∧Arr .u8 32 x.head.Prev∧Arr .u8 32 x.head.Root∧InR .u32 x.head.Time∧InR .u32 x.head.Work∧InR .u32 x.head.Nonce∧InR .i64 x.height∧InR .u64 x.work∧Slc (RA .u8 32) 32 μ v0 x.up
def RtreeNode (μ:Store)(x:treeNode)(c:List Value):Prop:=∃ v0:Value,c=(treeNodeC x v0).flatten∧treeNodeW μ x v0
theorem treeNodeW.le {μ ν:Store}(hl:μ.le ν){x:treeNode}{v0:Value}(h:treeNodeW μ x v0):treeNodeW ν x v0:=let ⟨h0,h1,h2,h3,h4,h5,h6,h7,h8⟩:=h;⟨h0,h1,h2,h3,h4,h5,h6,h7,h8.le (fun _ _ h=>h) hl⟩
theorem RtreeNode.ones {μ:Store}:∀ x c,RtreeNode μ x c→∀ u∈c,u.oneCell'=true:=by
 rintro x c ⟨v0,rfl,hw⟩ u hu
 simp only [treeNodeC,List.flatten_cons,List.flatten_nil,List.append_nil,List.mem_append,List.mem_singleton,List.mem_cons,List.not_mem_nil,or_false] at hu
 obtain ⟨_,hs0⟩:=Slc.sv (hw.2.2.2.2.2.2.2.2)
 rcases hu with hu | hu | hu | hu | hu | hu | hu | hu | hu <;> first | exact one_av _ _ _ _ hu | (subst hu;rfl) | (subst hu;exact one_sl hs0)
theorem RtreeNode.le {μ ν:Store}(hl:μ.le ν){x:treeNode}{c:List Value}(h:RtreeNode μ x c):RtreeNode ν x c:=let ⟨v0,h0,h1⟩:=h;⟨v0,h0,h1.le hl⟩
structure treeTree where
 m:List ((List Int)×treeNode)
 start:List Int
deriving Inhabited,DecidableEq
structure Point where
 Tx:List Int
 N:Int
deriving Inhabited,DecidableEq
def PointC (x:Point):List (List Value):=[av .u8 32 x.Tx,[.int .u32 x.N]]
def PointW (μ:Store)(x:Point):Prop:=Arr .u8 32 x.Tx∧InR .u32 x.N
def RPoint (μ:Store)(x:Point)(c:List Value):Prop:=c=(PointC x).flatten∧PointW μ x
theorem PointW.le {μ ν:Store}(hl:μ.le ν){x:Point}(h:PointW μ x):PointW ν x:=let ⟨h0,h1⟩:=h;⟨h0,h1⟩
theorem RPoint.ones {μ:Store}:∀ x c,RPoint μ x c→∀ u∈c,u.oneCell'=true:=by
 rintro x c ⟨rfl,hw⟩ u hu
 simp only [PointC,List.flatten_cons,List.flatten_nil,List.append_nil,List.mem_append,List.mem_singleton,List.mem_cons,List.not_mem_nil,or_false] at hu
 rcases hu with hu | hu <;> first | exact one_av _ _ _ _ hu | (subst hu;rfl)
theorem RPoint.le {μ ν:Store}(hl:μ.le ν){x:Point}{c:List Value}(h:RPoint μ x c):RPoint ν x c:=let ⟨h0,h1⟩:=h;⟨h0,h1.le hl⟩
structure In where
 From:Point
 Key:List Int
 Seq:Int
deriving Inhabited,DecidableEq
def InC (x:In)(v0:Value):List (List Value):=[av .u8 32 x.From.Tx,[.int .u32 x.From.N],[v0],[.int .u32 x.Seq]]
def InW (μ:Store)(x:In)(v0:Value):Prop:=Arr .u8 32 x.From.Tx∧InR .u32 x.From.N∧Slc (RI .u8) 1 μ v0 x.Key∧InR .u32 x.Seq
def RIn (μ:Store)(x:In)(c:List Value):Prop:=∃ v0:Value,c=(InC x v0).flatten∧InW μ x v0
theorem InW.le {μ ν:Store}(hl:μ.le ν){x:In}{v0:Value}(h:InW μ x v0):InW ν x v0:=let ⟨h0,h1,h2,h3⟩:=h;⟨h0,h1,h2.le (fun _ _ h=>h) hl,h3⟩
theorem RIn.ones {μ:Store}:∀ x c,RIn μ x c→∀ u∈c,u.oneCell'=true:=by
 rintro x c ⟨v0,rfl,hw⟩ u hu
 simp only [InC,List.flatten_cons,List.flatten_nil,List.append_nil,List.mem_append,List.mem_singleton,List.mem_cons,List.not_mem_nil,or_false] at hu
 obtain ⟨_,hs0⟩:=Slc.sv (hw.2.2.1)
 rcases hu with hu | hu | hu | hu <;> first | exact one_av _ _ _ _ hu | (subst hu;rfl) | (subst hu;exact one_sl hs0)
theorem RIn.le {μ ν:Store}(hl:μ.le ν){x:In}{c:List Value}(h:RIn μ x c):RIn ν x c:=let ⟨v0,h0,h1⟩:=h;⟨v0,h0,h1.le hl⟩
structure Out where
 Value:Int
 Lock:List Int
deriving Inhabited,DecidableEq
def OutC (x:Out):List (List Value):=[[.int .u64 x.Value],av .u8 32 x.Lock]
def OutW (μ:Store)(x:Out):Prop:=InR .u64 x.Value∧Arr .u8 32 x.Lock
def ROut (μ:Store)(x:Out)(c:List Value):Prop:=c=(OutC x).flatten∧OutW μ x
theorem OutW.le {μ ν:Store}(hl:μ.le ν){x:Out}(h:OutW μ x):OutW ν x:=let ⟨h0,h1⟩:=h;⟨h0,h1⟩
theorem ROut.ones {μ:Store}:∀ x c,ROut μ x c→∀ u∈c,u.oneCell'=true:=by
 rintro x c ⟨rfl,hw⟩ u hu
 simp only [OutC,List.flatten_cons,List.flatten_nil,List.append_nil,List.mem_append,List.mem_singleton,List.mem_cons,List.not_mem_nil,or_false] at hu
 rcases hu with hu | hu <;> first | exact one_av _ _ _ _ hu | (subst hu;rfl)
theorem ROut.le {μ ν:Store}(hl:μ.le ν){x:Out}{c:List Value}(h:ROut μ x c):ROut ν x c:=let ⟨h0,h1⟩:=h;⟨h0,h1.le hl⟩
structure Tx where
 Version:Int
 Ins:List In
 Outs:List Out
 Time:Int
deriving Inhabited,DecidableEq
def TxC (x:Tx)(v0 v1:Value):List (List Value):=[[.int .u32 x.Version],[v0],[v1],[.int .u32 x.Time]]
def TxW (μ:Store)(x:Tx)(v0 v1:Value):Prop:=InR .u32 x.Version∧Slc (RIn μ) 35 μ v0 x.Ins∧Slc (ROut μ) 33 μ v1 x.Outs∧InR .u32 x.Time
def RTx (μ:Store)(x:Tx)(c:List Value):Prop:=∃ v0 v1:Value,c=(TxC x v0 v1).flatten∧TxW μ x v0 v1
theorem TxW.le {μ ν:Store}(hl:μ.le ν){x:Tx}{v0:Value}{v1:Value}(h:TxW μ x v0 v1):TxW ν x v0 v1:=let ⟨h0,h1,h2,h3⟩:=h;⟨h0,h1.le (fun _ _ h=>RIn.le hl h) hl,h2.le (fun _ _ h=>ROut.le hl h) hl,h3⟩
theorem RTx.ones {μ:Store}:∀ x c,RTx μ x c→∀ u∈c,u.oneCell'=true:=by
 rintro x c ⟨v0,v1,rfl,hw⟩ u hu
 simp only [TxC,List.flatten_cons,List.flatten_nil,List.append_nil,List.mem_append,List.mem_singleton,List.mem_cons,List.not_mem_nil,or_false] at hu
 obtain ⟨_,hs0⟩:=Slc.sv (hw.2.1)
 obtain ⟨_,hs1⟩:=Slc.sv (hw.2.2.1)
 rcases hu with hu | hu | hu | hu <;> first | exact one_av _ _ _ _ hu | (subst hu;rfl) | (subst hu;exact one_sl hs0) | (subst hu;exact one_sl hs1)
theorem RTx.le {μ ν:Store}(hl:μ.le ν){x:Tx}{c:List Value}(h:RTx μ x c):RTx ν x c:=let ⟨v0,v1,h0,h1⟩:=h;⟨v0,v1,h0,h1.le hl⟩
structure Block where
 Head:Head
 Txs:List Tx
deriving Inhabited,DecidableEq
def BlockC (x:Block)(v0:Value):List (List Value):=[[.int .u32 x.Head.Version],av .u8 32 x.Head.Prev,av .u8 32 x.Head.Root,[.int .u32 x.Head.Time],[.int .u32 x.Head.Work],[.int .u32 x.Head.Nonce],[v0]]
def BlockW (μ:Store)(x:Block)(v0:Value):Prop:=InR .u32 x.Head.Version∧Arr .u8 32 x.Head.Prev∧Arr .u8 32 x.Head.Root∧InR .u32 x.Head.Time∧InR .u32 x.Head.Work∧InR .u32 x.Head.Nonce∧Slc (RTx μ) 4 μ v0 x.Txs
def RBlock (μ:Store)(x:Block)(c:List Value):Prop:=∃ v0:Value,c=(BlockC x v0).flatten∧BlockW μ x v0
theorem BlockW.le {μ ν:Store}(hl:μ.le ν){x:Block}{v0:Value}(h:BlockW μ x v0):BlockW ν x v0:=let ⟨h0,h1,h2,h3,h4,h5,h6⟩:=h;⟨h0,h1,h2,h3,h4,h5,h6.le (fun _ _ h=>RTx.le hl h) hl⟩
theorem RBlock.ones {μ:Store}:∀ x c,RBlock μ x c→∀ u∈c,u.oneCell'=true:=by
 rintro x c ⟨v0,rfl,hw⟩ u hu
 simp only [BlockC,List.flatten_cons,List.flatten_nil,List.append_nil,List.mem_append,List.mem_singleton,List.mem_cons,List.not_mem_nil,or_false] at hu
 obtain ⟨_,hs0⟩:=Slc.sv (hw.2.2.2.2.2.2)
 rcases hu with hu | hu | hu | hu | hu | hu | hu <;> first | exact one_av _ _ _ _ hu | (subst hu;rfl) | (subst hu;exact one_sl hs0)
theorem RBlock.le {μ ν:Store}(hl:μ.le ν){x:Block}{c:List Value}(h:RBlock μ x c):RBlock ν x c:=let ⟨v0,h0,h1⟩:=h;⟨v0,h0,h1.le hl⟩
structure sargassoref8Node where
 id:List Int
 h:Head
 parent:Int
 height:Int
 work:Int
 bad:Bool
deriving Inhabited,DecidableEq
def sargassoref8NodeC (x:sargassoref8Node):List (List Value):=[av .u8 32 x.id,[.int .u32 x.h.Version],av .u8 32 x.h.Prev,av .u8 32 x.h.Root,[.int .u32 x.h.Time],[.int .u32 x.h.Work],[.int .u32 x.h.Nonce],[.int .i64 x.parent],[.int .i64 x.height],[.int .u64 x.work],[.bool x.bad]]
def sargassoref8NodeW (μ:Store)(x:sargassoref8Node):Prop:=Arr .u8 32 x.id∧InR .u32 x.h.Version∧Arr .u8 32 x.h.Prev∧Arr .u8 32 x.h.Root∧InR .u32 x.h.Time∧InR .u32 x.h.Work∧InR .u32 x.h.Nonce∧InR .i64 x.parent∧InR .i64 x.height∧InR .u64 x.work
def Rsargassoref8Node (μ:Store)(x:sargassoref8Node)(c:List Value):Prop:=c=(sargassoref8NodeC x).flatten∧sargassoref8NodeW μ x
theorem sargassoref8NodeW.le {μ ν:Store}(hl:μ.le ν){x:sargassoref8Node}(h:sargassoref8NodeW μ x):sargassoref8NodeW ν x:=let ⟨h0,h1,h2,h3,h4,h5,h6,h7,h8,h9⟩:=h;⟨h0,h1,h2,h3,h4,h5,h6,h7,h8,h9⟩
theorem Rsargassoref8Node.ones {μ:Store}:∀ x c,Rsargassoref8Node μ x c→∀ u∈c,u.oneCell'=true:=by
 rintro x c ⟨rfl,hw⟩ u hu
 simp only [sargassoref8NodeC,List.flatten_cons,List.flatten_nil,List.append_nil,List.mem_append,List.mem_singleton,List.mem_cons,List.not_mem_nil,or_false] at hu
 rcases hu with hu | hu | hu | hu | hu | hu | hu | hu | hu | hu | hu <;> first | exact one_av _ _ _ _ hu | (subst hu;rfl)
theorem Rsargassoref8Node.le {μ ν:Store}(hl:μ.le ν){x:sargassoref8Node}{c:List Value}(h:Rsargassoref8Node μ x c):Rsargassoref8Node ν x c:=let ⟨h0,h1⟩:=h;⟨h0,h1.le hl⟩
structure sargassoref8Tree where
 l:List sargassoref8Node
deriving Inhabited,DecidableEq
def sargassoref8TreeC (x:sargassoref8Tree)(v0:Value):List (List Value):=[[v0]]
def sargassoref8TreeW (μ:Store)(x:sargassoref8Tree)(v0:Value):Prop:=Slc (Rsargassoref8Node μ) 104 μ v0 x.l
def Rsargassoref8Tree (μ:Store)(x:sargassoref8Tree)(c:List Value):Prop:=∃ v0:Value,c=(sargassoref8TreeC x v0).flatten∧sargassoref8TreeW μ x v0
theorem sargassoref8TreeW.le {μ ν:Store}(hl:μ.le ν){x:sargassoref8Tree}{v0:Value}(h:sargassoref8TreeW μ x v0):sargassoref8TreeW ν x v0:=let h0:Slc (Rsargassoref8Node μ) 104 μ v0 x.l:=h;h0.le (fun _ _ h=>Rsargassoref8Node.le hl h) hl
theorem Rsargassoref8Tree.ones {μ:Store}:∀ x c,Rsargassoref8Tree μ x c→∀ u∈c,u.oneCell'=true:=by
 rintro x c ⟨v0,rfl,hw⟩ u hu
 simp only [sargassoref8TreeC,List.flatten_cons,List.flatten_nil,List.append_nil,List.mem_append,List.mem_singleton,List.mem_cons,List.not_mem_nil,or_false] at hu
 obtain ⟨_,hs0⟩:=Slc.sv (hw)
 first | exact one_av _ _ _ _ hu | (subst hu;rfl) | (subst hu;exact one_sl hs0)
theorem Rsargassoref8Tree.le {μ ν:Store}(hl:μ.le ν){x:sargassoref8Tree}{c:List Value}(h:Rsargassoref8Tree μ x c):Rsargassoref8Tree ν x c:=let ⟨v0,h0,h1⟩:=h;⟨v0,h0,h1.le hl⟩
structure q0Ft where
 Code:Int
 Placed:Bool
 Pos:Int
 Outer:Bool
 At:Int
deriving Inhabited,DecidableEq
def q0FtC (x:q0Ft):List (List Value):=[[.int .i64 x.Code],[.bool x.Placed],[.int .i64 x.Pos],[.bool x.Outer],[.int .i64 x.At]]
def q0FtW (μ:Store)(x:q0Ft):Prop:=InR .i64 x.Code∧InR .i64 x.Pos∧InR .i64 x.At
def Rq0Ft (μ:Store)(x:q0Ft)(c:List Value):Prop:=c=(q0FtC x).flatten∧q0FtW μ x
theorem q0FtW.le {μ ν:Store}(hl:μ.le ν){x:q0Ft}(h:q0FtW μ x):q0FtW ν x:=let ⟨h0,h1,h2⟩:=h;⟨h0,h1,h2⟩
theorem Rq0Ft.ones {μ:Store}:∀ x c,Rq0Ft μ x c→∀ u∈c,u.oneCell'=true:=by
 rintro x c ⟨rfl,hw⟩ u hu
 simp only [q0FtC,List.flatten_cons,List.flatten_nil,List.append_nil,List.mem_append,List.mem_singleton,List.mem_cons,List.not_mem_nil,or_false] at hu
 rcases hu with hu | hu | hu | hu | hu <;> first | exact one_av _ _ _ _ hu | (subst hu;rfl)
theorem Rq0Ft.le {μ ν:Store}(hl:μ.le ν){x:q0Ft}{c:List Value}(h:Rq0Ft μ x c):Rq0Ft ν x c:=let ⟨h0,h1⟩:=h;⟨h0,h1.le hl⟩
structure ApiAt where
 Pos:Int
 Err:Er
deriving Inhabited,DecidableEq
def ApiAtC (x:ApiAt)(v0:Value):List (List Value):=[[.int .i64 x.Pos],[v0]]
def ApiAtW (μ:Store)(x:ApiAt)(v0:Value):Prop:=InR .i64 x.Pos∧ErS μ v0 x.Err
def RApiAt (μ:Store)(x:ApiAt)(c:List Value):Prop:=∃ v0:Value,c=(ApiAtC x v0).flatten∧ApiAtW μ x v0
theorem ApiAtW.le {μ ν:Store}(hl:μ.le ν){x:ApiAt}{v0:Value}(h:ApiAtW μ x v0):ApiAtW ν x v0:=let ⟨h0,h1⟩:=h;⟨h0,h1.le (fun _ _ h=>h) hl⟩
theorem RApiAt.ones {μ:Store}:∀ x c,RApiAt μ x c→∀ u∈c,u.oneCell'=true:=by
 rintro x c ⟨v0,rfl,hw⟩ u hu
 simp only [ApiAtC,List.flatten_cons,List.flatten_nil,List.append_nil,List.mem_append,List.mem_singleton,List.mem_cons,List.not_mem_nil,or_false] at hu
 have hs0:=ErV.one (hw.2)
 rcases hu with hu | hu <;> first | exact one_av _ _ _ _ hu | (subst hu;rfl) | (subst hu;exact hs0)
theorem RApiAt.le {μ ν:Store}(hl:μ.le ν){x:ApiAt}{c:List Value}(h:RApiAt μ x c):RApiAt ν x c:=let ⟨v0,h0,h1⟩:=h;⟨v0,h0,h1.le hl⟩
structure redoRedo where
 most:Int
 bytes:Int
 l:List Tx
deriving Inhabited,DecidableEq
def redoRedoC (x:redoRedo)(v0:Value):List (List Value):=[[.int .i64 x.most],[.int .i64 x.bytes],[v0]]
def redoRedoW (μ:Store)(x:redoRedo)(v0:Value):Prop:=InR .i64 x.most∧InR .i64 x.bytes∧Slc (RTx μ) 4 μ v0 x.l
def RredoRedo (μ:Store)(x:redoRedo)(c:List Value):Prop:=∃ v0:Value,c=(redoRedoC x v0).flatten∧redoRedoW μ x v0
theorem redoRedoW.le {μ ν:Store}(hl:μ.le ν){x:redoRedo}{v0:Value}(h:redoRedoW μ x v0):redoRedoW ν x v0:=let ⟨h0,h1,h2⟩:=h;⟨h0,h1,h2.le (fun _ _ h=>RTx.le hl h) hl⟩
theorem RredoRedo.ones {μ:Store}:∀ x c,RredoRedo μ x c→∀ u∈c,u.oneCell'=true:=by
 rintro x c ⟨v0,rfl,hw⟩ u hu
 simp only [redoRedoC,List.flatten_cons,List.flatten_nil,List.append_nil,List.mem_append,List.mem_singleton,List.mem_cons,List.not_mem_nil,or_false] at hu
 obtain ⟨_,hs0⟩:=Slc.sv (hw.2.2)
 rcases hu with hu | hu | hu <;> first | exact one_av _ _ _ _ hu | (subst hu;rfl) | (subst hu;exact one_sl hs0)
theorem RredoRedo.le {μ ν:Store}(hl:μ.le ν){x:redoRedo}{c:List Value}(h:RredoRedo μ x c):RredoRedo ν x c:=let ⟨v0,h0,h1⟩:=h;⟨v0,h0,h1.le hl⟩
structure sargassomakeDo where
 Kind:Int
 A:Int
 B:Int
 C:Int
deriving Inhabited,DecidableEq
def sargassomakeDoC (x:sargassomakeDo):List (List Value):=[[.int .i64 x.Kind],[.int .i64 x.A],[.int .i64 x.B],[.int .i64 x.C]]
def sargassomakeDoW (μ:Store)(x:sargassomakeDo):Prop:=InR .i64 x.Kind∧InR .i64 x.A∧InR .i64 x.B∧InR .i64 x.C
def RsargassomakeDo (μ:Store)(x:sargassomakeDo)(c:List Value):Prop:=c=(sargassomakeDoC x).flatten∧sargassomakeDoW μ x
theorem sargassomakeDoW.le {μ ν:Store}(hl:μ.le ν){x:sargassomakeDo}(h:sargassomakeDoW μ x):sargassomakeDoW ν x:=let ⟨h0,h1,h2,h3⟩:=h;⟨h0,h1,h2,h3⟩
theorem RsargassomakeDo.ones {μ:Store}:∀ x c,RsargassomakeDo μ x c→∀ u∈c,u.oneCell'=true:=by
 rintro x c ⟨rfl,hw⟩ u hu
 simp only [sargassomakeDoC,List.flatten_cons,List.flatten_nil,List.append_nil,List.mem_append,List.mem_singleton,List.mem_cons,List.not_mem_nil,or_false] at hu
 rcases hu with hu | hu | hu | hu <;> first | exact one_av _ _ _ _ hu | (subst hu;rfl)
theorem RsargassomakeDo.le {μ ν:Store}(hl:μ.le ν){x:sargassomakeDo}{c:List Value}(h:RsargassomakeDo μ x c):RsargassomakeDo ν x c:=let ⟨h0,h1⟩:=h;⟨h0,h1.le hl⟩
structure Rules where
 Halving:Int
 Maturity:Int
 PoolBytes:Int
 RedoBytes:Int
 LogMost:Int
 Ancestors:Int
 AncestorBytes:Int
 Descendants:Int
 DescendantBytes:Int
deriving Inhabited,DecidableEq
def RulesC (x:Rules):List (List Value):=[[.int .i64 x.Halving],[.int .i64 x.Maturity],[.int .i64 x.PoolBytes],[.int .i64 x.RedoBytes],[.int .i64 x.LogMost],[.int .i64 x.Ancestors],[.int .i64 x.AncestorBytes],[.int .i64 x.Descendants],[.int .i64 x.DescendantBytes]]
def RulesW (μ:Store)(x:Rules):Prop:=InR .i64 x.Halving∧InR .i64 x.Maturity∧InR .i64 x.PoolBytes∧InR .i64 x.RedoBytes∧InR .i64 x.LogMost∧InR .i64 x.Ancestors∧InR .i64 x.AncestorBytes∧InR .i64 x.Descendants∧InR .i64 x.DescendantBytes
def RRules (μ:Store)(x:Rules)(c:List Value):Prop:=c=(RulesC x).flatten∧RulesW μ x
theorem RulesW.le {μ ν:Store}(hl:μ.le ν){x:Rules}(h:RulesW μ x):RulesW ν x:=let ⟨h0,h1,h2,h3,h4,h5,h6,h7,h8⟩:=h;⟨h0,h1,h2,h3,h4,h5,h6,h7,h8⟩
theorem RRules.ones {μ:Store}:∀ x c,RRules μ x c→∀ u∈c,u.oneCell'=true:=by
 rintro x c ⟨rfl,hw⟩ u hu
 simp only [RulesC,List.flatten_cons,List.flatten_nil,List.append_nil,List.mem_append,List.mem_singleton,List.mem_cons,List.not_mem_nil,or_false] at hu
 rcases hu with hu | hu | hu | hu | hu | hu | hu | hu | hu <;> first | exact one_av _ _ _ _ hu | (subst hu;rfl)
theorem RRules.le {μ ν:Store}(hl:μ.le ν){x:Rules}{c:List Value}(h:RRules μ x c):RRules ν x c:=let ⟨h0,h1⟩:=h;⟨h0,h1.le hl⟩
structure Money where
 Value:Int
 Lock:List Int
 Height:Int
 Base:Bool
deriving Inhabited,DecidableEq
def MoneyC (x:Money):List (List Value):=[[.int .u64 x.Value],av .u8 32 x.Lock,[.int .i64 x.Height],[.bool x.Base]]
def MoneyW (μ:Store)(x:Money):Prop:=InR .u64 x.Value∧Arr .u8 32 x.Lock∧InR .i64 x.Height
def RMoney (μ:Store)(x:Money)(c:List Value):Prop:=c=(MoneyC x).flatten∧MoneyW μ x
theorem MoneyW.le {μ ν:Store}(hl:μ.le ν){x:Money}(h:MoneyW μ x):MoneyW ν x:=let ⟨h0,h1,h2⟩:=h;⟨h0,h1,h2⟩
theorem RMoney.ones {μ:Store}:∀ x c,RMoney μ x c→∀ u∈c,u.oneCell'=true:=by
 rintro x c ⟨rfl,hw⟩ u hu
 simp only [MoneyC,List.flatten_cons,List.flatten_nil,List.append_nil,List.mem_append,List.mem_singleton,List.mem_cons,List.not_mem_nil,or_false] at hu
 rcases hu with hu | hu | hu | hu <;> first | exact one_av _ _ _ _ hu | (subst hu;rfl)
theorem RMoney.le {μ ν:Store}(hl:μ.le ν){x:Money}{c:List Value}(h:RMoney μ x c):RMoney ν x c:=let ⟨h0,h1⟩:=h;⟨h0,h1.le hl⟩
structure Spent where
 At:Point
 Coin:Money
deriving Inhabited,DecidableEq
def SpentC (x:Spent):List (List Value):=[av .u8 32 x.At.Tx,[.int .u32 x.At.N],[.int .u64 x.Coin.Value],av .u8 32 x.Coin.Lock,[.int .i64 x.Coin.Height],[.bool x.Coin.Base]]
def SpentW (μ:Store)(x:Spent):Prop:=Arr .u8 32 x.At.Tx∧InR .u32 x.At.N∧InR .u64 x.Coin.Value∧Arr .u8 32 x.Coin.Lock∧InR .i64 x.Coin.Height
def RSpent (μ:Store)(x:Spent)(c:List Value):Prop:=c=(SpentC x).flatten∧SpentW μ x
theorem SpentW.le {μ ν:Store}(hl:μ.le ν){x:Spent}(h:SpentW μ x):SpentW ν x:=let ⟨h0,h1,h2,h3,h4⟩:=h;⟨h0,h1,h2,h3,h4⟩
theorem RSpent.ones {μ:Store}:∀ x c,RSpent μ x c→∀ u∈c,u.oneCell'=true:=by
 rintro x c ⟨rfl,hw⟩ u hu
 simp only [SpentC,List.flatten_cons,List.flatten_nil,List.append_nil,List.mem_append,List.mem_singleton,List.mem_cons,List.not_mem_nil,or_false] at hu
 rcases hu with hu | hu | hu | hu | hu | hu <;> first | exact one_av _ _ _ _ hu | (subst hu;rfl)
theorem RSpent.le {μ ν:Store}(hl:μ.le ν){x:Spent}{c:List Value}(h:RSpent μ x c):RSpent ν x c:=let ⟨h0,h1⟩:=h;⟨h0,h1.le hl⟩
structure sargassoref8Set where
 L:List Spent
deriving Inhabited,DecidableEq
def sargassoref8SetC (x:sargassoref8Set)(v0:Value):List (List Value):=[[v0]]
def sargassoref8SetW (μ:Store)(x:sargassoref8Set)(v0:Value):Prop:=Slc (RSpent μ) 68 μ v0 x.L
def Rsargassoref8Set (μ:Store)(x:sargassoref8Set)(c:List Value):Prop:=∃ v0:Value,c=(sargassoref8SetC x v0).flatten∧sargassoref8SetW μ x v0
theorem sargassoref8SetW.le {μ ν:Store}(hl:μ.le ν){x:sargassoref8Set}{v0:Value}(h:sargassoref8SetW μ x v0):sargassoref8SetW ν x v0:=let h0:Slc (RSpent μ) 68 μ v0 x.L:=h;h0.le (fun _ _ h=>RSpent.le hl h) hl
theorem Rsargassoref8Set.ones {μ:Store}:∀ x c,Rsargassoref8Set μ x c→∀ u∈c,u.oneCell'=true:=by
 rintro x c ⟨v0,rfl,hw⟩ u hu
 simp only [sargassoref8SetC,List.flatten_cons,List.flatten_nil,List.append_nil,List.mem_append,List.mem_singleton,List.mem_cons,List.not_mem_nil,or_false] at hu
 obtain ⟨_,hs0⟩:=Slc.sv (hw)
 first | exact one_av _ _ _ _ hu | (subst hu;rfl) | (subst hu;exact one_sl hs0)
theorem Rsargassoref8Set.le {μ ν:Store}(hl:μ.le ν){x:sargassoref8Set}{c:List Value}(h:Rsargassoref8Set μ x c):Rsargassoref8Set ν x c:=let ⟨v0,h0,h1⟩:=h;⟨v0,h0,h1.le hl⟩
structure sargassoref18Node where
 T:Tx
 ID:List Int
 Fee:Int
 Bytes:Int
deriving Inhabited,DecidableEq
def sargassoref18NodeC (x:sargassoref18Node)(v0 v1:Value):List (List Value):=[[.int .u32 x.T.Version],[v0],[v1],[.int .u32 x.T.Time],av .u8 32 x.ID,[.int .u64 x.Fee],[.int .i64 x.Bytes]]
def sargassoref18NodeW (μ:Store)(x:sargassoref18Node)(v0 v1:Value):Prop:=InR .u32 x.T.Version∧Slc (RIn μ) 35 μ v0 x.T.Ins∧Slc (ROut μ) 33 μ v1 x.T.Outs∧InR .u32 x.T.Time∧Arr .u8 32 x.ID∧InR .u64 x.Fee∧InR .i64 x.Bytes
def Rsargassoref18Node (μ:Store)(x:sargassoref18Node)(c:List Value):Prop:=∃ v0 v1:Value,c=(sargassoref18NodeC x v0 v1).flatten∧sargassoref18NodeW μ x v0 v1
theorem sargassoref18NodeW.le {μ ν:Store}(hl:μ.le ν){x:sargassoref18Node}{v0:Value}{v1:Value}(h:sargassoref18NodeW μ x v0 v1):sargassoref18NodeW ν x v0 v1:=let ⟨h0,h1,h2,h3,h4,h5,h6⟩:=h;⟨h0,h1.le (fun _ _ h=>RIn.le hl h) hl,h2.le (fun _ _ h=>ROut.le hl h) hl,h3,h4,h5,h6⟩
theorem Rsargassoref18Node.ones {μ:Store}:∀ x c,Rsargassoref18Node μ x c→∀ u∈c,u.oneCell'=true:=by
 rintro x c ⟨v0,v1,rfl,hw⟩ u hu
 simp only [sargassoref18NodeC,List.flatten_cons,List.flatten_nil,List.append_nil,List.mem_append,List.mem_singleton,List.mem_cons,List.not_mem_nil,or_false] at hu
 obtain ⟨_,hs0⟩:=Slc.sv (hw.2.1)
 obtain ⟨_,hs1⟩:=Slc.sv (hw.2.2.1)
 rcases hu with hu | hu | hu | hu | hu | hu | hu <;> first | exact one_av _ _ _ _ hu | (subst hu;rfl) | (subst hu;exact one_sl hs0) | (subst hu;exact one_sl hs1)
theorem Rsargassoref18Node.le {μ ν:Store}(hl:μ.le ν){x:sargassoref18Node}{c:List Value}(h:Rsargassoref18Node μ x c):Rsargassoref18Node ν x c:=let ⟨v0,v1,h0,h1⟩:=h;⟨v0,v1,h0,h1.le hl⟩
structure sargassoref18Graph where
 L:List sargassoref18Node
deriving Inhabited,DecidableEq
def sargassoref18GraphC (x:sargassoref18Graph)(v0:Value):List (List Value):=[[v0]]
def sargassoref18GraphW (μ:Store)(x:sargassoref18Graph)(v0:Value):Prop:=Slc (Rsargassoref18Node μ) 38 μ v0 x.L
def Rsargassoref18Graph (μ:Store)(x:sargassoref18Graph)(c:List Value):Prop:=∃ v0:Value,c=(sargassoref18GraphC x v0).flatten∧sargassoref18GraphW μ x v0
theorem sargassoref18GraphW.le {μ ν:Store}(hl:μ.le ν){x:sargassoref18Graph}{v0:Value}(h:sargassoref18GraphW μ x v0):sargassoref18GraphW ν x v0:=let h0:Slc (Rsargassoref18Node μ) 38 μ v0 x.L:=h;h0.le (fun _ _ h=>Rsargassoref18Node.le hl h) hl
theorem Rsargassoref18Graph.ones {μ:Store}:∀ x c,Rsargassoref18Graph μ x c→∀ u∈c,u.oneCell'=true:=by
 rintro x c ⟨v0,rfl,hw⟩ u hu
 simp only [sargassoref18GraphC,List.flatten_cons,List.flatten_nil,List.append_nil,List.mem_append,List.mem_singleton,List.mem_cons,List.not_mem_nil,or_false] at hu
 obtain ⟨_,hs0⟩:=Slc.sv (hw)
 first | exact one_av _ _ _ _ hu | (subst hu;rfl) | (subst hu;exact one_sl hs0)
theorem Rsargassoref18Graph.le {μ ν:Store}(hl:μ.le ν){x:sargassoref18Graph}{c:List Value}(h:Rsargassoref18Graph μ x c):Rsargassoref18Graph ν x c:=let ⟨v0,h0,h1⟩:=h;⟨v0,h0,h1.le hl⟩
structure Note where
 Op:Int
 Tx:List Int
 Reason:Int
deriving Inhabited,DecidableEq
def NoteC (x:Note):List (List Value):=[[.int .i64 x.Op],av .u8 32 x.Tx,[.int .i64 x.Reason]]
def NoteW (μ:Store)(x:Note):Prop:=InR .i64 x.Op∧Arr .u8 32 x.Tx∧InR .i64 x.Reason
def RNote (μ:Store)(x:Note)(c:List Value):Prop:=c=(NoteC x).flatten∧NoteW μ x
theorem NoteW.le {μ ν:Store}(hl:μ.le ν){x:Note}(h:NoteW μ x):NoteW ν x:=let ⟨h0,h1,h2⟩:=h;⟨h0,h1,h2⟩
theorem RNote.ones {μ:Store}:∀ x c,RNote μ x c→∀ u∈c,u.oneCell'=true:=by
 rintro x c ⟨rfl,hw⟩ u hu
 simp only [NoteC,List.flatten_cons,List.flatten_nil,List.append_nil,List.mem_append,List.mem_singleton,List.mem_cons,List.not_mem_nil,or_false] at hu
 rcases hu with hu | hu | hu <;> first | exact one_av _ _ _ _ hu | (subst hu;rfl)
theorem RNote.le {μ ν:Store}(hl:μ.le ν){x:Note}{c:List Value}(h:RNote μ x c):RNote ν x c:=let ⟨h0,h1⟩:=h;⟨h0,h1.le hl⟩
structure sargassoref18Log where
 Most:Int
 Op:Int
 L:List Note
 Gone:List Note
deriving Inhabited,DecidableEq
def sargassoref18LogC (x:sargassoref18Log)(v0 v1:Value):List (List Value):=[[.int .i64 x.Most],[.int .i64 x.Op],[v0],[v1]]
def sargassoref18LogW (μ:Store)(x:sargassoref18Log)(v0 v1:Value):Prop:=InR .i64 x.Most∧InR .i64 x.Op∧Slc (RNote μ) 34 μ v0 x.L∧Slc (RNote μ) 34 μ v1 x.Gone
def Rsargassoref18Log (μ:Store)(x:sargassoref18Log)(c:List Value):Prop:=∃ v0 v1:Value,c=(sargassoref18LogC x v0 v1).flatten∧sargassoref18LogW μ x v0 v1
theorem sargassoref18LogW.le {μ ν:Store}(hl:μ.le ν){x:sargassoref18Log}{v0:Value}{v1:Value}(h:sargassoref18LogW μ x v0 v1):sargassoref18LogW ν x v0 v1:=let ⟨h0,h1,h2,h3⟩:=h;⟨h0,h1,h2.le (fun _ _ h=>RNote.le hl h) hl,h3.le (fun _ _ h=>RNote.le hl h) hl⟩
theorem Rsargassoref18Log.ones {μ:Store}:∀ x c,Rsargassoref18Log μ x c→∀ u∈c,u.oneCell'=true:=by
 rintro x c ⟨v0,v1,rfl,hw⟩ u hu
 simp only [sargassoref18LogC,List.flatten_cons,List.flatten_nil,List.append_nil,List.mem_append,List.mem_singleton,List.mem_cons,List.not_mem_nil,or_false] at hu
 obtain ⟨_,hs0⟩:=Slc.sv (hw.2.2.1)
 obtain ⟨_,hs1⟩:=Slc.sv (hw.2.2.2)
 rcases hu with hu | hu | hu | hu <;> first | exact one_av _ _ _ _ hu | (subst hu;rfl) | (subst hu;exact one_sl hs0) | (subst hu;exact one_sl hs1)
theorem Rsargassoref18Log.le {μ ν:Store}(hl:μ.le ν){x:sargassoref18Log}{c:List Value}(h:Rsargassoref18Log μ x c):Rsargassoref18Log ν x c:=let ⟨v0,v1,h0,h1⟩:=h;⟨v0,v1,h0,h1.le hl⟩
structure sargassomakeOut where
 at_:Point
 value:Int
 key:List Int
deriving Inhabited,DecidableEq
def sargassomakeOutC (x:sargassomakeOut)(v0:Value):List (List Value):=[av .u8 32 x.at_.Tx,[.int .u32 x.at_.N],[.int .u64 x.value],[v0]]
def sargassomakeOutW (μ:Store)(x:sargassomakeOut)(v0:Value):Prop:=Arr .u8 32 x.at_.Tx∧InR .u32 x.at_.N∧InR .u64 x.value∧Slc (RI .u8) 1 μ v0 x.key
def RsargassomakeOut (μ:Store)(x:sargassomakeOut)(c:List Value):Prop:=∃ v0:Value,c=(sargassomakeOutC x v0).flatten∧sargassomakeOutW μ x v0
theorem sargassomakeOutW.le {μ ν:Store}(hl:μ.le ν){x:sargassomakeOut}{v0:Value}(h:sargassomakeOutW μ x v0):sargassomakeOutW ν x v0:=let ⟨h0,h1,h2,h3⟩:=h;⟨h0,h1,h2,h3.le (fun _ _ h=>h) hl⟩
theorem RsargassomakeOut.ones {μ:Store}:∀ x c,RsargassomakeOut μ x c→∀ u∈c,u.oneCell'=true:=by
 rintro x c ⟨v0,rfl,hw⟩ u hu
 simp only [sargassomakeOutC,List.flatten_cons,List.flatten_nil,List.append_nil,List.mem_append,List.mem_singleton,List.mem_cons,List.not_mem_nil,or_false] at hu
 obtain ⟨_,hs0⟩:=Slc.sv (hw.2.2.2)
 rcases hu with hu | hu | hu | hu <;> first | exact one_av _ _ _ _ hu | (subst hu;rfl) | (subst hu;exact one_sl hs0)
theorem RsargassomakeOut.le {μ ν:Store}(hl:μ.le ν){x:sargassomakeOut}{c:List Value}(h:RsargassomakeOut μ x c):RsargassomakeOut ν x c:=let ⟨v0,h0,h1⟩:=h;⟨v0,h0,h1.le hl⟩
structure sargassomakeOp where
 Kind:Int
 Bytes:List Int
 Time:Int
 N:Int
deriving Inhabited,DecidableEq
def sargassomakeOpC (x:sargassomakeOp)(v0:Value):List (List Value):=[[.int .i64 x.Kind],[v0],[.int .u32 x.Time],[.int .i64 x.N]]
def sargassomakeOpW (μ:Store)(x:sargassomakeOp)(v0:Value):Prop:=InR .i64 x.Kind∧Slc (RI .u8) 1 μ v0 x.Bytes∧InR .u32 x.Time∧InR .i64 x.N
def RsargassomakeOp (μ:Store)(x:sargassomakeOp)(c:List Value):Prop:=∃ v0:Value,c=(sargassomakeOpC x v0).flatten∧sargassomakeOpW μ x v0
theorem sargassomakeOpW.le {μ ν:Store}(hl:μ.le ν){x:sargassomakeOp}{v0:Value}(h:sargassomakeOpW μ x v0):sargassomakeOpW ν x v0:=let ⟨h0,h1,h2,h3⟩:=h;⟨h0,h1.le (fun _ _ h=>h) hl,h2,h3⟩
theorem RsargassomakeOp.ones {μ:Store}:∀ x c,RsargassomakeOp μ x c→∀ u∈c,u.oneCell'=true:=by
 rintro x c ⟨v0,rfl,hw⟩ u hu
 simp only [sargassomakeOpC,List.flatten_cons,List.flatten_nil,List.append_nil,List.mem_append,List.mem_singleton,List.mem_cons,List.not_mem_nil,or_false] at hu
 obtain ⟨_,hs0⟩:=Slc.sv (hw.2.1)
 rcases hu with hu | hu | hu | hu <;> first | exact one_av _ _ _ _ hu | (subst hu;rfl) | (subst hu;exact one_sl hs0)
theorem RsargassomakeOp.le {μ ν:Store}(hl:μ.le ν){x:sargassomakeOp}{c:List Value}(h:RsargassomakeOp μ x c):RsargassomakeOp ν x c:=let ⟨v0,h0,h1⟩:=h;⟨v0,h0,h1.le hl⟩
structure Template where
 Prev:List Int
 Height:Int
 Time:Int
 Txs:List Tx
 Fees:Int
 Bytes:Int
deriving Inhabited,DecidableEq
def TemplateC (x:Template)(v0:Value):List (List Value):=[av .u8 32 x.Prev,[.int .i64 x.Height],[.int .u32 x.Time],[v0],[.int .u64 x.Fees],[.int .i64 x.Bytes]]
def TemplateW (μ:Store)(x:Template)(v0:Value):Prop:=Arr .u8 32 x.Prev∧InR .i64 x.Height∧InR .u32 x.Time∧Slc (RTx μ) 4 μ v0 x.Txs∧InR .u64 x.Fees∧InR .i64 x.Bytes
def RTemplate (μ:Store)(x:Template)(c:List Value):Prop:=∃ v0:Value,c=(TemplateC x v0).flatten∧TemplateW μ x v0
theorem TemplateW.le {μ ν:Store}(hl:μ.le ν){x:Template}{v0:Value}(h:TemplateW μ x v0):TemplateW ν x v0:=let ⟨h0,h1,h2,h3,h4,h5⟩:=h;⟨h0,h1,h2,h3.le (fun _ _ h=>RTx.le hl h) hl,h4,h5⟩
theorem RTemplate.ones {μ:Store}:∀ x c,RTemplate μ x c→∀ u∈c,u.oneCell'=true:=by
 rintro x c ⟨v0,rfl,hw⟩ u hu
 simp only [TemplateC,List.flatten_cons,List.flatten_nil,List.append_nil,List.mem_append,List.mem_singleton,List.mem_cons,List.not_mem_nil,or_false] at hu
 obtain ⟨_,hs0⟩:=Slc.sv (hw.2.2.2.1)
 rcases hu with hu | hu | hu | hu | hu | hu <;> first | exact one_av _ _ _ _ hu | (subst hu;rfl) | (subst hu;exact one_sl hs0)
theorem RTemplate.le {μ ν:Store}(hl:μ.le ν){x:Template}{c:List Value}(h:RTemplate μ x c):RTemplate ν x c:=let ⟨v0,h0,h1⟩:=h;⟨v0,h0,h1.le hl⟩
structure sargassoref18Sum where
 Count:Int
 Bytes:Int
 Fee:Int
deriving Inhabited,DecidableEq
def sargassoref18SumC (x:sargassoref18Sum):List (List Value):=[[.int .i64 x.Count],[.int .i64 x.Bytes],[.int .u64 x.Fee]]
def sargassoref18SumW (μ:Store)(x:sargassoref18Sum):Prop:=InR .i64 x.Count∧InR .i64 x.Bytes∧InR .u64 x.Fee
def Rsargassoref18Sum (μ:Store)(x:sargassoref18Sum)(c:List Value):Prop:=c=(sargassoref18SumC x).flatten∧sargassoref18SumW μ x
theorem sargassoref18SumW.le {μ ν:Store}(hl:μ.le ν){x:sargassoref18Sum}(h:sargassoref18SumW μ x):sargassoref18SumW ν x:=let ⟨h0,h1,h2⟩:=h;⟨h0,h1,h2⟩
theorem Rsargassoref18Sum.ones {μ:Store}:∀ x c,Rsargassoref18Sum μ x c→∀ u∈c,u.oneCell'=true:=by
 rintro x c ⟨rfl,hw⟩ u hu
 simp only [sargassoref18SumC,List.flatten_cons,List.flatten_nil,List.append_nil,List.mem_append,List.mem_singleton,List.mem_cons,List.not_mem_nil,or_false] at hu
 rcases hu with hu | hu | hu <;> first | exact one_av _ _ _ _ hu | (subst hu;rfl)
theorem Rsargassoref18Sum.le {μ ν:Store}(hl:μ.le ν){x:sargassoref18Sum}{c:List Value}(h:Rsargassoref18Sum μ x c):Rsargassoref18Sum ν x c:=let ⟨h0,h1⟩:=h;⟨h0,h1.le hl⟩
structure sargassoref18Item where
 ID:List Int
 Fee:Int
 Bytes:Int
deriving Inhabited,DecidableEq
def sargassoref18ItemC (x:sargassoref18Item):List (List Value):=[av .u8 32 x.ID,[.int .u64 x.Fee],[.int .i64 x.Bytes]]
def sargassoref18ItemW (μ:Store)(x:sargassoref18Item):Prop:=Arr .u8 32 x.ID∧InR .u64 x.Fee∧InR .i64 x.Bytes
def Rsargassoref18Item (μ:Store)(x:sargassoref18Item)(c:List Value):Prop:=c=(sargassoref18ItemC x).flatten∧sargassoref18ItemW μ x
theorem sargassoref18ItemW.le {μ ν:Store}(hl:μ.le ν){x:sargassoref18Item}(h:sargassoref18ItemW μ x):sargassoref18ItemW ν x:=let ⟨h0,h1,h2⟩:=h;⟨h0,h1,h2⟩
theorem Rsargassoref18Item.ones {μ:Store}:∀ x c,Rsargassoref18Item μ x c→∀ u∈c,u.oneCell'=true:=by
 rintro x c ⟨rfl,hw⟩ u hu
 simp only [sargassoref18ItemC,List.flatten_cons,List.flatten_nil,List.append_nil,List.mem_append,List.mem_singleton,List.mem_cons,List.not_mem_nil,or_false] at hu
 rcases hu with hu | hu | hu <;> first | exact one_av _ _ _ _ hu | (subst hu;rfl)
theorem Rsargassoref18Item.le {μ ν:Store}(hl:μ.le ν){x:sargassoref18Item}{c:List Value}(h:Rsargassoref18Item μ x c):Rsargassoref18Item ν x c:=let ⟨h0,h1⟩:=h;⟨h0,h1.le hl⟩
structure sargassoref18Redo where
 Most:Int
 L:List Tx
deriving Inhabited,DecidableEq
def sargassoref18RedoC (x:sargassoref18Redo)(v0:Value):List (List Value):=[[.int .i64 x.Most],[v0]]
def sargassoref18RedoW (μ:Store)(x:sargassoref18Redo)(v0:Value):Prop:=InR .i64 x.Most∧Slc (RTx μ) 4 μ v0 x.L
def Rsargassoref18Redo (μ:Store)(x:sargassoref18Redo)(c:List Value):Prop:=∃ v0:Value,c=(sargassoref18RedoC x v0).flatten∧sargassoref18RedoW μ x v0
theorem sargassoref18RedoW.le {μ ν:Store}(hl:μ.le ν){x:sargassoref18Redo}{v0:Value}(h:sargassoref18RedoW μ x v0):sargassoref18RedoW ν x v0:=let ⟨h0,h1⟩:=h;⟨h0,h1.le (fun _ _ h=>RTx.le hl h) hl⟩
theorem Rsargassoref18Redo.ones {μ:Store}:∀ x c,Rsargassoref18Redo μ x c→∀ u∈c,u.oneCell'=true:=by
 rintro x c ⟨v0,rfl,hw⟩ u hu
 simp only [sargassoref18RedoC,List.flatten_cons,List.flatten_nil,List.append_nil,List.mem_append,List.mem_singleton,List.mem_cons,List.not_mem_nil,or_false] at hu
 obtain ⟨_,hs0⟩:=Slc.sv (hw.2)
 rcases hu with hu | hu <;> first | exact one_av _ _ _ _ hu | (subst hu;rfl) | (subst hu;exact one_sl hs0)
theorem Rsargassoref18Redo.le {μ ν:Store}(hl:μ.le ν){x:sargassoref18Redo}{c:List Value}(h:Rsargassoref18Redo μ x c):Rsargassoref18Redo ν x c:=let ⟨v0,h0,h1⟩:=h;⟨v0,h0,h1.le hl⟩
structure q1Rd where
 B:List Int
 E:Int
deriving Inhabited,DecidableEq
def q1RdC (x:q1Rd)(v0:Value):List (List Value):=[[v0],[.int .i64 x.E]]
def q1RdW (μ:Store)(x:q1Rd)(v0:Value):Prop:=Slc (RI .u8) 1 μ v0 x.B∧InR .i64 x.E
def Rq1Rd (μ:Store)(x:q1Rd)(c:List Value):Prop:=∃ v0:Value,c=(q1RdC x v0).flatten∧q1RdW μ x v0
theorem q1RdW.le {μ ν:Store}(hl:μ.le ν){x:q1Rd}{v0:Value}(h:q1RdW μ x v0):q1RdW ν x v0:=let ⟨h0,h1⟩:=h;⟨h0.le (fun _ _ h=>h) hl,h1⟩
theorem Rq1Rd.ones {μ:Store}:∀ x c,Rq1Rd μ x c→∀ u∈c,u.oneCell'=true:=by
 rintro x c ⟨v0,rfl,hw⟩ u hu
 simp only [q1RdC,List.flatten_cons,List.flatten_nil,List.append_nil,List.mem_append,List.mem_singleton,List.mem_cons,List.not_mem_nil,or_false] at hu
 obtain ⟨_,hs0⟩:=Slc.sv (hw.1)
 rcases hu with hu | hu <;> first | exact one_av _ _ _ _ hu | (subst hu;rfl) | (subst hu;exact one_sl hs0)
theorem Rq1Rd.le {μ ν:Store}(hl:μ.le ν){x:q1Rd}{c:List Value}(h:Rq1Rd μ x c):Rq1Rd ν x c:=let ⟨v0,h0,h1⟩:=h;⟨v0,h0,h1.le hl⟩
structure sargassoref18Where where
 Height:Int
 Pasts:List Int
deriving Inhabited,DecidableEq
def sargassoref18WhereC (x:sargassoref18Where)(v0:Value):List (List Value):=[[.int .i64 x.Height],[v0]]
def sargassoref18WhereW (μ:Store)(x:sargassoref18Where)(v0:Value):Prop:=InR .i64 x.Height∧Slc (RI .u32) 1 μ v0 x.Pasts
def Rsargassoref18Where (μ:Store)(x:sargassoref18Where)(c:List Value):Prop:=∃ v0:Value,c=(sargassoref18WhereC x v0).flatten∧sargassoref18WhereW μ x v0
theorem sargassoref18WhereW.le {μ ν:Store}(hl:μ.le ν){x:sargassoref18Where}{v0:Value}(h:sargassoref18WhereW μ x v0):sargassoref18WhereW ν x v0:=let ⟨h0,h1⟩:=h;⟨h0,h1.le (fun _ _ h=>h) hl⟩
theorem Rsargassoref18Where.ones {μ:Store}:∀ x c,Rsargassoref18Where μ x c→∀ u∈c,u.oneCell'=true:=by
 rintro x c ⟨v0,rfl,hw⟩ u hu
 simp only [sargassoref18WhereC,List.flatten_cons,List.flatten_nil,List.append_nil,List.mem_append,List.mem_singleton,List.mem_cons,List.not_mem_nil,or_false] at hu
 obtain ⟨_,hs0⟩:=Slc.sv (hw.2)
 rcases hu with hu | hu <;> first | exact one_av _ _ _ _ hu | (subst hu;rfl) | (subst hu;exact one_sl hs0)
theorem Rsargassoref18Where.le {μ ν:Store}(hl:μ.le ν){x:sargassoref18Where}{c:List Value}(h:Rsargassoref18Where μ x c):Rsargassoref18Where ν x c:=let ⟨v0,h0,h1⟩:=h;⟨v0,h0,h1.le hl⟩
abbrev kv107 (x:List Int):Value:=.agg [av .u8 32 x].flatten.toArray
abbrev nq107 (μ:Store)(x:treeNode)(cs:List Value):Prop:=HeadW μ x.head∧InR .i64 x.height∧InR .u64 x.work∧Els (RA .u8 32) 32 x.up cs
abbrev nw107 (μ:Store)(m:List ((List Int)×treeNode))(gs:(List Int)→NG):Prop:=NdW (fun x:List Int=>Arr .u8 32 x) (nq107 μ) m gs
abbrev nd107 (g:Nat)(m:List ((List Int)×treeNode))(gs:(List Int)→NG):It:=ndI treeNodeC 106 25 32 (fun x=>x.up.length) kv107 g m gs
abbrev nr107 (g:Nat)(m:List ((List Int)×treeNode))(gs:(List Int)→NG)(k:List Int):It:=ndR treeNodeC 106 25 32 (fun x=>x.up.length) kv107 g m gs k
theorem nw107.le {μ ν:Store}{m:List ((List Int)×treeNode)}{gs:(List Int)→NG}(hl:μ.le ν)(h:nw107 μ m gs):nw107 ν m gs:=NdW.mono h fun _ _ h=>⟨(h.1).le hl,h.2.1,h.2.2.1,h.2.2.2⟩
theorem mo:Tryz.prog.follows .mixedOrders=true:=by kernel_rfl
theorem erF:ErF Tryz.prog 37 374 231:=ErF.of Tryz.underlying37 Tryz.underlying374 (by kernel_rfl) (by kernel_rfl) (by decide)
theorem zrA:(Tryz.prog.info? 231).map (·.zero)=some (some (.pointer none)):=by kernel_rfl
theorem sz2:(Tryz.prog.info? 2).map (·.size)=some 1:=by kernel_rfl
theorem sz3:(Tryz.prog.info? 3).map (·.size)=some 1:=by kernel_rfl
theorem sz4:(Tryz.prog.info? 4).map (·.size)=some 1:=by kernel_rfl
theorem sz5:(Tryz.prog.info? 5).map (·.size)=some 1:=by kernel_rfl
theorem sz23:(Tryz.prog.info? 23).map (·.size)=some 1:=by kernel_rfl
theorem sz25:(Tryz.prog.info? 25).map (·.size)=some 32:=by kernel_rfl
theorem sz27:(Tryz.prog.info? 27).map (·.size)=some 68:=by kernel_rfl
theorem sz37:(Tryz.prog.info? 37).map (·.size)=some 1:=by kernel_rfl
theorem sz42:(Tryz.prog.info? 42).map (·.size)=some 1:=by kernel_rfl
theorem sz45:(Tryz.prog.info? 45).map (·.size)=some 1:=by kernel_rfl
theorem sz81:(Tryz.prog.info? 81).map (·.size)=some 1:=by kernel_rfl
theorem sz89:(Tryz.prog.info? 89).map (·.size)=some 69:=by kernel_rfl
theorem sz107:(Tryz.prog.info? 107).map (·.size)=some 1:=by kernel_rfl
theorem sz111:(Tryz.prog.info? 111).map (·.size)=some 104:=by kernel_rfl
theorem sz112:(Tryz.prog.info? 112).map (·.size)=some 1:=by kernel_rfl
theorem sz117:(Tryz.prog.info? 117).map (·.size)=some 5:=by kernel_rfl
theorem sz122:(Tryz.prog.info? 122).map (·.size)=some 1:=by kernel_rfl
theorem sz148:(Tryz.prog.info? 148).map (·.size)=some 1:=by kernel_rfl
theorem sz149:(Tryz.prog.info? 149).map (·.size)=some 1:=by kernel_rfl
theorem sz151:(Tryz.prog.info? 151).map (·.size)=some 4:=by kernel_rfl
theorem sz218:(Tryz.prog.info? 218).map (·.size)=some 33:=by kernel_rfl
theorem sz220:(Tryz.prog.info? 220).map (·.size)=some 35:=by kernel_rfl
theorem sz223:(Tryz.prog.info? 223).map (·.size)=some 33:=by kernel_rfl
theorem sz271:(Tryz.prog.info? 271).map (·.size)=some 8:=by kernel_rfl
theorem sz334:(Tryz.prog.info? 334).map (·.size)=some 64:=by kernel_rfl
theorem eg25:Tryz.prog.eqGuardType Tryz.prog.depth 25=false:=by kernel_rfl
theorem xc146 : (Tryz.f146.name == "runtime.NumGoroutine") = false ∧ Tryz.f146.body.isNone = true ∧ Extern.findNext Tryz.f146 = none := ⟨by kernel_rfl, by kernel_rfl, by kernel_rfl⟩
theorem xe146:Extern.find Tryz.f146=some Extern.BytealgCompare.compare:=by kernel_rfl
theorem cf5:CalleeF Tryz.prog 5:=⟨Tryz.f5,Tryz.func5,by decide,rfl⟩
theorem cf6:CalleeF Tryz.prog 6:=⟨Tryz.f6,Tryz.func6,by decide,rfl⟩
theorem cf7:CalleeF Tryz.prog 7:=⟨Tryz.f7,Tryz.func7,by decide,rfl⟩
theorem cf8:CalleeF Tryz.prog 8:=⟨Tryz.f8,Tryz.func8,by decide,rfl⟩
theorem cf9:CalleeF Tryz.prog 9:=⟨Tryz.f9,Tryz.func9,by decide,rfl⟩
theorem cf10:CalleeF Tryz.prog 10:=⟨Tryz.f10,Tryz.func10,by decide,rfl⟩
theorem cf11:CalleeF Tryz.prog 11:=⟨Tryz.f11,Tryz.func11,by decide,rfl⟩
theorem cf12:CalleeF Tryz.prog 12:=⟨Tryz.f12,Tryz.func12,by decide,rfl⟩
theorem cf13:CalleeF Tryz.prog 13:=⟨Tryz.f13,Tryz.func13,by decide,rfl⟩
theorem cf14:CalleeF Tryz.prog 14:=⟨Tryz.f14,Tryz.func14,by decide,rfl⟩
theorem cf15:CalleeF Tryz.prog 15:=⟨Tryz.f15,Tryz.func15,by decide,rfl⟩
theorem cf16:CalleeF Tryz.prog 16:=⟨Tryz.f16,Tryz.func16,by decide,rfl⟩
theorem cf17:CalleeF Tryz.prog 17:=⟨Tryz.f17,Tryz.func17,by decide,rfl⟩
theorem cf18:CalleeF Tryz.prog 18:=⟨Tryz.f18,Tryz.func18,by decide,rfl⟩
theorem cf19:CalleeF Tryz.prog 19:=⟨Tryz.f19,Tryz.func19,by decide,rfl⟩
theorem cf20:CalleeF Tryz.prog 20:=⟨Tryz.f20,Tryz.func20,by decide,rfl⟩
theorem cf21:CalleeF Tryz.prog 21:=⟨Tryz.f21,Tryz.func21,by decide,rfl⟩
theorem cf22:CalleeF Tryz.prog 22:=⟨Tryz.f22,Tryz.func22,by decide,rfl⟩
theorem cf23:CalleeF Tryz.prog 23:=⟨Tryz.f23,Tryz.func23,by decide,rfl⟩
theorem cf24:CalleeF Tryz.prog 24:=⟨Tryz.f24,Tryz.func24,by decide,rfl⟩
theorem cf25:CalleeF Tryz.prog 25:=⟨Tryz.f25,Tryz.func25,by decide,rfl⟩
theorem cf26:CalleeF Tryz.prog 26:=⟨Tryz.f26,Tryz.func26,by decide,rfl⟩
theorem cf27:CalleeF Tryz.prog 27:=⟨Tryz.f27,Tryz.func27,by decide,rfl⟩
theorem cf28:CalleeF Tryz.prog 28:=⟨Tryz.f28,Tryz.func28,by decide,rfl⟩
theorem cf29:CalleeF Tryz.prog 29:=⟨Tryz.f29,Tryz.func29,by decide,rfl⟩
theorem cf30:CalleeF Tryz.prog 30:=⟨Tryz.f30,Tryz.func30,by decide,rfl⟩
theorem cf31:CalleeF Tryz.prog 31:=⟨Tryz.f31,Tryz.func31,by decide,rfl⟩
theorem cf49:CalleeF Tryz.prog 49:=⟨Tryz.f49,Tryz.func49,by decide,rfl⟩
theorem cf50:CalleeF Tryz.prog 50:=⟨Tryz.f50,Tryz.func50,by decide,rfl⟩
theorem cf51:CalleeF Tryz.prog 51:=⟨Tryz.f51,Tryz.func51,by decide,rfl⟩
theorem cf52:CalleeF Tryz.prog 52:=⟨Tryz.f52,Tryz.func52,by decide,rfl⟩
theorem cf53:CalleeF Tryz.prog 53:=⟨Tryz.f53,Tryz.func53,by decide,rfl⟩
theorem cf54:CalleeF Tryz.prog 54:=⟨Tryz.f54,Tryz.func54,by decide,rfl⟩
theorem cf55:CalleeF Tryz.prog 55:=⟨Tryz.f55,Tryz.func55,by decide,rfl⟩
theorem cf56:CalleeF Tryz.prog 56:=⟨Tryz.f56,Tryz.func56,by decide,rfl⟩
theorem cf58:CalleeF Tryz.prog 58:=⟨Tryz.f58,Tryz.func58,by decide,rfl⟩
theorem cf59:CalleeF Tryz.prog 59:=⟨Tryz.f59,Tryz.func59,by decide,rfl⟩
theorem cf60:CalleeF Tryz.prog 60:=⟨Tryz.f60,Tryz.func60,by decide,rfl⟩
theorem cf61:CalleeF Tryz.prog 61:=⟨Tryz.f61,Tryz.func61,by decide,rfl⟩
theorem cf62:CalleeF Tryz.prog 62:=⟨Tryz.f62,Tryz.func62,by decide,rfl⟩
theorem cf71:CalleeF Tryz.prog 71:=⟨Tryz.f71,Tryz.func71,by decide,rfl⟩
theorem cf73:CalleeF Tryz.prog 73:=⟨Tryz.f73,Tryz.func73,by decide,rfl⟩
theorem cf84:CalleeF Tryz.prog 84:=⟨Tryz.f84,Tryz.func84,by decide,rfl⟩
theorem cf85:CalleeF Tryz.prog 85:=⟨Tryz.f85,Tryz.func85,by decide,rfl⟩
theorem cf86:CalleeF Tryz.prog 86:=⟨Tryz.f86,Tryz.func86,by decide,rfl⟩
theorem cf87:CalleeF Tryz.prog 87:=⟨Tryz.f87,Tryz.func87,by decide,rfl⟩
theorem cf88:CalleeF Tryz.prog 88:=⟨Tryz.f88,Tryz.func88,by decide,rfl⟩
theorem cf89:CalleeF Tryz.prog 89:=⟨Tryz.f89,Tryz.func89,by decide,rfl⟩
theorem cf90:CalleeF Tryz.prog 90:=⟨Tryz.f90,Tryz.func90,by decide,rfl⟩
theorem cf91:CalleeF Tryz.prog 91:=⟨Tryz.f91,Tryz.func91,by decide,rfl⟩
theorem cf94:CalleeF Tryz.prog 94:=⟨Tryz.f94,Tryz.func94,by decide,rfl⟩
theorem cf95:CalleeF Tryz.prog 95:=⟨Tryz.f95,Tryz.func95,by decide,rfl⟩
theorem cf96:CalleeF Tryz.prog 96:=⟨Tryz.f96,Tryz.func96,by decide,rfl⟩
theorem cf100:CalleeF Tryz.prog 100:=⟨Tryz.f100,Tryz.func100,by decide,rfl⟩
theorem cf116:CalleeF Tryz.prog 116:=⟨Tryz.f116,Tryz.func116,by decide,rfl⟩
theorem cf124:CalleeF Tryz.prog 124:=⟨Tryz.f124,Tryz.func124,by decide,rfl⟩
theorem cf125:CalleeF Tryz.prog 125:=⟨Tryz.f125,Tryz.func125,by decide,rfl⟩
theorem cf126:CalleeF Tryz.prog 126:=⟨Tryz.f126,Tryz.func126,by decide,rfl⟩
theorem cf127:CalleeF Tryz.prog 127:=⟨Tryz.f127,Tryz.func127,by decide,rfl⟩
theorem cf128:CalleeF Tryz.prog 128:=⟨Tryz.f128,Tryz.func128,by decide,rfl⟩
theorem cf129:CalleeF Tryz.prog 129:=⟨Tryz.f129,Tryz.func129,by decide,rfl⟩
theorem cf130:CalleeF Tryz.prog 130:=⟨Tryz.f130,Tryz.func130,by decide,rfl⟩
theorem cf131:CalleeF Tryz.prog 131:=⟨Tryz.f131,Tryz.func131,by decide,rfl⟩
theorem cf132:CalleeF Tryz.prog 132:=⟨Tryz.f132,Tryz.func132,by decide,rfl⟩
theorem cf133:CalleeF Tryz.prog 133:=⟨Tryz.f133,Tryz.func133,by decide,rfl⟩
theorem cf134:CalleeF Tryz.prog 134:=⟨Tryz.f134,Tryz.func134,by decide,rfl⟩
theorem cf135:CalleeF Tryz.prog 135:=⟨Tryz.f135,Tryz.func135,by decide,rfl⟩
theorem cf149:CalleeF Tryz.prog 149:=⟨Tryz.f149,Tryz.func149,by decide,rfl⟩
theorem cf150:CalleeF Tryz.prog 150:=⟨Tryz.f150,Tryz.func150,by decide,rfl⟩
theorem cf164:CalleeF Tryz.prog 164:=⟨Tryz.f164,Tryz.func164,by decide,rfl⟩
theorem cf165:CalleeF Tryz.prog 165:=⟨Tryz.f165,Tryz.func165,by decide,rfl⟩
theorem cf166:CalleeF Tryz.prog 166:=⟨Tryz.f166,Tryz.func166,by decide,rfl⟩
theorem cf167:CalleeF Tryz.prog 167:=⟨Tryz.f167,Tryz.func167,by decide,rfl⟩
theorem cf168:CalleeF Tryz.prog 168:=⟨Tryz.f168,Tryz.func168,by decide,rfl⟩
theorem cf169:CalleeF Tryz.prog 169:=⟨Tryz.f169,Tryz.func169,by decide,rfl⟩
theorem cf170:CalleeF Tryz.prog 170:=⟨Tryz.f170,Tryz.func170,by decide,rfl⟩
theorem cf171:CalleeF Tryz.prog 171:=⟨Tryz.f171,Tryz.func171,by decide,rfl⟩
theorem cf177:CalleeF Tryz.prog 177:=⟨Tryz.f177,Tryz.func177,by decide,rfl⟩
theorem cf195:CalleeF Tryz.prog 195:=⟨Tryz.f195,Tryz.func195,by decide,rfl⟩
theorem cf196:CalleeF Tryz.prog 196:=⟨Tryz.f196,Tryz.func196,by decide,rfl⟩
theorem cf197:CalleeF Tryz.prog 197:=⟨Tryz.f197,Tryz.func197,by decide,rfl⟩
theorem cf223:CalleeF Tryz.prog 223:=⟨Tryz.f223,Tryz.func223,by decide,rfl⟩
theorem cf224:CalleeF Tryz.prog 224:=⟨Tryz.f224,Tryz.func224,by decide,rfl⟩
theorem cf225:CalleeF Tryz.prog 225:=⟨Tryz.f225,Tryz.func225,by decide,rfl⟩
theorem cf226:CalleeF Tryz.prog 226:=⟨Tryz.f226,Tryz.func226,by decide,rfl⟩
theorem cf243:CalleeF Tryz.prog 243:=⟨Tryz.f243,Tryz.func243,by decide,rfl⟩
theorem zr3:∃ z,(Tryz.prog.info? 3).map (·.zero)=some (some z)∧z.cells=([[.int .i64 0]]:List (List Value)).flatten.toArray:=⟨.int .i64 0,by kernel_rfl,by kernel_rfl⟩
theorem zr5:∃ z,(Tryz.prog.info? 5).map (·.zero)=some (some z)∧z.cells=([[.int .u8 0]]:List (List Value)).flatten.toArray:=⟨.int .u8 0,by kernel_rfl,by kernel_rfl⟩
theorem zr23:∃ z,(Tryz.prog.info? 23).map (·.zero)=some (some z)∧z.cells=([[.int .u32 0]]:List (List Value)).flatten.toArray:=⟨.int .u32 0,by kernel_rfl,by kernel_rfl⟩
theorem zr25:∃ z,(Tryz.prog.info? 25).map (·.zero)=some (some z)∧z.cells=([av .u8 32 (List.replicate 32 0)]:List (List Value)).flatten.toArray:=⟨.agg #[.int .u8 0,.int .u8 0,.int .u8 0,.int .u8 0,.int .u8 0,.int .u8 0,.int .u8 0,.int .u8 0,.int .u8 0,.int .u8 0,.int .u8 0,.int .u8 0,.int .u8 0,.int .u8 0,.int .u8 0,.int .u8 0,.int .u8 0,.int .u8 0,.int .u8 0,.int .u8 0,.int .u8 0,.int .u8 0,.int .u8 0,.int .u8 0,.int .u8 0,.int .u8 0,.int .u8 0,.int .u8 0,.int .u8 0,.int .u8 0,.int .u8 0,.int .u8 0],by kernel_rfl,by kernel_rfl⟩
theorem zr27:∃ z,(Tryz.prog.info? 27).map (·.zero)=some (some z)∧z.cells=([[.int .u32 0],av .u8 32 (List.replicate 32 0),av .u8 32 (List.replicate 32 0),[.int .u32 0],[.int .u32 0],[.int .u32 0]]:List (List Value)).flatten.toArray:=⟨.agg #[.int .u32 0,.int .u8 0,.int .u8 0,.int .u8 0,.int .u8 0,.int .u8 0,.int .u8 0,.int .u8 0,.int .u8 0,.int .u8 0,.int .u8 0,.int .u8 0,.int .u8 0,.int .u8 0,.int .u8 0,.int .u8 0,.int .u8 0,.int .u8 0,.int .u8 0,.int .u8 0,.int .u8 0,.int .u8 0,.int .u8 0,.int .u8 0,.int .u8 0,.int .u8 0,.int .u8 0,.int .u8 0,.int .u8 0,.int .u8 0,.int .u8 0,.int .u8 0,.int .u8 0,.int .u8 0,.int .u8 0,.int .u8 0,.int .u8 0,.int .u8 0,.int .u8 0,.int .u8 0,.int .u8 0,.int .u8 0,.int .u8 0,.int .u8 0,.int .u8 0,.int .u8 0,.int .u8 0,.int .u8 0,.int .u8 0,.int .u8 0,.int .u8 0,.int .u8 0,.int .u8 0,.int .u8 0,.int .u8 0,.int .u8 0,.int .u8 0,.int .u8 0,.int .u8 0,.int .u8 0,.int .u8 0,.int .u8 0,.int .u8 0,.int .u8 0,.int .u8 0,.int .u32 0,.int .u32 0,.int .u32 0],by kernel_rfl,by kernel_rfl⟩
theorem zr37:∃ z,(Tryz.prog.info? 37).map (·.zero)=some (some z)∧z.cells=([[.nilIface]]:List (List Value)).flatten.toArray:=⟨.nilIface,by kernel_rfl,by kernel_rfl⟩
theorem zr89:∃ z,(Tryz.prog.info? 89).map (·.zero)=some (some z)∧z.cells=([[.int .u32 0],av .u8 32 (List.replicate 32 0),av .u8 32 (List.replicate 32 0),[.int .u32 0],[.int .u32 0],[.int .u32 0],[(.slice none 0 0)]]:List (List Value)).flatten.toArray:=⟨.agg #[.int .u32 0,.int .u8 0,.int .u8 0,.int .u8 0,.int .u8 0,.int .u8 0,.int .u8 0,.int .u8 0,.int .u8 0,.int .u8 0,.int .u8 0,.int .u8 0,.int .u8 0,.int .u8 0,.int .u8 0,.int .u8 0,.int .u8 0,.int .u8 0,.int .u8 0,.int .u8 0,.int .u8 0,.int .u8 0,.int .u8 0,.int .u8 0,.int .u8 0,.int .u8 0,.int .u8 0,.int .u8 0,.int .u8 0,.int .u8 0,.int .u8 0,.int .u8 0,.int .u8 0,.int .u8 0,.int .u8 0,.int .u8 0,.int .u8 0,.int .u8 0,.int .u8 0,.int .u8 0,.int .u8 0,.int .u8 0,.int .u8 0,.int .u8 0,.int .u8 0,.int .u8 0,.int .u8 0,.int .u8 0,.int .u8 0,.int .u8 0,.int .u8 0,.int .u8 0,.int .u8 0,.int .u8 0,.int .u8 0,.int .u8 0,.int .u8 0,.int .u8 0,.int .u8 0,.int .u8 0,.int .u8 0,.int .u8 0,.int .u8 0,.int .u8 0,.int .u8 0,.int .u32 0,.int .u32 0,.int .u32 0,.slice none 0 0],by kernel_rfl,by kernel_rfl⟩
theorem zr106:∃ z,(Tryz.prog.info? 106).map (·.zero)=some (some z)∧z.cells=([[.int .u32 0],av .u8 32 (List.replicate 32 0),av .u8 32 (List.replicate 32 0),[.int .u32 0],[.int .u32 0],[.int .u32 0],[.int .i64 0],[.int .u64 0],[(.slice none 0 0)]]:List (List Value)).flatten.toArray:=⟨.agg #[.int .u32 0,.int .u8 0,.int .u8 0,.int .u8 0,.int .u8 0,.int .u8 0,.int .u8 0,.int .u8 0,.int .u8 0,.int .u8 0,.int .u8 0,.int .u8 0,.int .u8 0,.int .u8 0,.int .u8 0,.int .u8 0,.int .u8 0,.int .u8 0,.int .u8 0,.int .u8 0,.int .u8 0,.int .u8 0,.int .u8 0,.int .u8 0,.int .u8 0,.int .u8 0,.int .u8 0,.int .u8 0,.int .u8 0,.int .u8 0,.int .u8 0,.int .u8 0,.int .u8 0,.int .u8 0,.int .u8 0,.int .u8 0,.int .u8 0,.int .u8 0,.int .u8 0,.int .u8 0,.int .u8 0,.int .u8 0,.int .u8 0,.int .u8 0,.int .u8 0,.int .u8 0,.int .u8 0,.int .u8 0,.int .u8 0,.int .u8 0,.int .u8 0,.int .u8 0,.int .u8 0,.int .u8 0,.int .u8 0,.int .u8 0,.int .u8 0,.int .u8 0,.int .u8 0,.int .u8 0,.int .u8 0,.int .u8 0,.int .u8 0,.int .u8 0,.int .u8 0,.int .u32 0,.int .u32 0,.int .u32 0,.int .i64 0,.int .u64 0,.slice none 0 0],by kernel_rfl,by kernel_rfl⟩
theorem zr109:∃ z,(Tryz.prog.info? 109).map (·.zero)=some (some z)∧z.cells=([[.map none],av .u8 32 (List.replicate 32 0)]:List (List Value)).flatten.toArray:=⟨.agg #[.map none,.int .u8 0,.int .u8 0,.int .u8 0,.int .u8 0,.int .u8 0,.int .u8 0,.int .u8 0,.int .u8 0,.int .u8 0,.int .u8 0,.int .u8 0,.int .u8 0,.int .u8 0,.int .u8 0,.int .u8 0,.int .u8 0,.int .u8 0,.int .u8 0,.int .u8 0,.int .u8 0,.int .u8 0,.int .u8 0,.int .u8 0,.int .u8 0,.int .u8 0,.int .u8 0,.int .u8 0,.int .u8 0,.int .u8 0,.int .u8 0,.int .u8 0,.int .u8 0],by kernel_rfl,by kernel_rfl⟩
theorem zr111:∃ z,(Tryz.prog.info? 111).map (·.zero)=some (some z)∧z.cells=([av .u8 32 (List.replicate 32 0),[.int .u32 0],av .u8 32 (List.replicate 32 0),av .u8 32 (List.replicate 32 0),[.int .u32 0],[.int .u32 0],[.int .u32 0],[.int .i64 0],[.int .i64 0],[.int .u64 0],[.bool false]]:List (List Value)).flatten.toArray:=⟨.agg #[.int .u8 0,.int .u8 0,.int .u8 0,.int .u8 0,.int .u8 0,.int .u8 0,.int .u8 0,.int .u8 0,.int .u8 0,.int .u8 0,.int .u8 0,.int .u8 0,.int .u8 0,.int .u8 0,.int .u8 0,.int .u8 0,.int .u8 0,.int .u8 0,.int .u8 0,.int .u8 0,.int .u8 0,.int .u8 0,.int .u8 0,.int .u8 0,.int .u8 0,.int .u8 0,.int .u8 0,.int .u8 0,.int .u8 0,.int .u8 0,.int .u8 0,.int .u8 0,.int .u32 0,.int .u8 0,.int .u8 0,.int .u8 0,.int .u8 0,.int .u8 0,.int .u8 0,.int .u8 0,.int .u8 0,.int .u8 0,.int .u8 0,.int .u8 0,.int .u8 0,.int .u8 0,.int .u8 0,.int .u8 0,.int .u8 0,.int .u8 0,.int .u8 0,.int .u8 0,.int .u8 0,.int .u8 0,.int .u8 0,.int .u8 0,.int .u8 0,.int .u8 0,.int .u8 0,.int .u8 0,.int .u8 0,.int .u8 0,.int .u8 0,.int .u8 0,.int .u8 0,.int .u8 0,.int .u8 0,.int .u8 0,.int .u8 0,.int .u8 0,.int .u8 0,.int .u8 0,.int .u8 0,.int .u8 0,.int .u8 0,.int .u8 0,.int .u8 0,.int .u8 0,.int .u8 0,.int .u8 0,.int .u8 0,.int .u8 0,.int .u8 0,.int .u8 0,.int .u8 0,.int .u8 0,.int .u8 0,.int .u8 0,.int .u8 0,.int .u8 0,.int .u8 0,.int .u8 0,.int .u8 0,.int .u8 0,.int .u8 0,.int .u8 0,.int .u8 0,.int .u32 0,.int .u32 0,.int .u32 0,.int .i64 0,.int .i64 0,.int .u64 0,.bool false],by kernel_rfl,by kernel_rfl⟩
theorem zr114:∃ z,(Tryz.prog.info? 114).map (·.zero)=some (some z)∧z.cells=([[(.slice none 0 0)]]:List (List Value)).flatten.toArray:=⟨.agg #[.slice none 0 0],by kernel_rfl,by kernel_rfl⟩
theorem zr117:∃ z,(Tryz.prog.info? 117).map (·.zero)=some (some z)∧z.cells=([[.int .i64 0],[.bool false],[.int .i64 0],[.bool false],[.int .i64 0]]:List (List Value)).flatten.toArray:=⟨.agg #[.int .i64 0,.bool false,.int .i64 0,.bool false,.int .i64 0],by kernel_rfl,by kernel_rfl⟩
theorem zr122:∃ z,(Tryz.prog.info? 122).map (·.zero)=some (some z)∧z.cells=([[(.slice none 0 0)]]:List (List Value)).flatten.toArray:=⟨.slice none 0 0,by kernel_rfl,by kernel_rfl⟩
theorem zr151:∃ z,(Tryz.prog.info? 151).map (·.zero)=some (some z)∧z.cells=([[.int .u32 0],[(.slice none 0 0)],[(.slice none 0 0)],[.int .u32 0]]:List (List Value)).flatten.toArray:=⟨.agg #[.int .u32 0,.slice none 0 0,.slice none 0 0,.int .u32 0],by kernel_rfl,by kernel_rfl⟩
theorem zr218:∃ z,(Tryz.prog.info? 218).map (·.zero)=some (some z)∧z.cells=([av .u8 32 (List.replicate 32 0),[.int .u32 0]]:List (List Value)).flatten.toArray:=⟨.agg #[.int .u8 0,.int .u8 0,.int .u8 0,.int .u8 0,.int .u8 0,.int .u8 0,.int .u8 0,.int .u8 0,.int .u8 0,.int .u8 0,.int .u8 0,.int .u8 0,.int .u8 0,.int .u8 0,.int .u8 0,.int .u8 0,.int .u8 0,.int .u8 0,.int .u8 0,.int .u8 0,.int .u8 0,.int .u8 0,.int .u8 0,.int .u8 0,.int .u8 0,.int .u8 0,.int .u8 0,.int .u8 0,.int .u8 0,.int .u8 0,.int .u8 0,.int .u8 0,.int .u32 0],by kernel_rfl,by kernel_rfl⟩
theorem zr220:∃ z,(Tryz.prog.info? 220).map (·.zero)=some (some z)∧z.cells=([av .u8 32 (List.replicate 32 0),[.int .u32 0],[(.slice none 0 0)],[.int .u32 0]]:List (List Value)).flatten.toArray:=⟨.agg #[.int .u8 0,.int .u8 0,.int .u8 0,.int .u8 0,.int .u8 0,.int .u8 0,.int .u8 0,.int .u8 0,.int .u8 0,.int .u8 0,.int .u8 0,.int .u8 0,.int .u8 0,.int .u8 0,.int .u8 0,.int .u8 0,.int .u8 0,.int .u8 0,.int .u8 0,.int .u8 0,.int .u8 0,.int .u8 0,.int .u8 0,.int .u8 0,.int .u8 0,.int .u8 0,.int .u8 0,.int .u8 0,.int .u8 0,.int .u8 0,.int .u8 0,.int .u8 0,.int .u32 0,.slice none 0 0,.int .u32 0],by kernel_rfl,by kernel_rfl⟩
theorem zr223:∃ z,(Tryz.prog.info? 223).map (·.zero)=some (some z)∧z.cells=([[.int .u64 0],av .u8 32 (List.replicate 32 0)]:List (List Value)).flatten.toArray:=⟨.agg #[.int .u64 0,.int .u8 0,.int .u8 0,.int .u8 0,.int .u8 0,.int .u8 0,.int .u8 0,.int .u8 0,.int .u8 0,.int .u8 0,.int .u8 0,.int .u8 0,.int .u8 0,.int .u8 0,.int .u8 0,.int .u8 0,.int .u8 0,.int .u8 0,.int .u8 0,.int .u8 0,.int .u8 0,.int .u8 0,.int .u8 0,.int .u8 0,.int .u8 0,.int .u8 0,.int .u8 0,.int .u8 0,.int .u8 0,.int .u8 0,.int .u8 0,.int .u8 0,.int .u8 0],by kernel_rfl,by kernel_rfl⟩
theorem zr271:∃ z,(Tryz.prog.info? 271).map (·.zero)=some (some z)∧z.cells=([av .u32 8 (List.replicate 8 0)]:List (List Value)).flatten.toArray:=⟨.agg #[.int .u32 0,.int .u32 0,.int .u32 0,.int .u32 0,.int .u32 0,.int .u32 0,.int .u32 0,.int .u32 0],by kernel_rfl,by kernel_rfl⟩
theorem zr273:∃ z,(Tryz.prog.info? 273).map (·.zero)=some (some z)∧z.cells=([av .u32 8 (List.replicate 8 0),[(.slice none 0 0)],[.int .i64 0]]:List (List Value)).flatten.toArray:=⟨.agg #[.int .u32 0,.int .u32 0,.int .u32 0,.int .u32 0,.int .u32 0,.int .u32 0,.int .u32 0,.int .u32 0,.slice none 0 0,.int .i64 0],by kernel_rfl,by kernel_rfl⟩
theorem zr334:∃ z,(Tryz.prog.info? 334).map (·.zero)=some (some z)∧z.cells=([av .u32 64 (List.replicate 64 0)]:List (List Value)).flatten.toArray:=⟨.agg #[.int .u32 0,.int .u32 0,.int .u32 0,.int .u32 0,.int .u32 0,.int .u32 0,.int .u32 0,.int .u32 0,.int .u32 0,.int .u32 0,.int .u32 0,.int .u32 0,.int .u32 0,.int .u32 0,.int .u32 0,.int .u32 0,.int .u32 0,.int .u32 0,.int .u32 0,.int .u32 0,.int .u32 0,.int .u32 0,.int .u32 0,.int .u32 0,.int .u32 0,.int .u32 0,.int .u32 0,.int .u32 0,.int .u32 0,.int .u32 0,.int .u32 0,.int .u32 0,.int .u32 0,.int .u32 0,.int .u32 0,.int .u32 0,.int .u32 0,.int .u32 0,.int .u32 0,.int .u32 0,.int .u32 0,.int .u32 0,.int .u32 0,.int .u32 0,.int .u32 0,.int .u32 0,.int .u32 0,.int .u32 0,.int .u32 0,.int .u32 0,.int .u32 0,.int .u32 0,.int .u32 0,.int .u32 0,.int .u32 0,.int .u32 0,.int .u32 0,.int .u32 0,.int .u32 0,.int .u32 0,.int .u32 0,.int .u32 0,.int .u32 0,.int .u32 0],by kernel_rfl,by kernel_rfl⟩
theorem te3:TyE Tryz.prog 3 1 8:=TyE.of (by kernel_rfl) (by kernel_rfl) ⟨.int .i64 0,by kernel_rfl,by kernel_rfl⟩
theorem te5:TyE Tryz.prog 5 1 1:=TyE.of (by kernel_rfl) (by kernel_rfl) ⟨.int .u8 0,by kernel_rfl,by kernel_rfl⟩
theorem te23:TyE Tryz.prog 23 1 4:=TyE.of (by kernel_rfl) (by kernel_rfl) ⟨.int .u32 0,by kernel_rfl,by kernel_rfl⟩
theorem te25:TyE Tryz.prog 25 32 32:=TyE.of (by kernel_rfl) (by kernel_rfl) ⟨.agg #[.int .u8 0,.int .u8 0,.int .u8 0,.int .u8 0,.int .u8 0,.int .u8 0,.int .u8 0,.int .u8 0,.int .u8 0,.int .u8 0,.int .u8 0,.int .u8 0,.int .u8 0,.int .u8 0,.int .u8 0,.int .u8 0,.int .u8 0,.int .u8 0,.int .u8 0,.int .u8 0,.int .u8 0,.int .u8 0,.int .u8 0,.int .u8 0,.int .u8 0,.int .u8 0,.int .u8 0,.int .u8 0,.int .u8 0,.int .u8 0,.int .u8 0,.int .u8 0],by kernel_rfl,by kernel_rfl⟩
theorem te27:TyE Tryz.prog 27 68 80:=TyE.of (by kernel_rfl) (by kernel_rfl) ⟨.agg #[.int .u32 0,.int .u8 0,.int .u8 0,.int .u8 0,.int .u8 0,.int .u8 0,.int .u8 0,.int .u8 0,.int .u8 0,.int .u8 0,.int .u8 0,.int .u8 0,.int .u8 0,.int .u8 0,.int .u8 0,.int .u8 0,.int .u8 0,.int .u8 0,.int .u8 0,.int .u8 0,.int .u8 0,.int .u8 0,.int .u8 0,.int .u8 0,.int .u8 0,.int .u8 0,.int .u8 0,.int .u8 0,.int .u8 0,.int .u8 0,.int .u8 0,.int .u8 0,.int .u8 0,.int .u8 0,.int .u8 0,.int .u8 0,.int .u8 0,.int .u8 0,.int .u8 0,.int .u8 0,.int .u8 0,.int .u8 0,.int .u8 0,.int .u8 0,.int .u8 0,.int .u8 0,.int .u8 0,.int .u8 0,.int .u8 0,.int .u8 0,.int .u8 0,.int .u8 0,.int .u8 0,.int .u8 0,.int .u8 0,.int .u8 0,.int .u8 0,.int .u8 0,.int .u8 0,.int .u8 0,.int .u8 0,.int .u8 0,.int .u8 0,.int .u8 0,.int .u8 0,.int .u32 0,.int .u32 0,.int .u32 0],by kernel_rfl,by kernel_rfl⟩
theorem te37:TyE Tryz.prog 37 1 16:=TyE.of (by kernel_rfl) (by kernel_rfl) ⟨.nilIface,by kernel_rfl,by kernel_rfl⟩
theorem te111:TyE Tryz.prog 111 104 144:=TyE.of (by kernel_rfl) (by kernel_rfl) ⟨.agg #[.int .u8 0,.int .u8 0,.int .u8 0,.int .u8 0,.int .u8 0,.int .u8 0,.int .u8 0,.int .u8 0,.int .u8 0,.int .u8 0,.int .u8 0,.int .u8 0,.int .u8 0,.int .u8 0,.int .u8 0,.int .u8 0,.int .u8 0,.int .u8 0,.int .u8 0,.int .u8 0,.int .u8 0,.int .u8 0,.int .u8 0,.int .u8 0,.int .u8 0,.int .u8 0,.int .u8 0,.int .u8 0,.int .u8 0,.int .u8 0,.int .u8 0,.int .u8 0,.int .u32 0,.int .u8 0,.int .u8 0,.int .u8 0,.int .u8 0,.int .u8 0,.int .u8 0,.int .u8 0,.int .u8 0,.int .u8 0,.int .u8 0,.int .u8 0,.int .u8 0,.int .u8 0,.int .u8 0,.int .u8 0,.int .u8 0,.int .u8 0,.int .u8 0,.int .u8 0,.int .u8 0,.int .u8 0,.int .u8 0,.int .u8 0,.int .u8 0,.int .u8 0,.int .u8 0,.int .u8 0,.int .u8 0,.int .u8 0,.int .u8 0,.int .u8 0,.int .u8 0,.int .u8 0,.int .u8 0,.int .u8 0,.int .u8 0,.int .u8 0,.int .u8 0,.int .u8 0,.int .u8 0,.int .u8 0,.int .u8 0,.int .u8 0,.int .u8 0,.int .u8 0,.int .u8 0,.int .u8 0,.int .u8 0,.int .u8 0,.int .u8 0,.int .u8 0,.int .u8 0,.int .u8 0,.int .u8 0,.int .u8 0,.int .u8 0,.int .u8 0,.int .u8 0,.int .u8 0,.int .u8 0,.int .u8 0,.int .u8 0,.int .u8 0,.int .u8 0,.int .u32 0,.int .u32 0,.int .u32 0,.int .i64 0,.int .i64 0,.int .u64 0,.bool false],by kernel_rfl,by kernel_rfl⟩
theorem te122:TyE Tryz.prog 122 1 24:=TyE.of (by kernel_rfl) (by kernel_rfl) ⟨.slice none 0 0,by kernel_rfl,by kernel_rfl⟩
theorem te151:TyE Tryz.prog 151 4 64:=TyE.of (by kernel_rfl) (by kernel_rfl) ⟨.agg #[.int .u32 0,.slice none 0 0,.slice none 0 0,.int .u32 0],by kernel_rfl,by kernel_rfl⟩
theorem te220:TyE Tryz.prog 220 35 72:=TyE.of (by kernel_rfl) (by kernel_rfl) ⟨.agg #[.int .u8 0,.int .u8 0,.int .u8 0,.int .u8 0,.int .u8 0,.int .u8 0,.int .u8 0,.int .u8 0,.int .u8 0,.int .u8 0,.int .u8 0,.int .u8 0,.int .u8 0,.int .u8 0,.int .u8 0,.int .u8 0,.int .u8 0,.int .u8 0,.int .u8 0,.int .u8 0,.int .u8 0,.int .u8 0,.int .u8 0,.int .u8 0,.int .u8 0,.int .u8 0,.int .u8 0,.int .u8 0,.int .u8 0,.int .u8 0,.int .u8 0,.int .u8 0,.int .u32 0,.slice none 0 0,.int .u32 0],by kernel_rfl,by kernel_rfl⟩
theorem te223:TyE Tryz.prog 223 33 40:=TyE.of (by kernel_rfl) (by kernel_rfl) ⟨.agg #[.int .u64 0,.int .u8 0,.int .u8 0,.int .u8 0,.int .u8 0,.int .u8 0,.int .u8 0,.int .u8 0,.int .u8 0,.int .u8 0,.int .u8 0,.int .u8 0,.int .u8 0,.int .u8 0,.int .u8 0,.int .u8 0,.int .u8 0,.int .u8 0,.int .u8 0,.int .u8 0,.int .u8 0,.int .u8 0,.int .u8 0,.int .u8 0,.int .u8 0,.int .u8 0,.int .u8 0,.int .u8 0,.int .u8 0,.int .u8 0,.int .u8 0,.int .u8 0,.int .u8 0],by kernel_rfl,by kernel_rfl⟩
theorem mz107:(Tryz.prog.info? 104).map (·.zero)=some (some (.pointer none)):=by kernel_rfl
theorem laidB:laidOutB Tryz.prog=true:=by kernel_rfl
theorem kk107:Maps.Keyed Tryz.prog 25:=Maps.Keyed.of_law (deep_law_laid laidB (m:=5) (by decide) (of_decide_eq_true (by kernel_rfl)) (by kernel_rfl) (by kernel_rfl))
theorem kn107:KeyN Tryz.prog 25 kv107 (fun x:List Int=>Arr .u8 32 x):=keyN_arr Tryz.underlying25 Tryz.underlying5 (by kernel_rfl) (by kernel_rfl) kk107 (by kernel_rfl) ⟨_,(by kernel_rfl:Tryz.prog.types.size=393+1)⟩
abbrev U2:=Tryz.underlying2
abbrev U3:=Tryz.underlying3
abbrev U4:=Tryz.underlying4
abbrev U5:=Tryz.underlying5
abbrev U22:=Tryz.underlying22
abbrev U23:=Tryz.underlying23
abbrev U25:=Tryz.underlying25
abbrev U27:=Tryz.underlying27
abbrev U29:=Tryz.underlying29
abbrev U31:=Tryz.underlying31
abbrev U37:=Tryz.underlying37
abbrev U42:=Tryz.underlying42
abbrev U45:=Tryz.underlying45
abbrev U81:=Tryz.underlying81
abbrev U89:=Tryz.underlying89
abbrev U106:=Tryz.underlying106
abbrev U107:=Tryz.underlying107
abbrev U109:=Tryz.underlying109
abbrev U111:=Tryz.underlying111
abbrev U112:=Tryz.underlying112
abbrev U114:=Tryz.underlying114
abbrev U117:=Tryz.underlying117
abbrev U122:=Tryz.underlying122
abbrev U148:=Tryz.underlying148
abbrev U149:=Tryz.underlying149
abbrev U151:=Tryz.underlying151
abbrev U173:=Tryz.underlying173
abbrev U197:=Tryz.underlying197
abbrev U209:=Tryz.underlying209
abbrev U218:=Tryz.underlying218
abbrev U220:=Tryz.underlying220
abbrev U223:=Tryz.underlying223
abbrev U231:=Tryz.underlying231
abbrev U235:=Tryz.underlying235
abbrev U271:=Tryz.underlying271
abbrev U273:=Tryz.underlying273
abbrev U276:=Tryz.underlying276
abbrev U334:=Tryz.underlying334
def math_bits_RotateLeft32.f (x0 x1:Int):Option Int:=(if 0≤(bAnd .u64 (IntKind.u64.wrap x1) 31) then (if 0≤(IntKind.u64.wrap (32 - (bAnd .u64 (IntKind.u64.wrap x1) 31))) then some (bOr .u32 (sL .u32 x0 (bAnd .u64 (IntKind.u64.wrap x1) 31)) (sR .u32 x0 (IntKind.u64.wrap (32 - (bAnd .u64 (IntKind.u64.wrap x1) 31))))) else none) else none)
def q0_Bytes.s0 (x0:List Int):((List Int)×Int)→Option (((List Int)×Int)⊕(List Int)):=fun (s1,s2)=>(if s2 < (x0.length:Int) then (if 0≤s2∧s2 < (x0.length:Int) then (if s1.length+1≤140737488355328 then some (.inl (s1++([(x0.getD s2.toNat 0)]:List Int),IntKind.i64.wrap (s2+1))) else none) else none) else some (.inr s1))
noncomputable def q0_Bytes.f (x0:List Int):Option (List Int):=(if 0≤(0:Int)∧(0:Int)≤(x0.length:Int)∧(x0.length:Int)≤140737488355328 then ((loopO (q0_Bytes.s0 x0) ((List.replicate ((0:Int).toNat) 0:List Int),0)).bind fun c1=>some c1) else none)
def sargassoworld_Number.f (x0 x1:Int):Option Int:=(if x1≠0 then (((if (Int.tmod x0 x1) < 0 then some (IntKind.i64.wrap ((Int.tmod x0 x1)+x1)) else some (Int.tmod x0 x1))).bind fun c1=>some c1) else none)
def q0_SameFault.f (x0 x1:q0Ft):Option Bool:=(((if x0.Code=x1.Code then (if x0.Placed=x1.Placed then (if x0.Pos=x1.Pos then (if x0.Outer=x1.Outer then some (decide (x0.At=x1.At)) else some false) else some false) else some false) else some false)).bind fun c1=>some c1)
def q0_Bare.f (x0:Int):Option q0Ft:=some (⟨x0,false,0,false,0⟩:q0Ft)
def q0_None.f:Option q0Ft:=some (⟨0,false,0,false,0⟩:q0Ft)
def q2_sentinels.f:Option (List Er):=some ([xErrEnd,xErrShape,xErrLong,xErrMany,xErrValue,xErrTwice,xErrBase,xErrRoot,xErrKnown,xErrParent,xErrInvalid,xErrTime,xErrMissing,xErrKey,xErrYoung,xErrEarly,xErrLess,xErrReward,xErrClash,xErrLimit,xErrFull,xErrRange,xErrNone,xErrWord,xErrNumber]:List Er)
def q2_Alike.f (x0 x1:Er):Option Bool:=(((if x0=(Er.b 0) then some true else some (decide (x1=(Er.b 0))))).bind fun c1=>(if c1=true then (((if x0=(Er.b 0) then some (decide (x1=(Er.b 0))) else some false)).bind fun c2=>some c2) else (if Er.cmp x0 x1=true then some (decide (x0=x1)) else none)))
def q2_sentinel.s0 (x0:Er)(r1:List Er):Int→Option (Int⊕Int):=fun s1=>(if s1 < (r1.length:Int) then (if 0≤s1∧s1 < (r1.length:Int) then ((q2_Alike.f x0 (r1.getD s1.toNat (Er.b 0))).bind fun r2=>(if r2=true then some (.inr (IntKind.i64.wrap (101+s1))) else some (.inl (IntKind.i64.wrap (s1+1))))) else none) else some (.inr (-1)))
noncomputable def q2_sentinel.f (x0:Er):Option Int:=((q2_sentinels.f).bind fun r1=>loopO (q2_sentinel.s0 x0 r1) 0)
def q0_Placed.f (x0 x1:Int):Option q0Ft:=(if x0=0 then ((q0_None.f).bind fun r1=>some r1) else some (⟨x0,true,x1,false,0⟩:q0Ft))
def q0_Around.f (x0:q0Ft)(x1:Int):Option q0Ft:=(if x0.Code=0 then some x0 else (if x0.Placed=true then some (⟨x0.Code,x0.Placed,x0.Pos,true,x1⟩:q0Ft) else ((q0_Placed.f x0.Code x1).bind fun r1=>some r1)))
noncomputable def q2_Fault.f (x0:Er):Option q0Ft:=(if x0=(Er.b 0) then ((q0_None.f).bind fun r1=>some r1) else (if x0.isP=true then ((some (decide (x0.err=(Er.b 0)))).bind fun c1=>(if c1=true then ((q0_Bare.f (-1)).bind fun r4=>some r4) else (if x0.err.isP=true then ((some (decide (x0.err.err=(Er.b 0)))).bind fun c2=>(if c2=true then ((q0_Bare.f (-1)).bind fun r7=>some r7) else ((q2_sentinel.f x0.err.err).bind fun r8=>((q0_Placed.f r8 x0.err.pos).bind fun r9=>((q0_Around.f r9 x0.pos).bind fun r10=>some r10))))) else ((q2_sentinel.f x0.err).bind fun r5=>((q0_Placed.f r5 x0.pos).bind fun r6=>some r6))))) else ((q2_sentinel.f x0).bind fun r2=>((q0_Bare.f r2).bind fun r3=>some r3))))
noncomputable def q2_Same.f (x0:Er)(x1:q0Ft):Option Bool:=((q2_Fault.f x0).bind fun r1=>((q0_SameFault.f r1 x1).bind fun r2=>some r2))
noncomputable def q2_Is.f (x0:Er)(x1:Int):Option Bool:=((q0_Bare.f x1).bind fun r1=>((q2_Same.f x0 r1).bind fun r2=>some r2))
def q0_SameHash.s0 (x0 x1:List Int):Int→Option (Int⊕Bool):=fun s1=>(if s1 < 32 then (if 0≤s1∧s1 < 32 then (if (x0.getD s1.toNat 0)≠(x1.getD s1.toNat 0) then some (.inr false) else some (.inl (IntKind.i64.wrap (s1+1)))) else none) else some (.inr true))
noncomputable def q0_SameHash.f (x0 x1:List Int):Option Bool:=loopO (q0_SameHash.s0 x0 x1) 0
noncomputable def q0_SameHead.f (x0 x1:Head):Option Bool:=(((if x0.Version=x1.Version then ((q0_SameHash.f x0.Prev x1.Prev).bind fun r1=>(if r1=true then ((q0_SameHash.f x0.Root x1.Root).bind fun r2=>(if r2=true then (if x0.Time=x1.Time then (if x0.Work=x1.Work then some (decide (x0.Nonce=x1.Nonce)) else some false) else some false) else some false)) else some false)) else some false)).bind fun c1=>some c1)
noncomputable def q0_SameHashes.s0 (x0 x1:List (List Int)):Int→Option (Int⊕Bool):=fun s1=>(if s1 < (x0.length:Int) then (if 0≤s1∧s1 < (x0.length:Int) then (if 0≤s1∧s1 < (x1.length:Int) then ((q0_SameHash.f (x0.getD s1.toNat []) (x1.getD s1.toNat [])).bind fun r1=>(if r1=true then some (.inl (IntKind.i64.wrap (s1+1))) else some (.inr false))) else none) else none) else some (.inr true))
noncomputable def q0_SameHashes.f (x0 x1:List (List Int)):Option Bool:=(if (x0.length:Int)≠(x1.length:Int) then some false else loopO (q0_SameHashes.s0 x0 x1) 0)
def q0_LessHash.s0 (x0 x1:List Int):Int→Option (Int⊕Bool):=fun s1=>(if s1 < 32 then (if 0≤s1∧s1 < 32 then (if (x0.getD s1.toNat 0)≠(x1.getD s1.toNat 0) then some (.inr (decide ((x0.getD s1.toNat 0) < (x1.getD s1.toNat 0)))) else some (.inl (IntKind.i64.wrap (s1+1)))) else none) else some (.inr false))
noncomputable def q0_LessHash.f (x0 x1:List Int):Option Bool:=loopO (q0_LessHash.s0 x0 x1) 0
def q0_Hashes.s0 (x0:List (List Int)):((List (List Int))×Int)→Option (((List (List Int))×Int)⊕(List (List Int))):=fun (s1,s2)=>(if s2 < (x0.length:Int) then (if 0≤s2∧s2 < (x0.length:Int) then (if s1.length+1≤4398046511104 then some (.inl (s1++([(x0.getD s2.toNat [])]:List (List Int)),IntKind.i64.wrap (s2+1))) else none) else none) else some (.inr s1))
noncomputable def q0_Hashes.f (x0:List (List Int)):Option (List (List Int)):=(if 0≤(0:Int)∧(0:Int)≤(x0.length:Int)∧(x0.length:Int)≤4398046511104 then ((loopO (q0_Hashes.s0 x0) ((List.replicate ((0:Int).toNat) (List.replicate 32 0):List (List Int)),0)).bind fun c1=>some c1) else none)
noncomputable def q0_PutHash.s0 (x0:List (List Int))(x1:List Int):Int→Option (Int⊕Int):=fun s1=>(((if s1 < (x0.length:Int) then (if 0≤s1∧s1 < (x0.length:Int) then ((q0_LessHash.f (x0.getD s1.toNat []) x1).bind fun r1=>some r1) else none) else some false)).bind fun c2=>(if c2=true then some (.inl (IntKind.i64.wrap (s1+1))) else some (.inr s1)))
noncomputable def q0_PutHash.f (x0:List (List Int))(x1:List Int):Option (List (List Int)):=((loopO (q0_PutHash.s0 x0 x1) 0).bind fun c1=>(((if c1 < (x0.length:Int) then (if 0≤c1∧c1 < (x0.length:Int) then ((q0_SameHash.f (x0.getD c1.toNat []) x1).bind fun r2=>some r2) else none) else some false)).bind fun c3=>(if c3=true then ((q0_Hashes.f x0).bind fun r3=>some r3) else (((if 0≤c1∧c1≤(x0.length:Int) then ((q0_Hashes.f ((x0.take (c1).toNat).drop (0:Int).toNat)).bind fun r4=>(if r4.length+1≤4398046511104 then some (r4++([x1]:List (List Int))) else none)) else none)).bind fun c4=>(if 0≤c1∧c1≤(x0.length:Int) then (if c4.length+((x0.take ((x0.length:Int)).toNat).drop (c1).toNat).length≤4398046511104 then some (c4++((x0.take ((x0.length:Int)).toNat).drop (c1).toNat)) else none) else none)))))
set_option maxRecDepth 20000
theorem math_bits_RotateLeft32.c (μ:Store)(w0:World)(hμ:Agr μ w0)(x0:Int)(hx0:InR .u32 x0)(x1:Int)(hx1:InR .i64 x1)(r:Int)(H:math_bits_RotateLeft32.f x0 x1=some r) :
  Calls Tryz.prog 243 [.int .u32 x0,.int .i64 x1].toArray w0 (fun e w'=>∃ v,e=.returned v∧v=.int .u32 r∧InR .u32 r∧Iv w0 [] μ μ [] w'):=by
 refine enter Tryz.func243 rfl Tryz.ntmps243 rfl fun a hA=>?_
 have hI:=Iv.start hμ
 have H:=bI H
 refine w_seq fun _ hN1=>w_reg<|sta hA rfl rfl fun a hA=>?_
 refine o_nil<|hN1 _ _<|w_seq fun _ hN2=>w_reg<|stm hA rfl rfl fun a hA =>
  stp hA (r_conv U3 U173 hA rfl) rfl fun a hA =>
  stp hA (r_and hA rfl rfl) rfl fun a hA =>
  sta hA rfl rfl fun a hA=>?_
 refine o_nil<|hN2 _ _<|w_seq fun _ hN3=>w_reg<|stm hA rfl rfl fun a hA =>
  stm hA rfl rfl fun a hA=>?_
 obtain ⟨hb1,H⟩:=bG H
 refine stp hA (r_shl hA rfl rfl hb1) rfl fun a hA =>
  stm hA rfl rfl fun a hA =>
  stm hA rfl rfl fun a hA =>
  stp hA (r_sub hA rfl rfl) rfl fun a hA=>?_
 obtain ⟨hb2,H⟩:=bG H
 refine stp hA (r_shr hA rfl rfl hb2) rfl fun a hA =>
  stp hA (r_or hA rfl rfl) rfl fun a hA =>
  sta hA rfl rfl fun a hA=>?_
 refine o_nil<|hN3 _ _<|w_ret ?_
 obtain rfl:=sJ H
 exact ret1 hA Tryz.results243 rfl ⟨_,rfl,rfl,(wrap_in _ _),hI.forget0⟩
theorem q0_Bytes.c (μ:Store)(w0:World)(hμ:Agr μ w0)(x0:List Int)(u0:Value)(hx0:Slc (RI .u8) 1 μ u0 x0)(r:List Int)(H:q0_Bytes.f x0=some r) :
  Calls Tryz.prog 126 [u0].toArray w0 (fun e w'=>∃ v,e=.returned v∧∃(v0:Value)(c0:List Value),v=v0∧Els (RI .u8) 1 r c0∧Iv w0 [] μ μ [row 5 1 v0 r.length c0] w'):=by
 refine enter Tryz.func126 rfl Tryz.ntmps126 rfl fun a hA=>?_
 have hI:=Iv.start hμ
 have H:=bI H
 refine w_seq fun _ hN1=>w_reg<|sta hA rfl rfl fun a hA=>?_
 refine o_nil<|hN1 _ _<|w_seq fun _ hN2=>w_reg<|stm hA rfl rfl fun a hA=>?_
 obtain ⟨_,hsl1⟩:=Slc.sv hx0
 refine stp hA (r_slen U122 hsl1 hA rfl) rfl fun a hA=>?_
 obtain ⟨hb1,H⟩:=bG H
 refine o_make (RE:=(RI .u8)) (c0:=[[.int .u8 0]].flatten) (z0:=0) ⟨rfl,(in_lit .u8 0 rfl)⟩ te5 rfl zr5 U122 hI hA rfl rfl (by have hq:=hb1;simp only [maxLen];omega) rfl fun g1 cs1 a w hE1 hA hI =>
  sta hA rfl rfl fun a hA=>?_
 refine o_nil<|hN2 _ _ ?_
 obtain ⟨c1,hz1,Hk1⟩:=bB H
 refine w_cut (fun a w=>∃(vvc1:Value)(ccc1:List Value),Els (RI .u8) 1 c1 ccc1∧Fr a 22 [(2,Sn),(3,vvc1)]∧Iv w0 [] μ μ [row 5 1 vvc1 c1.length ccc1] w) ?_ ?_
 ·have H:=bI hz1
  refine w_seq fun _ hN3=>w_reg<|sta hA rfl rfl fun a hA=>?_
  refine o_nil<|hN3 _ _<|w_block ?_
  obtain ⟨z1,hz2,Hk2⟩:=bind_some H
  obtain ⟨n1,hn1⟩:=loopO_some hz2
  refine w_loop (fun n a w=>∃(s1:List Int)(s2:Int)(vvs1:Value)(ccs1:List Value),loopN (q0_Bytes.s0 x0) n (s1,s2)=some z1∧Els (RI .u8) 1 s1 ccs1∧InR .i64 s2∧Fr a 22 [(0,u0),(2,Sn),(3,vvs1),(4,.int .i64 s2)]∧Iv w0 [] μ μ [row 5 1 vvs1 s1.length ccs1] w) n1 ⟨(List.replicate ((0:Int).toNat) 0:List Int),0,(.slice (some ⟨g1,0,none⟩) ((0:Int).toNat) (((x0.length:Int)).toNat)),cs1,hn1,hE1,(in_lit .i64 0 rfl),hA.sub ⟨rfl,rfl,rfl,rfl,trivial⟩,hI⟩ ?_
  clear hA hI
  rintro n a w ⟨s1,s2,vvs1,ccs1,hn1,ws1,ws2,hA,hI⟩
  obtain ⟨m1,rfl,H⟩:=loopN_bind hn1
  clear hn1
  refine w_seq fun _ hN4=>w_seq fun _ hN5=>w_reg<|stm hA rfl rfl fun a hA =>
   stm hA rfl rfl fun a hA=>?_
  obtain ⟨_,hsl2⟩:=Slc.sv hx0
  refine stp hA (r_slen U122 hsl2 hA rfl) rfl fun a hA =>
   stp hA (r_lss hA rfl rfl) rfl fun a hA=>?_
  refine o_nil<|hN5 _ _<|w_cond hA rfl (fun hc1=>?_) (fun hc1=>?_)
  ·obtain ⟨hc1,H⟩:=dT H hc1
   refine w_skip<|hN4 _ _<|w_seq fun _ hN6=>w_block<|w_reg<|stm hA rfl rfl fun a hA =>
    stm hA rfl rfl fun a hA =>
    stm hA rfl rfl fun a hA=>?_
   obtain ⟨hb2,H⟩:=bG H
   obtain ⟨_,he1,_,hat1⟩:=Slc.elem1 hx0 (getD_some 0 hb2.1 hb2.2)
   obtain ⟨rfl,hw1⟩:=he1
   obtain ⟨_,hsl3⟩:=Slc.sv hx0
   refine stp hA (r_six1 U122 sz5 hsl3 hA rfl rfl hb2.1 hb2.2) rfl fun a hA =>
    stp hA (r_ldm1 [] [] U5 rfl hI.agr hat1 hA rfl rfl) rfl fun a hA=>?_
   have hE2:Els (RI .u8) 1 ([(x0.getD s2.toNat 0)]:List Int) _:=(Els.cons (c:=[[.int .u8 (x0.getD s2.toNat 0)]].flatten) ⟨rfl,hw1⟩ rfl Els.nil)
   refine o_bsl ([[.int .u8 (x0.getD s2.toNat 0)]].flatten++([])) te5 zr5 U122 hI hA rfl rfl rfl rfl (by kernel_rfl) rfl fun g2 a w hA hI=>?_
   generalize hcs:([[.int .u8 (x0.getD s2.toNat 0)]].flatten++([]):List Value)=cs2 at hE2 hI
   clear hcs
   obtain ⟨hb3,H⟩:=bG H
   have hE4:=ws1.app hE2
   refine o_appG (xs:=(s1:List Int)) (ys:=(([(x0.getD s2.toNat 0)]:List Int):List Int)) (M:=140737488355328) 1 te5 U122 hI rfl hA rfl rfl (src_row hI (j:=0) rfl) hE2.len (hE2.ones (one_RI _)) hb3 rfl fun v1 a w hA hI =>
    sta hA rfl rfl fun a hA=>?_
   refine o_nil<|hN6 _ _<|w_reg<|stm hA rfl rfl fun a hA =>
    stp hA (r_add hA rfl rfl) rfl fun a hA =>
    sta hA rfl rfl fun a hA=>?_
   refine o_nil<|⟨m1,lS _,s1++([(x0.getD s2.toNat 0)]:List Int),IntKind.i64.wrap (s2+1),v1,ccs1++cs2,H,hE4,(wrap_in _ _),hA.sub ⟨rfl,rfl,rfl,rfl,trivial⟩,(hI.sl [1] rfl)⟩
  ·obtain ⟨hc1,H⟩:=dF H hc1
   refine w_exit rfl ?_
   have H:some s1=some z1:=H
   obtain rfl:=sI H
   have H:=Hk2
   cases sJ H
   exact ⟨vvs1,ccs1,ws1,hA.sub ⟨rfl,rfl,trivial⟩,hI⟩
 ·rintro a w ⟨vvc1,ccc1,wc1,hA,hI⟩
  have H:=Hk1
  refine w_seq fun _ hN7=>w_reg<|stm hA rfl rfl fun a hA =>
   sta hA rfl rfl fun a hA=>?_
  refine o_nil<|hN7 _ _<|w_ret ?_
  obtain rfl:=sJ H
  exact ret1 hA Tryz.results126 rfl ⟨_,rfl,vvc1,ccc1,rfl,wc1,(hI.less (Store.le.refl _) hI.le)⟩
theorem sargassoworld_Number.c (μ:Store)(w0:World)(hμ:Agr μ w0)(x0:Int)(hx0:InR .i64 x0)(x1:Int)(hx1:InR .i64 x1)(r:Int)(H:sargassoworld_Number.f x0 x1=some r) :
  Calls Tryz.prog 12 [.int .i64 x0,.int .i64 x1].toArray w0 (fun e w'=>∃ v,e=.returned v∧v=.int .i64 r∧InR .i64 r∧Iv w0 [] μ μ [] w'):=by
 refine enter Tryz.func12 rfl Tryz.ntmps12 rfl fun a hA=>?_
 have hI:=Iv.start hμ
 have H:=bI H
 refine w_seq fun _ hN1=>w_reg<|sta hA rfl rfl fun a hA=>?_
 refine o_nil<|hN1 _ _<|w_seq fun _ hN2=>w_reg<|stm hA rfl rfl fun a hA =>
  stm hA rfl rfl fun a hA=>?_
 obtain ⟨hb1,H⟩:=bG H
 refine stp hA (r_rem hA rfl rfl hb1) rfl fun a hA =>
  sta hA rfl rfl fun a hA=>?_
 refine o_nil<|hN2 _ _ ?_
 obtain ⟨c1,hz1,Hk1⟩:=bB H
 refine w_cut (fun a w=>InR .i64 c1∧Fr a 15 [(4,.int .i64 0),(5,.int .i64 c1)]∧Iv w0 [] μ μ [] w) ?_ ?_
 ·have H:=bI hz1
  refine w_seq fun _ hN3=>w_reg<|stm hA rfl rfl fun a hA =>
   stp hA (r_lss hA rfl rfl) rfl fun a hA=>?_
  refine o_nil<|hN3 _ _<|w_cond hA rfl (fun hc1=>?_) (fun hc1=>?_)
  ·obtain ⟨hc1,H⟩:=dT H hc1
   refine w_reg<|stm hA rfl rfl fun a hA =>
    stm hA rfl rfl fun a hA =>
    stp hA (r_add hA rfl rfl) rfl fun a hA =>
    sta hA rfl rfl fun a hA=>?_
   refine o_nil ?_
   cases sJ H
   exact ⟨(wrap_in _ _),hA.sub ⟨rfl,rfl,trivial⟩,hI⟩
  ·obtain ⟨hc1,H⟩:=dF H hc1
   refine w_skip ?_
   cases sJ H
   exact ⟨(tmod_in hx0 _),hA.sub ⟨rfl,rfl,trivial⟩,hI⟩
 ·rintro a w ⟨wc1,hA,hI⟩
  have H:=Hk1
  refine w_seq fun _ hN4=>w_reg<|stm hA rfl rfl fun a hA =>
   sta hA rfl rfl fun a hA=>?_
  refine o_nil<|hN4 _ _<|w_ret ?_
  obtain rfl:=sJ H
  exact ret1 hA Tryz.results12 rfl ⟨_,rfl,rfl,wc1,hI.forget0⟩
theorem q0_SameFault.c (μ:Store)(w0:World)(hμ:Agr μ w0)(x0:q0Ft)(hx0:q0FtW μ x0)(x1:q0Ft)(hx1:q0FtW μ x1)(r:Bool)(H:q0_SameFault.f x0 x1=some r) :
  Calls Tryz.prog 89 [.agg [[.int .i64 x0.Code],[.bool x0.Placed],[.int .i64 x0.Pos],[.bool x0.Outer],[.int .i64 x0.At]].flatten.toArray,.agg [[.int .i64 x1.Code],[.bool x1.Placed],[.int .i64 x1.Pos],[.bool x1.Outer],[.int .i64 x1.At]].flatten.toArray].toArray w0 (fun e w'=>∃ v,e=.returned v∧v=.bool r∧True∧Iv w0 [] μ μ [] w'):=by
 refine enter Tryz.func89 rfl Tryz.ntmps89 rfl fun a hA=>?_
 have hI:=Iv.start hμ
 have H:=bI H
 refine w_seq fun _ hN1=>w_reg<|o_box [[.int .i64 x0.Code],[.bool x0.Placed],[.int .i64 x0.Pos],[.bool x0.Outer],[.int .i64 x0.At]] hI hA rfl rfl rfl fun g1 a w hA hI hg1 =>
  o_box [[.int .i64 x1.Code],[.bool x1.Placed],[.int .i64 x1.Pos],[.bool x1.Outer],[.int .i64 x1.At]] hI hA rfl rfl rfl fun g2 a w hA hI hg2 =>
  sta hA rfl rfl fun a hA=>?_
 refine o_nil<|hN1 _ _ ?_
 obtain ⟨c1,hz1,Hk1⟩:=bB H
 refine w_cut (fun a w=>Fr a 38 [(4,.bool c1)]∧Iv w0 [] μ μ [cel g2 [[.int .i64 x1.Code],[.bool x1.Placed],[.int .i64 x1.Pos],[.bool x1.Outer],[.int .i64 x1.At]] 117,cel g1 [[.int .i64 x0.Code],[.bool x0.Placed],[.int .i64 x0.Pos],[.bool x0.Outer],[.int .i64 x0.At]] 117] w) ?_ ?_
 ·have H:=bI hz1
  refine w_reg<|stp hA (r_fd (k:=0) U117 rfl sz3 hA rfl rfl) rfl fun a hA =>
   stp hA (r_ld1 (j:=1) [] [[.bool x0.Placed],[.int .i64 x0.Pos],[.bool x0.Outer],[.int .i64 x0.At]] U3 rfl hI rfl hA rfl rfl) rfl fun a hA =>
   stp hA (r_fd (k:=0) U117 rfl sz3 hA rfl rfl) rfl fun a hA =>
   stp hA (r_ld1 (j:=0) [] [[.bool x1.Placed],[.int .i64 x1.Pos],[.bool x1.Outer],[.int .i64 x1.At]] U3 rfl hI rfl hA rfl rfl) rfl fun a hA =>
   stp hA (r_eql hA rfl rfl) rfl fun a hA =>
   stm hA rfl rfl fun a hA=>?_
  rcases Bool.eq_false_or_eq_true (decide (x0.Code=x1.Code)) with hc1 | hc1
  ·have hc10:=hc1;obtain ⟨hc1,H⟩:=dT H hc1
   refine o_yes hA rfl rfl hc10 <|
    stp hA (r_fd (k:=1) U117 rfl sz4 hA rfl rfl) rfl fun a hA =>
    o_yes hA rfl rfl hc10 <|
    stp hA (r_ld1 (j:=1) [[.int .i64 x0.Code]] [[.int .i64 x0.Pos],[.bool x0.Outer],[.int .i64 x0.At]] U4 rfl hI rfl hA rfl rfl) rfl fun a hA =>
    o_yes hA rfl rfl hc10 <|
    stp hA (r_fd (k:=1) U117 rfl sz4 hA rfl rfl) rfl fun a hA =>
    o_yes hA rfl rfl hc10 <|
    stp hA (r_ld1 (j:=0) [[.int .i64 x1.Code]] [[.int .i64 x1.Pos],[.bool x1.Outer],[.int .i64 x1.At]] U4 rfl hI rfl hA rfl rfl) rfl fun a hA =>
    o_yes hA rfl rfl hc10 <|
    stp hA (r_eqlb U4 hA rfl rfl) rfl fun a hA =>
    stp hA (r_pick_t hA rfl hc10 rfl) rfl fun a hA =>
    stm hA rfl rfl fun a hA=>?_
   rcases Bool.eq_false_or_eq_true (decide (x0.Placed=x1.Placed)) with hc2 | hc2
   ·have hc20:=hc2;obtain ⟨hc2,H⟩:=dT H hc2
    refine o_yes hA rfl rfl hc20 <|
     stp hA (r_fd (k:=2) U117 rfl sz3 hA rfl rfl) rfl fun a hA =>
     o_yes hA rfl rfl hc20 <|
     stp hA (r_ld1 (j:=1) [[.int .i64 x0.Code],[.bool x0.Placed]] [[.bool x0.Outer],[.int .i64 x0.At]] U3 rfl hI rfl hA rfl rfl) rfl fun a hA =>
     o_yes hA rfl rfl hc20 <|
     stp hA (r_fd (k:=2) U117 rfl sz3 hA rfl rfl) rfl fun a hA =>
     o_yes hA rfl rfl hc20 <|
     stp hA (r_ld1 (j:=0) [[.int .i64 x1.Code],[.bool x1.Placed]] [[.bool x1.Outer],[.int .i64 x1.At]] U3 rfl hI rfl hA rfl rfl) rfl fun a hA =>
     o_yes hA rfl rfl hc20 <|
     stp hA (r_eql hA rfl rfl) rfl fun a hA =>
     stp hA (r_pick_t hA rfl hc20 rfl) rfl fun a hA =>
     stm hA rfl rfl fun a hA=>?_
    rcases Bool.eq_false_or_eq_true (decide (x0.Pos=x1.Pos)) with hc3 | hc3
    ·have hc30:=hc3;obtain ⟨hc3,H⟩:=dT H hc3
     refine o_yes hA rfl rfl hc30 <|
      stp hA (r_fd (k:=3) U117 rfl sz4 hA rfl rfl) rfl fun a hA =>
      o_yes hA rfl rfl hc30 <|
      stp hA (r_ld1 (j:=1) [[.int .i64 x0.Code],[.bool x0.Placed],[.int .i64 x0.Pos]] [[.int .i64 x0.At]] U4 rfl hI rfl hA rfl rfl) rfl fun a hA =>
      o_yes hA rfl rfl hc30 <|
      stp hA (r_fd (k:=3) U117 rfl sz4 hA rfl rfl) rfl fun a hA =>
      o_yes hA rfl rfl hc30 <|
      stp hA (r_ld1 (j:=0) [[.int .i64 x1.Code],[.bool x1.Placed],[.int .i64 x1.Pos]] [[.int .i64 x1.At]] U4 rfl hI rfl hA rfl rfl) rfl fun a hA =>
      o_yes hA rfl rfl hc30 <|
      stp hA (r_eqlb U4 hA rfl rfl) rfl fun a hA =>
      stp hA (r_pick_t hA rfl hc30 rfl) rfl fun a hA =>
      stm hA rfl rfl fun a hA=>?_
     rcases Bool.eq_false_or_eq_true (decide (x0.Outer=x1.Outer)) with hc4 | hc4
     ·have hc40:=hc4;obtain ⟨hc4,H⟩:=dT H hc4
      refine o_yes hA rfl rfl hc40 <|
       stp hA (r_fd (k:=4) U117 rfl sz3 hA rfl rfl) rfl fun a hA =>
       o_yes hA rfl rfl hc40 <|
       stp hA (r_ld1 (j:=1) [[.int .i64 x0.Code],[.bool x0.Placed],[.int .i64 x0.Pos],[.bool x0.Outer]] [] U3 rfl hI rfl hA rfl rfl) rfl fun a hA =>
       o_yes hA rfl rfl hc40 <|
       stp hA (r_fd (k:=4) U117 rfl sz3 hA rfl rfl) rfl fun a hA =>
       o_yes hA rfl rfl hc40 <|
       stp hA (r_ld1 (j:=0) [[.int .i64 x1.Code],[.bool x1.Placed],[.int .i64 x1.Pos],[.bool x1.Outer]] [] U3 rfl hI rfl hA rfl rfl) rfl fun a hA =>
       o_yes hA rfl rfl hc40 <|
       stp hA (r_eql hA rfl rfl) rfl fun a hA =>
       stp hA (r_pick_t hA rfl hc40 rfl) rfl fun a hA =>
       sta hA rfl rfl fun a hA=>?_
      refine o_nil ?_
      cases sJ H
      exact ⟨hA.sub ⟨rfl,trivial⟩,hI⟩
     ·have hc40:=hc4;obtain ⟨hc4,H⟩:=dF H hc4
      refine o_no hA rfl rfl (by rw [hc40];simp [vb]) rfl fun a hA =>
       o_no hA rfl rfl (by rw [hc40];simp [vb]) rfl fun a hA =>
       o_no hA rfl rfl (by rw [hc40];simp [vb]) rfl fun a hA =>
       o_no hA rfl rfl (by rw [hc40];simp [vb]) rfl fun a hA =>
       o_no hA rfl rfl (by rw [hc40];simp [vb]) rfl fun a hA =>
       stp hA (r_pick_f hA rfl hc40 rfl) rfl fun a hA =>
       sta hA rfl rfl fun a hA=>?_
      refine o_nil ?_
      cases sJ H
      exact ⟨hA.sub ⟨rfl,trivial⟩,hI⟩
    ·have hc30:=hc3;obtain ⟨hc3,H⟩:=dF H hc3
     refine o_no hA rfl rfl (by rw [hc30];simp [vb]) rfl fun a hA =>
      o_no hA rfl rfl (by rw [hc30];simp [vb]) rfl fun a hA =>
      o_no hA rfl rfl (by rw [hc30];simp [vb]) rfl fun a hA =>
      o_no hA rfl rfl (by rw [hc30];simp [vb]) rfl fun a hA =>
      o_no hA rfl rfl (by rw [hc30];simp [vb]) rfl fun a hA =>
      stp hA (r_pick_f hA rfl hc30 rfl) rfl fun a hA =>
      stm hA rfl rfl fun a hA =>
      o_no hA rfl rfl (by simp [vb]) rfl fun a hA =>
      o_no hA rfl rfl (by simp [vb]) rfl fun a hA =>
      o_no hA rfl rfl (by simp [vb]) rfl fun a hA =>
      o_no hA rfl rfl (by simp [vb]) rfl fun a hA =>
      o_no hA rfl rfl (by simp [vb]) rfl fun a hA =>
      stp hA (r_pick_f hA rfl rfl rfl) rfl fun a hA =>
      sta hA rfl rfl fun a hA=>?_
     refine o_nil ?_
     cases sJ H
     exact ⟨hA.sub ⟨rfl,trivial⟩,hI⟩
   ·have hc20:=hc2;obtain ⟨hc2,H⟩:=dF H hc2
    refine o_no hA rfl rfl (by rw [hc20];simp [vb]) rfl fun a hA =>
     o_no hA rfl rfl (by rw [hc20];simp [vb]) rfl fun a hA =>
     o_no hA rfl rfl (by rw [hc20];simp [vb]) rfl fun a hA =>
     o_no hA rfl rfl (by rw [hc20];simp [vb]) rfl fun a hA =>
     o_no hA rfl rfl (by rw [hc20];simp [vb]) rfl fun a hA =>
     stp hA (r_pick_f hA rfl hc20 rfl) rfl fun a hA =>
     stm hA rfl rfl fun a hA =>
     o_no hA rfl rfl (by simp [vb]) rfl fun a hA =>
     o_no hA rfl rfl (by simp [vb]) rfl fun a hA =>
     o_no hA rfl rfl (by simp [vb]) rfl fun a hA =>
     o_no hA rfl rfl (by simp [vb]) rfl fun a hA =>
     o_no hA rfl rfl (by simp [vb]) rfl fun a hA =>
     stp hA (r_pick_f hA rfl rfl rfl) rfl fun a hA =>
     stm hA rfl rfl fun a hA =>
     o_no hA rfl rfl (by simp [vb]) rfl fun a hA =>
     o_no hA rfl rfl (by simp [vb]) rfl fun a hA =>
     o_no hA rfl rfl (by simp [vb]) rfl fun a hA =>
     o_no hA rfl rfl (by simp [vb]) rfl fun a hA =>
     o_no hA rfl rfl (by simp [vb]) rfl fun a hA =>
     stp hA (r_pick_f hA rfl rfl rfl) rfl fun a hA =>
     sta hA rfl rfl fun a hA=>?_
    refine o_nil ?_
    cases sJ H
    exact ⟨hA.sub ⟨rfl,trivial⟩,hI⟩
  ·have hc10:=hc1;obtain ⟨hc1,H⟩:=dF H hc1
   refine o_no hA rfl rfl (by rw [hc10];simp [vb]) rfl fun a hA =>
    o_no hA rfl rfl (by rw [hc10];simp [vb]) rfl fun a hA =>
    o_no hA rfl rfl (by rw [hc10];simp [vb]) rfl fun a hA =>
    o_no hA rfl rfl (by rw [hc10];simp [vb]) rfl fun a hA =>
    o_no hA rfl rfl (by rw [hc10];simp [vb]) rfl fun a hA =>
    stp hA (r_pick_f hA rfl hc10 rfl) rfl fun a hA =>
    stm hA rfl rfl fun a hA =>
    o_no hA rfl rfl (by simp [vb]) rfl fun a hA =>
    o_no hA rfl rfl (by simp [vb]) rfl fun a hA =>
    o_no hA rfl rfl (by simp [vb]) rfl fun a hA =>
    o_no hA rfl rfl (by simp [vb]) rfl fun a hA =>
    o_no hA rfl rfl (by simp [vb]) rfl fun a hA =>
    stp hA (r_pick_f hA rfl rfl rfl) rfl fun a hA =>
    stm hA rfl rfl fun a hA =>
    o_no hA rfl rfl (by simp [vb]) rfl fun a hA =>
    o_no hA rfl rfl (by simp [vb]) rfl fun a hA =>
    o_no hA rfl rfl (by simp [vb]) rfl fun a hA =>
    o_no hA rfl rfl (by simp [vb]) rfl fun a hA =>
    o_no hA rfl rfl (by simp [vb]) rfl fun a hA =>
    stp hA (r_pick_f hA rfl rfl rfl) rfl fun a hA =>
    stm hA rfl rfl fun a hA =>
    o_no hA rfl rfl (by simp [vb]) rfl fun a hA =>
    o_no hA rfl rfl (by simp [vb]) rfl fun a hA =>
    o_no hA rfl rfl (by simp [vb]) rfl fun a hA =>
    o_no hA rfl rfl (by simp [vb]) rfl fun a hA =>
    o_no hA rfl rfl (by simp [vb]) rfl fun a hA =>
    stp hA (r_pick_f hA rfl rfl rfl) rfl fun a hA =>
    sta hA rfl rfl fun a hA=>?_
   refine o_nil ?_
   cases sJ H
   exact ⟨hA.sub ⟨rfl,trivial⟩,hI⟩
 ·rintro a w ⟨hA,hI⟩
  have H:=Hk1
  refine w_ret ?_
  obtain rfl:=sJ H
  exact ret1 hA Tryz.results89 rfl ⟨_,rfl,rfl,trivial,hI.forget0⟩
theorem q0_Bare.c (μ:Store)(w0:World)(hμ:Agr μ w0)(x0:Int)(hx0:InR .i64 x0)(r:q0Ft)(H:q0_Bare.f x0=some r) :
  Calls Tryz.prog 52 [.int .i64 x0].toArray w0 (fun e w'=>∃ v,e=.returned v∧v=.agg [[.int .i64 r.Code],[.bool r.Placed],[.int .i64 r.Pos],[.bool r.Outer],[.int .i64 r.At]].flatten.toArray∧q0FtW μ r∧Iv w0 [] μ μ [] w'):=by
 refine enter Tryz.func52 rfl Tryz.ntmps52 rfl fun a hA=>?_
 have hI:=Iv.start hμ
 have H:=bI H
 refine w_seq fun _ hN1=>w_reg<|o_new [[.int .i64 0],[.bool false],[.int .i64 0],[.bool false],[.int .i64 0]] zr117 hI hA rfl fun g1 a w hA hI hg1=>?_
 refine o_nil<|hN1 _ _<|w_seq fun _ hN2=>w_reg<|stm hA rfl rfl fun a hA =>
  stp hA (r_bldS (cs:=[[.int .i64 x0],[.bool false],[.int .i64 0],[.bool false],[.int .i64 0]].flatten.toArray) (pl:=[(0,1),(1,1),(2,1),(3,1),(4,1)]) zr117 U117 ⟨rfl,sz3,rfl,sz4,rfl,sz3,rfl,sz4,rfl,sz3,trivial⟩ hA rfl (by kernel_rfl)) rfl fun a hA =>
  o_st (j:=0) [] [[.int .i64 0],[.bool false],[.int .i64 0],[.bool false],[.int .i64 0]] [[.int .i64 x0],[.bool false],[.int .i64 0],[.bool false],[.int .i64 0]] [] sz117 rfl rfl (fl_cons (oneC rfl) (fl_cons (oneC rfl) (fl_cons (oneC rfl) (fl_cons (oneC rfl) (fl_cons (oneC rfl) fl_nil))))) hI rfl hA rfl rfl rfl rfl fun w hI=>?_
 refine o_nil<|hN2 _ _<|w_ret ?_
 obtain rfl:=sJ H
 exact retc U117 rfl sz117 rfl hI (j:=0) rfl hA Tryz.results52 rfl ⟨_,rfl,rfl,⟨hx0,(in_lit .i64 0 rfl),(in_lit .i64 0 rfl)⟩,hI.forget0⟩
theorem q0_None.c (μ:Store)(w0:World)(hμ:Agr μ w0)(r:q0Ft)(H:q0_None.f=some r) :
  Calls Tryz.prog 116 [].toArray w0 (fun e w'=>∃ v,e=.returned v∧v=.agg [[.int .i64 r.Code],[.bool r.Placed],[.int .i64 r.Pos],[.bool r.Outer],[.int .i64 r.At]].flatten.toArray∧q0FtW μ r∧Iv w0 [] μ μ [] w'):=by
 refine enter Tryz.func116 rfl Tryz.ntmps116 rfl fun a hA=>?_
 have hI:=Iv.start hμ
 have H:=bI H
 refine w_seq fun _ hN1=>w_reg<|o_new [[.int .i64 0],[.bool false],[.int .i64 0],[.bool false],[.int .i64 0]] zr117 hI hA rfl fun g1 a w hA hI hg1=>?_
 refine o_nil<|hN1 _ _<|w_seq fun _ hN2=>w_reg<|stp hA (r_bldS (cs:=[[.int .i64 0],[.bool false],[.int .i64 0],[.bool false],[.int .i64 0]].flatten.toArray) (pl:=[(0,1),(1,1),(2,1),(3,1),(4,1)]) zr117 U117 ⟨rfl,sz3,rfl,sz4,rfl,sz3,rfl,sz4,rfl,sz3,trivial⟩ hA rfl (by kernel_rfl)) rfl fun a hA =>
  o_st (j:=0) [] [[.int .i64 0],[.bool false],[.int .i64 0],[.bool false],[.int .i64 0]] [[.int .i64 0],[.bool false],[.int .i64 0],[.bool false],[.int .i64 0]] [] sz117 rfl rfl (fl_cons (oneC rfl) (fl_cons (oneC rfl) (fl_cons (oneC rfl) (fl_cons (oneC rfl) (fl_cons (oneC rfl) fl_nil))))) hI rfl hA rfl rfl rfl rfl fun w hI=>?_
 refine o_nil<|hN2 _ _<|w_ret ?_
 obtain rfl:=sJ H
 exact retc U117 rfl sz117 rfl hI (j:=0) rfl hA Tryz.results116 rfl ⟨_,rfl,rfl,⟨(in_lit .i64 0 rfl),(in_lit .i64 0 rfl),(in_lit .i64 0 rfl)⟩,hI.forget0⟩
theorem q2_sentinels.c (μ:Store)(w0:World)(hμ:Agr μ w0)(hG:Gl μ)(r:List Er)(H:q2_sentinels.f=some r) :
  Calls Tryz.prog 170 [].toArray w0 (fun e w'=>∃ v,e=.returned v∧∃(v0:Value)(c0:List Value)(μ':Store),v=v0∧Els (RErr μ') 1 r c0∧Iv w0 [] μ μ' [row 37 1 v0 r.length c0] w'):=by
 refine enter Tryz.func170 rfl Tryz.ntmps170 rfl fun a hA=>?_
 have hI:=Iv.start hμ
 have H:=bI H
 obtain ⟨e0,he0⟩:=hG.g0
 obtain ⟨e1,he1⟩:=hG.g1
 obtain ⟨e2,he2⟩:=hG.g2
 obtain ⟨e3,he3⟩:=hG.g3
 obtain ⟨e5,he5⟩:=hG.g5
 obtain ⟨e6,he6⟩:=hG.g6
 obtain ⟨e7,he7⟩:=hG.g7
 obtain ⟨e8,he8⟩:=hG.g8
 obtain ⟨e9,he9⟩:=hG.g9
 obtain ⟨e10,he10⟩:=hG.g10
 obtain ⟨e11,he11⟩:=hG.g11
 obtain ⟨e12,he12⟩:=hG.g12
 obtain ⟨e13,he13⟩:=hG.g13
 obtain ⟨e14,he14⟩:=hG.g14
 obtain ⟨e15,he15⟩:=hG.g15
 obtain ⟨e16,he16⟩:=hG.g16
 obtain ⟨e17,he17⟩:=hG.g17
 obtain ⟨e18,he18⟩:=hG.g18
 obtain ⟨e19,he19⟩:=hG.g19
 obtain ⟨e20,he20⟩:=hG.g20
 obtain ⟨e21,he21⟩:=hG.g21
 obtain ⟨e22,he22⟩:=hG.g22
 obtain ⟨e23,he23⟩:=hG.g23
 obtain ⟨e24,he24⟩:=hG.g24
 obtain ⟨e25,he25⟩:=hG.g25
 refine w_seq fun _ hN1=>w_reg<|sta hA rfl rfl fun a hA=>?_
 refine o_nil<|hN1 _ _<|w_seq fun _ hN2=>w_reg<|stp hA (r_ldG U37 rfl hI.agr he5 hA) rfl fun a hA =>
  stp hA (r_ldG U37 rfl hI.agr he6 hA) rfl fun a hA =>
  stp hA (r_ldG U37 rfl hI.agr he7 hA) rfl fun a hA =>
  stp hA (r_ldG U37 rfl hI.agr he8 hA) rfl fun a hA =>
  stp hA (r_ldG U37 rfl hI.agr he9 hA) rfl fun a hA =>
  stp hA (r_ldG U37 rfl hI.agr he10 hA) rfl fun a hA =>
  stp hA (r_ldG U37 rfl hI.agr he11 hA) rfl fun a hA =>
  stp hA (r_ldG U37 rfl hI.agr he12 hA) rfl fun a hA =>
  stp hA (r_ldG U37 rfl hI.agr he0 hA) rfl fun a hA =>
  stp hA (r_ldG U37 rfl hI.agr he1 hA) rfl fun a hA =>
  stp hA (r_ldG U37 rfl hI.agr he13 hA) rfl fun a hA =>
  stp hA (r_ldG U37 rfl hI.agr he14 hA) rfl fun a hA =>
  stp hA (r_ldG U37 rfl hI.agr he15 hA) rfl fun a hA =>
  stp hA (r_ldG U37 rfl hI.agr he16 hA) rfl fun a hA =>
  stp hA (r_ldG U37 rfl hI.agr he17 hA) rfl fun a hA =>
  stp hA (r_ldG U37 rfl hI.agr he18 hA) rfl fun a hA =>
  stp hA (r_ldG U37 rfl hI.agr he19 hA) rfl fun a hA =>
  stp hA (r_ldG U37 rfl hI.agr he20 hA) rfl fun a hA =>
  stp hA (r_ldG U37 rfl hI.agr he21 hA) rfl fun a hA =>
  stp hA (r_ldG U37 rfl hI.agr he22 hA) rfl fun a hA =>
  stp hA (r_ldG U37 rfl hI.agr he2 hA) rfl fun a hA =>
  stp hA (r_ldG U37 rfl hI.agr he3 hA) rfl fun a hA =>
  stp hA (r_ldG U37 rfl hI.agr he23 hA) rfl fun a hA =>
  stp hA (r_ldG U37 rfl hI.agr he24 hA) rfl fun a hA =>
  stp hA (r_ldG U37 rfl hI.agr he25 hA) rfl fun a hA=>?_
 have hE1:Els (RErr μ) 1 ([xErrEnd,xErrShape,xErrLong,xErrMany,xErrValue,xErrTwice,xErrBase,xErrRoot,xErrKnown,xErrParent,xErrInvalid,xErrTime,xErrMissing,xErrKey,xErrYoung,xErrEarly,xErrLess,xErrReward,xErrClash,xErrLimit,xErrFull,xErrRange,xErrNone,xErrWord,xErrNumber]:List Er) _:=(Els.cons (c:=[[e5]].flatten) ⟨_,rfl,he5⟩ rfl (Els.cons (c:=[[e6]].flatten) ⟨_,rfl,he6⟩ rfl (Els.cons (c:=[[e7]].flatten) ⟨_,rfl,he7⟩ rfl (Els.cons (c:=[[e8]].flatten) ⟨_,rfl,he8⟩ rfl (Els.cons (c:=[[e9]].flatten) ⟨_,rfl,he9⟩ rfl (Els.cons (c:=[[e10]].flatten) ⟨_,rfl,he10⟩ rfl (Els.cons (c:=[[e11]].flatten) ⟨_,rfl,he11⟩ rfl (Els.cons (c:=[[e12]].flatten) ⟨_,rfl,he12⟩ rfl (Els.cons (c:=[[e0]].flatten) ⟨_,rfl,he0⟩ rfl (Els.cons (c:=[[e1]].flatten) ⟨_,rfl,he1⟩ rfl (Els.cons (c:=[[e13]].flatten) ⟨_,rfl,he13⟩ rfl (Els.cons (c:=[[e14]].flatten) ⟨_,rfl,he14⟩ rfl (Els.cons (c:=[[e15]].flatten) ⟨_,rfl,he15⟩ rfl (Els.cons (c:=[[e16]].flatten) ⟨_,rfl,he16⟩ rfl (Els.cons (c:=[[e17]].flatten) ⟨_,rfl,he17⟩ rfl (Els.cons (c:=[[e18]].flatten) ⟨_,rfl,he18⟩ rfl (Els.cons (c:=[[e19]].flatten) ⟨_,rfl,he19⟩ rfl (Els.cons (c:=[[e20]].flatten) ⟨_,rfl,he20⟩ rfl (Els.cons (c:=[[e21]].flatten) ⟨_,rfl,he21⟩ rfl (Els.cons (c:=[[e22]].flatten) ⟨_,rfl,he22⟩ rfl (Els.cons (c:=[[e2]].flatten) ⟨_,rfl,he2⟩ rfl (Els.cons (c:=[[e3]].flatten) ⟨_,rfl,he3⟩ rfl (Els.cons (c:=[[e23]].flatten) ⟨_,rfl,he23⟩ rfl (Els.cons (c:=[[e24]].flatten) ⟨_,rfl,he24⟩ rfl (Els.cons (c:=[[e25]].flatten) ⟨_,rfl,he25⟩ rfl Els.nil)))))))))))))))))))))))))
 refine o_bsl ([[e5]].flatten++([[e6]].flatten++([[e7]].flatten++([[e8]].flatten++([[e9]].flatten++([[e10]].flatten++([[e11]].flatten++([[e12]].flatten++([[e0]].flatten++([[e1]].flatten++([[e13]].flatten++([[e14]].flatten++([[e15]].flatten++([[e16]].flatten++([[e17]].flatten++([[e18]].flatten++([[e19]].flatten++([[e20]].flatten++([[e21]].flatten++([[e22]].flatten++([[e2]].flatten++([[e3]].flatten++([[e23]].flatten++([[e24]].flatten++([[e25]].flatten++([])))))))))))))))))))))))))) te37 zr37 U276 hI hA rfl rfl rfl rfl ((fill_one (cells_err1 he5) rfl (by kernel_rfl)).trans ((fill_one (cells_err1 he6) rfl (by kernel_rfl)).trans ((fill_one (cells_err1 he7) rfl (by kernel_rfl)).trans ((fill_one (cells_err1 he8) rfl (by kernel_rfl)).trans ((fill_one (cells_err1 he9) rfl (by kernel_rfl)).trans ((fill_one (cells_err1 he10) rfl (by kernel_rfl)).trans ((fill_one (cells_err1 he11) rfl (by kernel_rfl)).trans ((fill_one (cells_err1 he12) rfl (by kernel_rfl)).trans ((fill_one (cells_err1 he0) rfl (by kernel_rfl)).trans ((fill_one (cells_err1 he1) rfl (by kernel_rfl)).trans ((fill_one (cells_err1 he13) rfl (by kernel_rfl)).trans ((fill_one (cells_err1 he14) rfl (by kernel_rfl)).trans ((fill_one (cells_err1 he15) rfl (by kernel_rfl)).trans ((fill_one (cells_err1 he16) rfl (by kernel_rfl)).trans ((fill_one (cells_err1 he17) rfl (by kernel_rfl)).trans ((fill_one (cells_err1 he18) rfl (by kernel_rfl)).trans ((fill_one (cells_err1 he19) rfl (by kernel_rfl)).trans ((fill_one (cells_err1 he20) rfl (by kernel_rfl)).trans ((fill_one (cells_err1 he21) rfl (by kernel_rfl)).trans ((fill_one (cells_err1 he22) rfl (by kernel_rfl)).trans ((fill_one (cells_err1 he2) rfl (by kernel_rfl)).trans ((fill_one (cells_err1 he3) rfl (by kernel_rfl)).trans ((fill_one (cells_err1 he23) rfl (by kernel_rfl)).trans ((fill_one (cells_err1 he24) rfl (by kernel_rfl)).trans ((fill_one (cells_err1 he25) rfl (by kernel_rfl)).trans (by kernel_rfl)))))))))))))))))))))))))) rfl fun g1 a w hA hI=>?_
 generalize hcs:([[e5]].flatten++([[e6]].flatten++([[e7]].flatten++([[e8]].flatten++([[e9]].flatten++([[e10]].flatten++([[e11]].flatten++([[e12]].flatten++([[e0]].flatten++([[e1]].flatten++([[e13]].flatten++([[e14]].flatten++([[e15]].flatten++([[e16]].flatten++([[e17]].flatten++([[e18]].flatten++([[e19]].flatten++([[e20]].flatten++([[e21]].flatten++([[e22]].flatten++([[e2]].flatten++([[e3]].flatten++([[e23]].flatten++([[e24]].flatten++([[e25]].flatten++([]))))))))))))))))))))))))):List Value)=cs1 at hE1 hI
 clear hcs
 refine sta hA rfl rfl fun a hA=>?_
 refine o_nil<|hN2 _ _<|w_ret ?_
 obtain rfl:=sJ H
 exact ret1 hA Tryz.results170 rfl ⟨_,rfl,(.slice (some ⟨g1,0,none⟩) 25 25),cs1,μ,rfl,hE1,hI⟩
theorem q2_Alike.c (μ:Store)(w0:World)(hμ:Agr μ w0)(x0:Er)(u0:Value)(hx0:ErS μ u0 x0)(x1:Er)(u1:Value)(hx1:ErS μ u1 x1)(r:Bool)(H:q2_Alike.f x0 x1=some r) :
  Calls Tryz.prog 171 [u0,u1].toArray w0 (fun e w'=>∃ v,e=.returned v∧v=.bool r∧True∧Iv w0 [] μ μ [] w'):=by
 refine enter Tryz.func171 rfl Tryz.ntmps171 rfl fun a hA=>?_
 have hI:=Iv.start hμ
 have H:=bI H
 refine w_seq fun _ hN1=>w_reg<|sta hA rfl rfl fun a hA=>?_
 refine o_nil<|hN1 _ _<|w_seq fun _ hN2=>?_
 obtain ⟨c1,hz1,Hk1⟩:=bB H
 refine w_cut (fun a w=>Fr a 20 [(0,u0),(1,u1),(4,.bool false),(10,.bool c1)]∧Iv w0 [] μ μ [] w) ?_ ?_
 ·have H:=bI hz1
  refine w_reg<|stm hA rfl rfl fun a hA =>
   stp hA (r_eqE erF hI.agr hx0 erv_nil (.inl ⟨.inr ⟨_,rfl⟩,Er.fitR⟩) hA rfl rfl) rfl fun a hA =>
   stm hA rfl rfl fun a hA=>?_
  rcases Bool.eq_false_or_eq_true (decide (x0=(Er.b 0))) with hc1 | hc1
  ·have hc10:=hc1;obtain ⟨hc1,H⟩:=dT H hc1
   refine o_no hA rfl rfl (by rw [hc10];simp [vb]) rfl fun a hA =>
    o_no hA rfl rfl (by rw [hc10];simp [vb]) rfl fun a hA =>
    stp hA (r_pick_t hA rfl hc10 rfl) rfl fun a hA=>?_
   refine o_nil ?_
   cases sJ H
   exact ⟨hA.sub ⟨rfl,rfl,rfl,rfl,trivial⟩,hI⟩
  ·have hc10:=hc1;obtain ⟨hc1,H⟩:=dF H hc1
   refine o_yes hA rfl rfl hc10 <|
    stm hA rfl rfl fun a hA =>
    o_yes hA rfl rfl hc10 <|
    stp hA (r_eqE erF hI.agr hx1 erv_nil (.inl ⟨.inr ⟨_,rfl⟩,Er.fitR⟩) hA rfl rfl) rfl fun a hA =>
    stp hA (r_pick_f hA rfl hc10 rfl) rfl fun a hA=>?_
   refine o_nil ?_
   cases sJ H
   exact ⟨hA.sub ⟨rfl,rfl,rfl,rfl,trivial⟩,hI⟩
 ·rintro a w ⟨hA,hI⟩
  have H:=Hk1
  refine w_cond hA rfl (fun hc2=>?_) (fun hc2=>?_)
  ·have H:=bT H hc2
   obtain ⟨c2,hz2,Hk2⟩:=bB H
   refine w_cut (fun a w=>Fr a 20 [(0,u0),(1,u1),(4,.bool c2)]∧Iv w0 [] μ μ [] w) ?_ ?_
   ·have H:=bI hz2
    refine w_reg<|stm hA rfl rfl fun a hA =>
     stp hA (r_eqE erF hI.agr hx0 erv_nil (.inl ⟨.inr ⟨_,rfl⟩,Er.fitR⟩) hA rfl rfl) rfl fun a hA =>
     stm hA rfl rfl fun a hA=>?_
    rcases Bool.eq_false_or_eq_true (decide (x0=(Er.b 0))) with hc3 | hc3
    ·have hc30:=hc3;obtain ⟨hc3,H⟩:=dT H hc3
     refine o_yes hA rfl rfl hc30 <|
      stm hA rfl rfl fun a hA =>
      o_yes hA rfl rfl hc30 <|
      stp hA (r_eqE erF hI.agr hx1 erv_nil (.inl ⟨.inr ⟨_,rfl⟩,Er.fitR⟩) hA rfl rfl) rfl fun a hA =>
      stp hA (r_pick_t hA rfl hc30 rfl) rfl fun a hA =>
      sta hA rfl rfl fun a hA=>?_
     refine o_nil ?_
     cases sJ H
     exact ⟨hA.sub ⟨rfl,rfl,rfl,trivial⟩,hI⟩
    ·have hc30:=hc3;obtain ⟨hc3,H⟩:=dF H hc3
     refine o_no hA rfl rfl (by rw [hc30];simp [vb]) rfl fun a hA =>
      o_no hA rfl rfl (by rw [hc30];simp [vb]) rfl fun a hA =>
      stp hA (r_pick_f hA rfl hc30 rfl) rfl fun a hA =>
      sta hA rfl rfl fun a hA=>?_
     refine o_nil ?_
     cases sJ H
     exact ⟨hA.sub ⟨rfl,rfl,rfl,trivial⟩,hI⟩
   ·rintro a w ⟨hA,hI⟩
    have H:=Hk2
    refine w_ret ?_
    obtain rfl:=sJ H
    exact ret1 hA Tryz.results171 rfl ⟨_,rfl,rfl,trivial,hI.forget0⟩
  ·have hc2:=ft hc2;have H:=bF H hc2
   refine w_skip<|hN2 _ _<|w_seq fun _ hN3=>w_reg<|stm hA rfl rfl fun a hA =>
    stm hA rfl rfl fun a hA=>?_
   obtain ⟨hb1,H⟩:=bG H
   refine stp hA (r_eqE erF hI.agr hx0 hx1 (.inr hb1) hA rfl rfl) rfl fun a hA =>
    sta hA rfl rfl fun a hA=>?_
   refine o_nil<|hN3 _ _<|w_ret ?_
   obtain rfl:=sJ H
   exact ret1 hA Tryz.results171 rfl ⟨_,rfl,rfl,trivial,hI.forget0⟩
theorem q2_sentinel.c (μ:Store)(w0:World)(hμ:Agr μ w0)(x0:Er)(u0:Value)(hx0:ErS μ u0 x0)(hG:Gl μ)(r:Int)(H:q2_sentinel.f x0=some r) :
  Calls Tryz.prog 132 [u0].toArray w0 (fun e w'=>∃ v,e=.returned v∧v=.int .i64 r∧InR .i64 r∧Iv w0 [] μ μ [] w'):=by
 refine enter Tryz.func132 rfl Tryz.ntmps132 rfl fun a hA=>?_
 have hI:=Iv.start hμ
 have H:=bI H
 refine w_seq fun _ hN1=>w_reg<|sta hA rfl rfl fun a hA=>?_
 refine o_nil<|hN1 _ _<|w_seq fun _ hN2=>w_reg ?_
 obtain ⟨r1,hr1,H⟩:=bB H
 refine o_call _ cf170 hA rfl (q2_sentinels.c μ _ hI.agr hG r1 hr1) rfl fun v1 a w hz1 hA=>?_
 obtain ⟨_,cs1,μ1,rfl,hE1,hi1⟩:=hz1
 have hI:=hI.call hi1
 refine sta hA rfl rfl fun a hA=>?_
 refine o_nil<|hN2 _ _<|w_seq fun _ hN3=>w_seq fun _ hN4=>w_reg<|sta hA rfl rfl fun a hA=>?_
 refine o_nil<|hN4 _ _<|w_block ?_
 obtain ⟨z1,hz2,Hk1⟩:=bind_some H
 obtain ⟨n1,hn1⟩:=loopO_some hz2
 refine w_loop (fun n a w=>∃(s1:Int),loopN (q2_sentinel.s0 x0 r1) n s1=some z1∧InR .i64 s1∧Fr a 20 [(0,u0),(2,.int .i64 0),(3,v1),(4,.int .i64 s1)]∧Iv w0 [] μ μ1 [row 37 1 v1 r1.length cs1] w) n1 ⟨0,hn1,(in_lit .i64 0 rfl),hA.sub ⟨rfl,rfl,rfl,rfl,trivial⟩,hI⟩ ?_
 clear hA hI
 rintro n a w ⟨s1,hn1,ws1,hA,hI⟩
 obtain ⟨m1,rfl,H⟩:=loopN_bind hn1
 clear hn1
 refine w_seq fun _ hN5=>w_seq fun _ hN6=>w_reg<|stm hA rfl rfl fun a hA =>
  stm hA rfl rfl fun a hA=>?_
 have hlen1:=Iv.row_in hI (j:=0) rfl
 refine stp hA (r_rlen (xs:=0) U276 hI (j:=0) rfl hA rfl) rfl fun a hA =>
  stp hA (r_lss hA rfl rfl) rfl fun a hA=>?_
 refine o_nil<|hN6 _ _<|w_cond hA rfl (fun hc1=>?_) (fun hc1=>?_)
 ·obtain ⟨hc1,H⟩:=dT H hc1
  refine w_skip<|hN5 _ _<|w_seq fun _ hN7=>w_block<|w_seq fun _ hN8=>w_reg<|stm hA rfl rfl fun a hA =>
   stm hA rfl rfl fun a hA =>
   stm hA rfl rfl fun a hA=>?_
  obtain ⟨hb1,H⟩:=bG H
  refine stp hA (r_rix (j:=0) U276 sz37 hI rfl hA rfl rfl hb1.1 hb1.2) rfl fun a hA=>?_
  obtain ⟨A1,_,B1,hc2,hl1,_,he1⟩:=Els.at_ hE1 (getD_some (Er.b 0) hb1.1 hb1.2)
  obtain ⟨v2,rfl,hw1⟩:=he1
  refine stp hA (r_rldQ (j:=0) (q:=s1.toNat * 1) (off:=0) A1 B1 [] [] hc2 hl1 rfl U37 rfl hI rfl hA rfl) rfl fun a hA=>?_
  obtain ⟨r2,hr2,H⟩:=bB H
  refine o_callp (u:=.bool r2) cf171 hA rfl hI (q2_Alike.c μ1 _ hI.agr x0 u0 (ErV.le (fun _ _ h=>h) hi1.le hx0) (r1.getD s1.toNat (Er.b 0)) v2 hw1 r2 hr2) rfl fun a w hz3 hI hA=>?_
  refine o_nil<|hN8 _ _<|w_cond hA rfl (fun hc3=>?_) (fun hc3=>?_)
  ·have H:=bT H hc3
   refine w_seq fun _ hN9=>w_reg<|stm hA rfl rfl fun a hA =>
    stp hA (r_add hA rfl rfl) rfl fun a hA =>
    sta hA rfl rfl fun a hA=>?_
   refine o_nil<|hN9 _ _<|w_ret ?_
   have H:some (IntKind.i64.wrap (101+s1))=some z1:=H
   obtain rfl:=sI H
   have H:=Hk1
   obtain rfl:=sJ H
   exact ret1 hA Tryz.results132 rfl ⟨_,rfl,rfl,(wrap_in _ _),hI.forget0⟩
  ·have hc3:=ft hc3;have H:=bF H hc3
   refine w_skip<|hN7 _ _<|w_reg<|stm hA rfl rfl fun a hA =>
    stp hA (r_add hA rfl rfl) rfl fun a hA =>
    sta hA rfl rfl fun a hA=>?_
   refine o_nil<|⟨m1,lS _,IntKind.i64.wrap (s1+1),H,(wrap_in _ _),hA.sub ⟨rfl,rfl,rfl,rfl,trivial⟩,hI⟩
 ·obtain ⟨hc1,H⟩:=dF H hc1
  refine w_exit rfl<|hN3 _ _<|w_seq fun _ hN10=>w_reg<|sta hA rfl rfl fun a hA=>?_
  refine o_nil<|hN10 _ _<|w_ret ?_
  have H:some (-1)=some z1:=H
  obtain rfl:=sI H
  have H:=Hk1
  obtain rfl:=sJ H
  exact ret1 hA Tryz.results132 rfl ⟨_,rfl,rfl,(in_lit .i64 (-1) rfl),hI.forget0⟩
theorem q0_Placed.c (μ:Store)(w0:World)(hμ:Agr μ w0)(x0:Int)(hx0:InR .i64 x0)(x1:Int)(hx1:InR .i64 x1)(r:q0Ft)(H:q0_Placed.f x0 x1=some r) :
  Calls Tryz.prog 133 [.int .i64 x0,.int .i64 x1].toArray w0 (fun e w'=>∃ v,e=.returned v∧v=.agg [[.int .i64 r.Code],[.bool r.Placed],[.int .i64 r.Pos],[.bool r.Outer],[.int .i64 r.At]].flatten.toArray∧q0FtW μ r∧Iv w0 [] μ μ [] w'):=by
 refine enter Tryz.func133 rfl Tryz.ntmps133 rfl fun a hA=>?_
 have hI:=Iv.start hμ
 have H:=bI H
 refine w_seq fun _ hN1=>w_reg<|o_new [[.int .i64 0],[.bool false],[.int .i64 0],[.bool false],[.int .i64 0]] zr117 hI hA rfl fun g1 a w hA hI hg1=>?_
 refine o_nil<|hN1 _ _<|w_seq fun _ hN2=>w_seq fun _ hN3=>w_reg<|stm hA rfl rfl fun a hA =>
  stp hA (r_eql hA rfl rfl) rfl fun a hA=>?_
 refine o_nil<|hN3 _ _<|w_cond hA rfl (fun hc1=>?_) (fun hc1=>?_)
 ·obtain ⟨hc1,H⟩:=dT H hc1
  refine w_seq fun _ hN4=>w_reg ?_
  obtain ⟨r1,hr1,H⟩:=bB H
  refine o_callp (u:=.agg [[.int .i64 r1.Code],[.bool r1.Placed],[.int .i64 r1.Pos],[.bool r1.Outer],[.int .i64 r1.At]].flatten.toArray) cf116 hA rfl hI (q0_None.c μ _ hI.agr  r1 hr1) rfl fun a w hz1 hI hA =>
   o_st (j:=0) [] [[.int .i64 0],[.bool false],[.int .i64 0],[.bool false],[.int .i64 0]] [[.int .i64 r1.Code],[.bool r1.Placed],[.int .i64 r1.Pos],[.bool r1.Outer],[.int .i64 r1.At]] [] sz117 rfl rfl (fl_cons (oneC rfl) (fl_cons (oneC rfl) (fl_cons (oneC rfl) (fl_cons (oneC rfl) (fl_cons (oneC rfl) fl_nil))))) hI rfl hA rfl rfl rfl rfl fun w hI=>?_
  refine o_nil<|hN4 _ _<|w_ret ?_
  obtain rfl:=sJ H
  exact retc U117 rfl sz117 rfl hI (j:=0) rfl hA Tryz.results133 rfl ⟨_,rfl,rfl,⟨hz1.1,hz1.2.1,hz1.2.2⟩,hI.forget0⟩
 ·obtain ⟨hc1,H⟩:=dF H hc1
  refine w_skip<|hN2 _ _<|w_seq fun _ hN5=>w_reg<|stm hA rfl rfl fun a hA =>
   stm hA rfl rfl fun a hA =>
   stp hA (r_bldS (cs:=[[.int .i64 x0],[.bool true],[.int .i64 x1],[.bool false],[.int .i64 0]].flatten.toArray) (pl:=[(0,1),(1,1),(2,1),(3,1),(4,1)]) zr117 U117 ⟨rfl,sz3,rfl,sz4,rfl,sz3,rfl,sz4,rfl,sz3,trivial⟩ hA rfl (by kernel_rfl)) rfl fun a hA =>
   o_st (j:=0) [] [[.int .i64 0],[.bool false],[.int .i64 0],[.bool false],[.int .i64 0]] [[.int .i64 x0],[.bool true],[.int .i64 x1],[.bool false],[.int .i64 0]] [] sz117 rfl rfl (fl_cons (oneC rfl) (fl_cons (oneC rfl) (fl_cons (oneC rfl) (fl_cons (oneC rfl) (fl_cons (oneC rfl) fl_nil))))) hI rfl hA rfl rfl rfl rfl fun w hI=>?_
  refine o_nil<|hN5 _ _<|w_ret ?_
  obtain rfl:=sJ H
  exact retc U117 rfl sz117 rfl hI (j:=0) rfl hA Tryz.results133 rfl ⟨_,rfl,rfl,⟨hx0,hx1,(in_lit .i64 0 rfl)⟩,hI.forget0⟩
theorem q0_Around.c (μ:Store)(w0:World)(hμ:Agr μ w0)(x0:q0Ft)(hx0:q0FtW μ x0)(x1:Int)(hx1:InR .i64 x1)(r:q0Ft)(H:q0_Around.f x0 x1=some r) :
  Calls Tryz.prog 134 [.agg [[.int .i64 x0.Code],[.bool x0.Placed],[.int .i64 x0.Pos],[.bool x0.Outer],[.int .i64 x0.At]].flatten.toArray,.int .i64 x1].toArray w0 (fun e w'=>∃ v,e=.returned v∧v=.agg [[.int .i64 r.Code],[.bool r.Placed],[.int .i64 r.Pos],[.bool r.Outer],[.int .i64 r.At]].flatten.toArray∧q0FtW μ r∧Iv w0 [] μ μ [] w'):=by
 refine enter Tryz.func134 rfl Tryz.ntmps134 rfl fun a hA=>?_
 have hI:=Iv.start hμ
 have H:=bI H
 refine w_seq fun _ hN1=>w_reg<|o_box [[.int .i64 x0.Code],[.bool x0.Placed],[.int .i64 x0.Pos],[.bool x0.Outer],[.int .i64 x0.At]] hI hA rfl rfl rfl fun g1 a w hA hI hg1 =>
  o_new [[.int .i64 0],[.bool false],[.int .i64 0],[.bool false],[.int .i64 0]] zr117 hI hA rfl fun g2 a w hA hI hg2=>?_
 refine o_nil<|hN1 _ _<|w_seq fun _ hN2=>w_block<|w_seq fun _ hN3=>w_reg<|stp hA (r_fd (k:=0) U117 rfl sz3 hA rfl rfl) rfl fun a hA =>
  stp hA (r_ld1 (j:=1) [] [[.bool x0.Placed],[.int .i64 x0.Pos],[.bool x0.Outer],[.int .i64 x0.At]] U3 rfl hI rfl hA rfl rfl) rfl fun a hA =>
  stp hA (r_eql hA rfl rfl) rfl fun a hA =>
  sta hA rfl rfl fun a hA=>?_
 refine o_nil<|hN3 _ _<|w_cond hA rfl (fun hc1=>?_) (fun hc1=>?_)
 ·obtain ⟨hc1,H⟩:=dT H hc1
  refine w_seq fun _ hN4=>w_reg<|stp hA (r_ldA (j:=1) [] [[.int .i64 x0.Code],[.bool x0.Placed],[.int .i64 x0.Pos],[.bool x0.Outer],[.int .i64 x0.At]] [] U117 rfl sz117 rfl hI rfl hA rfl rfl) rfl fun a hA =>
   o_st (j:=0) [] [[.int .i64 0],[.bool false],[.int .i64 0],[.bool false],[.int .i64 0]] [[.int .i64 x0.Code],[.bool x0.Placed],[.int .i64 x0.Pos],[.bool x0.Outer],[.int .i64 x0.At]] [] sz117 rfl rfl (fl_cons (oneC rfl) (fl_cons (oneC rfl) (fl_cons (oneC rfl) (fl_cons (oneC rfl) (fl_cons (oneC rfl) fl_nil))))) hI rfl hA rfl rfl rfl rfl fun w hI=>?_
  refine o_nil<|hN4 _ _<|w_ret ?_
  obtain rfl:=sJ H
  exact retc U117 rfl sz117 rfl hI (j:=0) rfl hA Tryz.results134 rfl ⟨_,rfl,rfl,⟨hx0.1,hx0.2.1,hx0.2.2⟩,hI.forget0⟩
 ·obtain ⟨hc1,H⟩:=dF H hc1
  refine w_seq fun _ hN5=>w_reg<|stp hA (r_fd (k:=1) U117 rfl sz4 hA rfl rfl) rfl fun a hA =>
   stp hA (r_ld1 (j:=1) [[.int .i64 x0.Code]] [[.int .i64 x0.Pos],[.bool x0.Outer],[.int .i64 x0.At]] U4 rfl hI rfl hA rfl rfl) rfl fun a hA =>
   stp hA (r_not hA rfl) rfl fun a hA =>
   sta hA rfl rfl fun a hA=>?_
  refine o_nil<|hN5 _ _<|w_cond hA rfl (fun hc2=>?_) (fun hc2=>?_)
  ·have hc2:=nT hc2;have hc2:=ft hc2;have H:=bF H hc2
   refine w_seq fun _ hN6=>w_reg<|stp hA (r_fd (k:=0) U117 rfl sz3 hA rfl rfl) rfl fun a hA =>
    stp hA (r_ld1 (j:=1) [] [[.bool x0.Placed],[.int .i64 x0.Pos],[.bool x0.Outer],[.int .i64 x0.At]] U3 rfl hI rfl hA rfl rfl) rfl fun a hA =>
    stm hA rfl rfl fun a hA=>?_
   obtain ⟨r1,hr1,H⟩:=bB H
   refine o_callp (u:=.agg [[.int .i64 r1.Code],[.bool r1.Placed],[.int .i64 r1.Pos],[.bool r1.Outer],[.int .i64 r1.At]].flatten.toArray) cf133 hA rfl hI (q0_Placed.c μ _ hI.agr x0.Code hx0.1 x1 hx1 r1 hr1) rfl fun a w hz1 hI hA =>
    o_st (j:=0) [] [[.int .i64 0],[.bool false],[.int .i64 0],[.bool false],[.int .i64 0]] [[.int .i64 r1.Code],[.bool r1.Placed],[.int .i64 r1.Pos],[.bool r1.Outer],[.int .i64 r1.At]] [] sz117 rfl rfl (fl_cons (oneC rfl) (fl_cons (oneC rfl) (fl_cons (oneC rfl) (fl_cons (oneC rfl) (fl_cons (oneC rfl) fl_nil))))) hI rfl hA rfl rfl rfl rfl fun w hI=>?_
   refine o_nil<|hN6 _ _<|w_ret ?_
   obtain rfl:=sJ H
   exact retc U117 rfl sz117 rfl hI (j:=0) rfl hA Tryz.results134 rfl ⟨_,rfl,rfl,⟨hz1.1,hz1.2.1,hz1.2.2⟩,hI.forget0⟩
  ·have hc2:=nF hc2;have H:=bT H hc2
   refine w_skip<|hN2 _ _<|w_seq fun _ hN7=>w_reg<|stp hA (r_fd (k:=3) U117 rfl sz4 hA rfl rfl) rfl fun a hA =>
    o_st (j:=1) [[.int .i64 x0.Code],[.bool x0.Placed],[.int .i64 x0.Pos]] [[.bool x0.Outer]] [[.bool true]] [[.int .i64 x0.At]] sz4 rfl rfl (fl_cons (oneC rfl) fl_nil) hI rfl hA rfl rfl rfl rfl fun w hI=>?_
   refine o_nil<|hN7 _ _<|w_seq fun _ hN8=>w_reg<|stm hA rfl rfl fun a hA =>
    stp hA (r_fd (k:=4) U117 rfl sz3 hA rfl rfl) rfl fun a hA =>
    o_st (j:=1) [[.int .i64 x0.Code],[.bool x0.Placed],[.int .i64 x0.Pos],[.bool true]] [[.int .i64 x0.At]] [[.int .i64 x1]] [] sz3 rfl rfl (fl_cons (oneC rfl) fl_nil) hI rfl hA rfl rfl rfl rfl fun w hI=>?_
   refine o_nil<|hN8 _ _<|w_seq fun _ hN9=>w_reg<|stp hA (r_ldA (j:=1) [] [[.int .i64 x0.Code],[.bool x0.Placed],[.int .i64 x0.Pos],[.bool true],[.int .i64 x1]] [] U117 rfl sz117 rfl hI rfl hA rfl rfl) rfl fun a hA =>
    o_st (j:=0) [] [[.int .i64 0],[.bool false],[.int .i64 0],[.bool false],[.int .i64 0]] [[.int .i64 x0.Code],[.bool x0.Placed],[.int .i64 x0.Pos],[.bool true],[.int .i64 x1]] [] sz117 rfl rfl (fl_cons (oneC rfl) (fl_cons (oneC rfl) (fl_cons (oneC rfl) (fl_cons (oneC rfl) (fl_cons (oneC rfl) fl_nil))))) hI rfl hA rfl rfl rfl rfl fun w hI=>?_
   refine o_nil<|hN9 _ _<|w_ret ?_
   obtain rfl:=sJ H
   exact retc U117 rfl sz117 rfl hI (j:=0) rfl hA Tryz.results134 rfl ⟨_,rfl,rfl,⟨hx0.1,hx0.2.1,hx1⟩,hI.forget0⟩
theorem q2_Fault.c (μ:Store)(w0:World)(hμ:Agr μ w0)(x0:Er)(u0:Value)(hx0:ErS μ u0 x0)(hG:Gl μ)(r:q0Ft)(H:q2_Fault.f x0=some r) :
  Calls Tryz.prog 90 [u0].toArray w0 (fun e w'=>∃ v,e=.returned v∧v=.agg [[.int .i64 r.Code],[.bool r.Placed],[.int .i64 r.Pos],[.bool r.Outer],[.int .i64 r.At]].flatten.toArray∧q0FtW μ r∧Iv w0 [] μ μ [] w'):=by
 refine enter Tryz.func90 rfl Tryz.ntmps90 rfl fun a hA=>?_
 have hI:=Iv.start hμ
 have H:=bI H
 refine w_seq fun _ hN1=>w_reg<|o_new [[.int .i64 0],[.bool false],[.int .i64 0],[.bool false],[.int .i64 0]] zr117 hI hA rfl fun g1 a w hA hI hg1=>?_
 refine o_nil<|hN1 _ _<|w_seq fun _ hN2=>w_seq fun _ hN3=>w_reg<|stm hA rfl rfl fun a hA =>
  stp hA (r_eqE erF hI.agr hx0 erv_nil (.inl ⟨.inr ⟨_,rfl⟩,Er.fitR⟩) hA rfl rfl) rfl fun a hA=>?_
 refine o_nil<|hN3 _ _<|w_cond hA rfl (fun hc1=>?_) (fun hc1=>?_)
 ·obtain ⟨hc1,H⟩:=dT H hc1
  refine w_seq fun _ hN4=>w_reg ?_
  obtain ⟨r1,hr1,H⟩:=bB H
  refine o_callp (u:=.agg [[.int .i64 r1.Code],[.bool r1.Placed],[.int .i64 r1.Pos],[.bool r1.Outer],[.int .i64 r1.At]].flatten.toArray) cf116 hA rfl hI (q0_None.c μ _ hI.agr  r1 hr1) rfl fun a w hz1 hI hA =>
   o_st (j:=0) [] [[.int .i64 0],[.bool false],[.int .i64 0],[.bool false],[.int .i64 0]] [[.int .i64 r1.Code],[.bool r1.Placed],[.int .i64 r1.Pos],[.bool r1.Outer],[.int .i64 r1.At]] [] sz117 rfl rfl (fl_cons (oneC rfl) (fl_cons (oneC rfl) (fl_cons (oneC rfl) (fl_cons (oneC rfl) (fl_cons (oneC rfl) fl_nil))))) hI rfl hA rfl rfl rfl rfl fun w hI=>?_
  refine o_nil<|hN4 _ _<|w_ret ?_
  obtain rfl:=sJ H
  exact retc U117 rfl sz117 rfl hI (j:=0) rfl hA Tryz.results90 rfl ⟨_,rfl,rfl,⟨hz1.1,hz1.2.1,hz1.2.2⟩,hI.forget0⟩
 ·obtain ⟨hc1,H⟩:=dF H hc1
  refine w_skip<|hN2 _ _<|w_seq fun _ hN5=>w_reg<|stm hA rfl rfl fun a hA =>
   stp hA (r_asP (by decide) U231 zrA hx0 hA rfl) rfl fun a hA =>
   stm hA rfl rfl fun a hA =>
   stp hA (r_extr (vs:=[aP 231 u0,.bool x0.isP]) hA rfl rfl) rfl fun a hA =>
   stp hA (r_extr (vs:=[aP 231 u0,.bool x0.isP]) hA rfl rfl) rfl fun a hA =>
   sta hA rfl rfl fun a hA =>
   sta hA rfl rfl fun a hA=>?_
  refine o_nil<|hN5 _ _<|w_seq fun _ hN6=>w_seq fun _ hN7=>w_reg<|stm hA rfl rfl fun a hA =>
   stp hA (r_not hA rfl) rfl fun a hA=>?_
  refine o_nil<|hN7 _ _<|w_cond hA rfl (fun hc2=>?_) (fun hc2=>?_)
  ·have hc20:=hc2;have hc2:=nT hc2;have hc2:=ft hc2;have H:=bF H hc2;have hc2P:x0.isP=false:=by simpa using hc20
   refine w_seq fun _ hN8=>w_reg<|stm hA rfl rfl fun a hA=>?_
   obtain ⟨r2,hr2,H⟩:=bB H
   refine o_callp (u:=.int .i64 r2) cf132 hA rfl hI (q2_sentinel.c μ _ hI.agr x0 u0 hx0 hG r2 hr2) rfl fun a w hz2 hI hA=>?_
   obtain ⟨r3,hr3,H⟩:=bB H
   refine o_callp (u:=.agg [[.int .i64 r3.Code],[.bool r3.Placed],[.int .i64 r3.Pos],[.bool r3.Outer],[.int .i64 r3.At]].flatten.toArray) cf52 hA rfl hI (q0_Bare.c μ _ hI.agr r2 hz2 r3 hr3) rfl fun a w hz3 hI hA =>
    o_st (j:=0) [] [[.int .i64 0],[.bool false],[.int .i64 0],[.bool false],[.int .i64 0]] [[.int .i64 r3.Code],[.bool r3.Placed],[.int .i64 r3.Pos],[.bool r3.Outer],[.int .i64 r3.At]] [] sz117 rfl rfl (fl_cons (oneC rfl) (fl_cons (oneC rfl) (fl_cons (oneC rfl) (fl_cons (oneC rfl) (fl_cons (oneC rfl) fl_nil))))) hI rfl hA rfl rfl rfl rfl fun w hI=>?_
   refine o_nil<|hN8 _ _<|w_ret ?_
   obtain rfl:=sJ H
   exact retc U117 rfl sz117 rfl hI (j:=0) rfl hA Tryz.results90 rfl ⟨_,rfl,rfl,⟨hz3.1,hz3.2.1,hz3.2.2⟩,hI.forget0⟩
  ·have hc20:=hc2;have hc2:=nF hc2;have H:=bT H hc2;have hc2P:x0.isP=true:=by simpa using hc20
   refine w_skip<|hN6 _ _<|w_seq fun _ hN9=>?_
   obtain ⟨g2,v1,hv1,hat1,hw1,hE1⟩:=ErV.isP hx0 hc2P
   rw [hv1] at hA
   obtain ⟨c1,hz4,Hk1⟩:=bB H
   refine w_cut (fun a w=>Fr a 75 [(2,pt g1 0),(3,pt g2 0),(28,.bool c1)]∧Iv w0 [] μ μ [cel g1 [[.int .i64 0],[.bool false],[.int .i64 0],[.bool false],[.int .i64 0]] 117] w) ?_ ?_
   ·have H:=bI hz4
    refine w_reg<|stm hA rfl rfl fun a hA =>
     stp hA (r_ptrnil_eql U231 hA rfl rfl) rfl fun a hA =>
     stm hA rfl rfl fun a hA =>
     o_yes hA rfl rfl rfl <|
     stm hA rfl rfl fun a hA =>
     o_yes hA rfl rfl rfl <|
     stp hA (r_nilc hA rfl) rfl fun a hA =>
     o_yes hA rfl rfl rfl <|
     stp hA (r_fd (k:=0+1) U235 rfl sz37 hA rfl rfl) rfl fun a hA =>
     o_yes hA rfl rfl rfl <|
     stp hA (r_ldm1 [[.int .i64 x0.pos]] [] U37 rfl hI.agr hat1 hA rfl rfl) rfl fun a hA =>
     o_yes hA rfl rfl rfl <|
     stp hA (r_eqE erF hI.agr hE1 erv_nil (.inl ⟨.inr ⟨_,rfl⟩,Er.fitR⟩) hA rfl rfl) rfl fun a hA =>
     stp hA (r_pick_f hA rfl rfl rfl) rfl fun a hA=>?_
    refine o_nil ?_
    cases sJ H
    exact ⟨hA.sub ⟨rfl,rfl,rfl,trivial⟩,hI⟩
   ·rintro a w ⟨hA,hI⟩
    have H:=Hk1
    refine w_cond hA rfl (fun hc3=>?_) (fun hc3=>?_)
    ·have H:=bT H hc3
     refine w_seq fun _ hN10=>w_reg ?_
     obtain ⟨r4,hr4,H⟩:=bB H
     refine o_callp (u:=.agg [[.int .i64 r4.Code],[.bool r4.Placed],[.int .i64 r4.Pos],[.bool r4.Outer],[.int .i64 r4.At]].flatten.toArray) cf52 hA rfl hI (q0_Bare.c μ _ hI.agr (-1) (in_lit .i64 (-1) rfl) r4 hr4) rfl fun a w hz5 hI hA =>
      o_st (j:=0) [] [[.int .i64 0],[.bool false],[.int .i64 0],[.bool false],[.int .i64 0]] [[.int .i64 r4.Code],[.bool r4.Placed],[.int .i64 r4.Pos],[.bool r4.Outer],[.int .i64 r4.At]] [] sz117 rfl rfl (fl_cons (oneC rfl) (fl_cons (oneC rfl) (fl_cons (oneC rfl) (fl_cons (oneC rfl) (fl_cons (oneC rfl) fl_nil))))) hI rfl hA rfl rfl rfl rfl fun w hI=>?_
     refine o_nil<|hN10 _ _<|w_ret ?_
     obtain rfl:=sJ H
     exact retc U117 rfl sz117 rfl hI (j:=0) rfl hA Tryz.results90 rfl ⟨_,rfl,rfl,⟨hz5.1,hz5.2.1,hz5.2.2⟩,hI.forget0⟩
    ·have hc3:=ft hc3;have H:=bF H hc3
     refine w_skip<|hN9 _ _<|w_seq fun _ hN11=>w_reg<|stm hA rfl rfl fun a hA =>
      stp hA (r_nilc hA rfl) rfl fun a hA =>
      stp hA (r_fd (k:=0+1) U235 rfl sz37 hA rfl rfl) rfl fun a hA =>
      stp hA (r_ldm1 [[.int .i64 x0.pos]] [] U37 rfl hI.agr hat1 hA rfl rfl) rfl fun a hA =>
      stp hA (r_asP (by decide) U231 zrA hE1 hA rfl) rfl fun a hA =>
      stm hA rfl rfl fun a hA =>
      stp hA (r_extr (vs:=[aP 231 v1,.bool x0.err.isP]) hA rfl rfl) rfl fun a hA =>
      stp hA (r_extr (vs:=[aP 231 v1,.bool x0.err.isP]) hA rfl rfl) rfl fun a hA =>
      sta hA rfl rfl fun a hA =>
      sta hA rfl rfl fun a hA=>?_
     refine o_nil<|hN11 _ _<|w_seq fun _ hN12=>w_seq fun _ hN13=>w_reg<|stm hA rfl rfl fun a hA =>
      stp hA (r_not hA rfl) rfl fun a hA=>?_
     refine o_nil<|hN13 _ _<|w_cond hA rfl (fun hc4=>?_) (fun hc4=>?_)
     ·have hc40:=hc4;have hc4:=nT hc4;have hc4:=ft hc4;have H:=bF H hc4;have hc4P:x0.err.isP=false:=by simpa using hc40
      refine w_seq fun _ hN14=>?_
      refine w_anyS [] mo (fun w (h:Iv w0 [] μ μ [cel g1 [[.int .i64 0],[.bool false],[.int .i64 0],[.bool false],[.int .i64 0]] 117] w)=>(h.sl [] rfl:Iv w0 [] μ μ [] w)) hI fun w hI=>?_
      refine gE 0 hA rfl (.inr (hI.sl [] rfl)) (fun _=>r_mv hA rfl) fun a hA=>?_
      refine gE 1 hA rfl (.inr (hI.sl [] rfl)) (fun _=>r_nilc hA rfl) fun a hA=>?_
      refine gE 2 hA rfl (.inr (hI.sl [] rfl)) (fun _=>r_fd (k:=0+1) U235 rfl sz37 hA rfl rfl) fun a hA=>?_
      refine gT 3 hA rfl (hI.sl [] rfl) (fun w hI=>r_ldm1 [[.int .i64 x0.pos]] [] U37 rfl hI.agr hat1 hA rfl rfl) fun a hA=>?_
      refine gE 5 hA rfl (.inr (hI.sl [] rfl)) (fun _=>r_mv hA rfl) fun a hA=>?_
      refine gE 6 hA rfl (.inr (hI.sl [] rfl)) (fun _=>r_nilc hA rfl) fun a hA=>?_
      refine gE 7 hA rfl (.inr (hI.sl [] rfl)) (fun _=>r_fd (k:=0) U235 rfl sz3 hA rfl rfl) fun a hA=>?_
      refine gT 8 hA rfl (hI.sl [] rfl) (fun w hI=>r_ldm1 [] [[v1]] U3 rfl hI.agr hat1 hA rfl rfl) fun a hA=>?_
      refine gF 4 rfl ?_
      obtain ⟨r5,hr5,H⟩:=bB H
      refine o_callp (u:=.int .i64 r5) cf132 hA rfl hI (q2_sentinel.c μ _ hI.agr x0.err v1 hE1 hG r5 hr5) rfl fun a w hz6 hI hA=>?_
      refine o_nil<|⟨(.inr (hI.sl [] rfl)),?_⟩
      refine gF 9 rfl ?_
      obtain ⟨r6,hr6,H⟩:=bB H
      refine o_callp (u:=.agg [[.int .i64 r6.Code],[.bool r6.Placed],[.int .i64 r6.Pos],[.bool r6.Outer],[.int .i64 r6.At]].flatten.toArray) cf133 hA rfl hI (q0_Placed.c μ _ hI.agr r5 hz6 x0.pos hw1 r6 hr6) rfl fun a w hz7 hI hA=>?_
      refine o_nil<|⟨(.inr (hI.sl [] rfl)),?_⟩
      refine gF 10 rfl ?_
      refine o_st (j:=0) [] [[.int .i64 0],[.bool false],[.int .i64 0],[.bool false],[.int .i64 0]] [[.int .i64 r6.Code],[.bool r6.Placed],[.int .i64 r6.Pos],[.bool r6.Outer],[.int .i64 r6.At]] [] sz117 rfl rfl (fl_cons (oneC rfl) (fl_cons (oneC rfl) (fl_cons (oneC rfl) (fl_cons (oneC rfl) (fl_cons (oneC rfl) fl_nil))))) hI rfl hA rfl rfl rfl rfl fun w hI=>?_
      refine o_nil<|⟨(.inr (hI.sl [] rfl)),?_⟩
      refine gN<|hN14 _ _<|w_ret ?_
      obtain rfl:=sJ H
      exact retc U117 rfl sz117 rfl hI (j:=0) rfl hA Tryz.results90 rfl ⟨_,rfl,rfl,⟨hz7.1,hz7.2.1,hz7.2.2⟩,hI.forget0⟩
     ·have hc40:=hc4;have hc4:=nF hc4;have H:=bT H hc4;have hc4P:x0.err.isP=true:=by simpa using hc40
      refine w_skip<|hN12 _ _<|w_seq fun _ hN15=>?_
      obtain ⟨g3,v2,hv2,hat2,hw2,hE2⟩:=ErV.isP hE1 hc4P
      rw [hv2] at hA
      obtain ⟨c2,hz8,Hk2⟩:=bB H
      refine w_cut (fun a w=>Fr a 75 [(2,pt g1 0),(3,pt g2 0),(5,pt g3 0),(58,.bool c2)]∧Iv w0 [] μ μ [cel g1 [[.int .i64 0],[.bool false],[.int .i64 0],[.bool false],[.int .i64 0]] 117] w) ?_ ?_
      ·have H:=bI hz8
       refine w_reg<|stm hA rfl rfl fun a hA =>
        stp hA (r_ptrnil_eql U231 hA rfl rfl) rfl fun a hA =>
        stm hA rfl rfl fun a hA =>
        o_yes hA rfl rfl rfl <|
        stm hA rfl rfl fun a hA =>
        o_yes hA rfl rfl rfl <|
        stp hA (r_nilc hA rfl) rfl fun a hA =>
        o_yes hA rfl rfl rfl <|
        stp hA (r_fd (k:=0+1) U235 rfl sz37 hA rfl rfl) rfl fun a hA =>
        o_yes hA rfl rfl rfl <|
        stp hA (r_ldm1 [[.int .i64 x0.err.pos]] [] U37 rfl hI.agr hat2 hA rfl rfl) rfl fun a hA =>
        o_yes hA rfl rfl rfl <|
        stp hA (r_eqE erF hI.agr hE2 erv_nil (.inl ⟨.inr ⟨_,rfl⟩,Er.fitR⟩) hA rfl rfl) rfl fun a hA =>
        stp hA (r_pick_f hA rfl rfl rfl) rfl fun a hA=>?_
       refine o_nil ?_
       cases sJ H
       exact ⟨hA.sub ⟨rfl,rfl,rfl,rfl,trivial⟩,hI⟩
      ·rintro a w ⟨hA,hI⟩
       have H:=Hk2
       refine w_cond hA rfl (fun hc5=>?_) (fun hc5=>?_)
       ·have H:=bT H hc5
        refine w_seq fun _ hN16=>w_reg ?_
        obtain ⟨r7,hr7,H⟩:=bB H
        refine o_callp (u:=.agg [[.int .i64 r7.Code],[.bool r7.Placed],[.int .i64 r7.Pos],[.bool r7.Outer],[.int .i64 r7.At]].flatten.toArray) cf52 hA rfl hI (q0_Bare.c μ _ hI.agr (-1) (in_lit .i64 (-1) rfl) r7 hr7) rfl fun a w hz9 hI hA =>
         o_st (j:=0) [] [[.int .i64 0],[.bool false],[.int .i64 0],[.bool false],[.int .i64 0]] [[.int .i64 r7.Code],[.bool r7.Placed],[.int .i64 r7.Pos],[.bool r7.Outer],[.int .i64 r7.At]] [] sz117 rfl rfl (fl_cons (oneC rfl) (fl_cons (oneC rfl) (fl_cons (oneC rfl) (fl_cons (oneC rfl) (fl_cons (oneC rfl) fl_nil))))) hI rfl hA rfl rfl rfl rfl fun w hI=>?_
        refine o_nil<|hN16 _ _<|w_ret ?_
        obtain rfl:=sJ H
        exact retc U117 rfl sz117 rfl hI (j:=0) rfl hA Tryz.results90 rfl ⟨_,rfl,rfl,⟨hz9.1,hz9.2.1,hz9.2.2⟩,hI.forget0⟩
       ·have hc5:=ft hc5;have H:=bF H hc5
        refine w_skip<|hN15 _ _<|w_seq fun _ hN17=>?_
        refine w_anyS [] mo (fun w (h:Iv w0 [] μ μ [cel g1 [[.int .i64 0],[.bool false],[.int .i64 0],[.bool false],[.int .i64 0]] 117] w)=>(h.sl [] rfl:Iv w0 [] μ μ [] w)) hI fun w hI=>?_
        refine gE 0 hA rfl (.inr (hI.sl [] rfl)) (fun _=>r_mv hA rfl) fun a hA=>?_
        refine gE 1 hA rfl (.inr (hI.sl [] rfl)) (fun _=>r_nilc hA rfl) fun a hA=>?_
        refine gE 2 hA rfl (.inr (hI.sl [] rfl)) (fun _=>r_fd (k:=0+1) U235 rfl sz37 hA rfl rfl) fun a hA=>?_
        refine gT 3 hA rfl (hI.sl [] rfl) (fun w hI=>r_ldm1 [[.int .i64 x0.err.pos]] [] U37 rfl hI.agr hat2 hA rfl rfl) fun a hA=>?_
        refine gE 5 hA rfl (.inr (hI.sl [] rfl)) (fun _=>r_mv hA rfl) fun a hA=>?_
        refine gE 6 hA rfl (.inr (hI.sl [] rfl)) (fun _=>r_nilc hA rfl) fun a hA=>?_
        refine gE 7 hA rfl (.inr (hI.sl [] rfl)) (fun _=>r_fd (k:=0) U235 rfl sz3 hA rfl rfl) fun a hA=>?_
        refine gT 8 hA rfl (hI.sl [] rfl) (fun w hI=>r_ldm1 [] [[v2]] U3 rfl hI.agr hat2 hA rfl rfl) fun a hA=>?_
        refine gE 10 hA rfl (.inr (hI.sl [] rfl)) (fun _=>r_mv hA rfl) fun a hA=>?_
        refine gE 11 hA rfl (.inr (hI.sl [] rfl)) (fun _=>r_nilc hA rfl) fun a hA=>?_
        refine gE 12 hA rfl (.inr (hI.sl [] rfl)) (fun _=>r_fd (k:=0) U235 rfl sz3 hA rfl rfl) fun a hA=>?_
        refine gT 13 hA rfl (hI.sl [] rfl) (fun w hI=>r_ldm1 [] [[v1]] U3 rfl hI.agr hat1 hA rfl rfl) fun a hA=>?_
        refine gF 4 rfl ?_
        obtain ⟨r8,hr8,H⟩:=bB H
        refine o_callp (u:=.int .i64 r8) cf132 hA rfl hI (q2_sentinel.c μ _ hI.agr x0.err.err v2 hE2 hG r8 hr8) rfl fun a w hz10 hI hA=>?_
        refine o_nil<|⟨(.inr (hI.sl [] rfl)),?_⟩
        refine gF 9 rfl ?_
        obtain ⟨r9,hr9,H⟩:=bB H
        refine o_callp (u:=.agg [[.int .i64 r9.Code],[.bool r9.Placed],[.int .i64 r9.Pos],[.bool r9.Outer],[.int .i64 r9.At]].flatten.toArray) cf133 hA rfl hI (q0_Placed.c μ _ hI.agr r8 hz10 x0.err.pos hw2 r9 hr9) rfl fun a w hz11 hI hA=>?_
        refine o_nil<|⟨(.inr (hI.sl [] rfl)),?_⟩
        refine gF 14 rfl ?_
        obtain ⟨r10,hr10,H⟩:=bB H
        refine o_callp (u:=.agg [[.int .i64 r10.Code],[.bool r10.Placed],[.int .i64 r10.Pos],[.bool r10.Outer],[.int .i64 r10.At]].flatten.toArray) cf134 hA rfl hI (q0_Around.c μ _ hI.agr r9 ⟨hz11.1,hz11.2.1,hz11.2.2⟩ x0.pos hw1 r10 hr10) rfl fun a w hz12 hI hA=>?_
        refine o_nil<|⟨(.inr (hI.sl [] rfl)),?_⟩
        refine gF 15 rfl ?_
        refine o_st (j:=0) [] [[.int .i64 0],[.bool false],[.int .i64 0],[.bool false],[.int .i64 0]] [[.int .i64 r10.Code],[.bool r10.Placed],[.int .i64 r10.Pos],[.bool r10.Outer],[.int .i64 r10.At]] [] sz117 rfl rfl (fl_cons (oneC rfl) (fl_cons (oneC rfl) (fl_cons (oneC rfl) (fl_cons (oneC rfl) (fl_cons (oneC rfl) fl_nil))))) hI rfl hA rfl rfl rfl rfl fun w hI=>?_
        refine o_nil<|⟨(.inr (hI.sl [] rfl)),?_⟩
        refine gN<|hN17 _ _<|w_ret ?_
        obtain rfl:=sJ H
        exact retc U117 rfl sz117 rfl hI (j:=0) rfl hA Tryz.results90 rfl ⟨_,rfl,rfl,⟨hz12.1,hz12.2.1,hz12.2.2⟩,hI.forget0⟩
theorem q2_Same.c (μ:Store)(w0:World)(hμ:Agr μ w0)(x0:Er)(u0:Value)(hx0:ErS μ u0 x0)(x1:q0Ft)(hx1:q0FtW μ x1)(hG:Gl μ)(r:Bool)(H:q2_Same.f x0 x1=some r) :
  Calls Tryz.prog 51 [u0,.agg [[.int .i64 x1.Code],[.bool x1.Placed],[.int .i64 x1.Pos],[.bool x1.Outer],[.int .i64 x1.At]].flatten.toArray].toArray w0 (fun e w'=>∃ v,e=.returned v∧v=.bool r∧True∧Iv w0 [] μ μ [] w'):=by
 refine enter Tryz.func51 rfl Tryz.ntmps51 rfl fun a hA=>?_
 have hI:=Iv.start hμ
 have H:=bI H
 refine w_seq fun _ hN1=>w_reg<|o_box [[.int .i64 x1.Code],[.bool x1.Placed],[.int .i64 x1.Pos],[.bool x1.Outer],[.int .i64 x1.At]] hI hA rfl rfl rfl fun g1 a w hA hI hg1 =>
  sta hA rfl rfl fun a hA=>?_
 refine o_nil<|hN1 _ _<|w_seq fun _ hN2=>?_
 refine w_any [] mo hI fun w hI=>?_
 refine gE 0 hA rfl (.inr hI) (fun _=>r_mv hA rfl) fun a hA=>?_
 refine gT 2 hA rfl hI (fun w hI=>r_ldA (j:=0) [] [[.int .i64 x1.Code],[.bool x1.Placed],[.int .i64 x1.Pos],[.bool x1.Outer],[.int .i64 x1.At]] [] U117 rfl sz117 rfl hI rfl hA rfl rfl) fun a hA=>?_
 refine gF 1 rfl ?_
 obtain ⟨r1,hr1,H⟩:=bB H
 refine o_callp (u:=.agg [[.int .i64 r1.Code],[.bool r1.Placed],[.int .i64 r1.Pos],[.bool r1.Outer],[.int .i64 r1.At]].flatten.toArray) cf90 hA rfl hI (q2_Fault.c μ _ hI.agr x0 u0 hx0 hG r1 hr1) rfl fun a w hz1 hI hA=>?_
 refine o_nil<|⟨(.inr hI),?_⟩
 refine gF 3 rfl ?_
 obtain ⟨r2,hr2,H⟩:=bB H
 refine o_callp (u:=.bool r2) cf89 hA rfl hI (q0_SameFault.c μ _ hI.agr r1 ⟨hz1.1,hz1.2.1,hz1.2.2⟩ x1 ⟨hx1.1,hx1.2.1,hx1.2.2⟩ r2 hr2) rfl fun a w hz2 hI hA=>?_
 refine o_nil<|⟨(.inr hI),?_⟩
 refine gE 4 hA rfl (.inr hI) (fun _=>r_as hA rfl) fun a hA=>?_
 refine gN<|hN2 _ _<|w_ret ?_
 obtain rfl:=sJ H
 exact ret1 hA Tryz.results51 rfl ⟨_,rfl,rfl,trivial,hI.forget0⟩
theorem q2_Is.c (μ:Store)(w0:World)(hμ:Agr μ w0)(x0:Er)(u0:Value)(hx0:ErS μ u0 x0)(x1:Int)(hx1:InR .i64 x1)(hG:Gl μ)(r:Bool)(H:q2_Is.f x0 x1=some r) :
  Calls Tryz.prog 9 [u0,.int .i64 x1].toArray w0 (fun e w'=>∃ v,e=.returned v∧v=.bool r∧True∧Iv w0 [] μ μ [] w'):=by
 refine enter Tryz.func9 rfl Tryz.ntmps9 rfl fun a hA=>?_
 have hI:=Iv.start hμ
 have H:=bI H
 refine w_seq fun _ hN1=>w_reg<|sta hA rfl rfl fun a hA=>?_
 refine o_nil<|hN1 _ _<|w_seq fun _ hN2=>w_reg<|stm hA rfl rfl fun a hA =>
  stm hA rfl rfl fun a hA=>?_
 obtain ⟨r1,hr1,H⟩:=bB H
 refine o_callp (u:=.agg [[.int .i64 r1.Code],[.bool r1.Placed],[.int .i64 r1.Pos],[.bool r1.Outer],[.int .i64 r1.At]].flatten.toArray) cf52 hA rfl hI (q0_Bare.c μ _ hI.agr x1 hx1 r1 hr1) rfl fun a w hz1 hI hA=>?_
 obtain ⟨r2,hr2,H⟩:=bB H
 refine o_callp (u:=.bool r2) cf51 hA rfl hI (q2_Same.c μ _ hI.agr x0 u0 hx0 r1 ⟨hz1.1,hz1.2.1,hz1.2.2⟩ hG r2 hr2) rfl fun a w hz2 hI hA =>
  sta hA rfl rfl fun a hA=>?_
 refine o_nil<|hN2 _ _<|w_ret ?_
 obtain rfl:=sJ H
 exact ret1 hA Tryz.results9 rfl ⟨_,rfl,rfl,trivial,hI.forget0⟩
theorem q0_SameHash.c (μ:Store)(w0:World)(hμ:Agr μ w0)(x0:List Int)(hx0:Arr .u8 32 x0)(x1:List Int)(hx1:Arr .u8 32 x1)(r:Bool)(H:q0_SameHash.f x0 x1=some r) :
  Calls Tryz.prog 21 [.agg [av .u8 32 x0].flatten.toArray,.agg [av .u8 32 x1].flatten.toArray].toArray w0 (fun e w'=>∃ v,e=.returned v∧v=.bool r∧True∧Iv w0 [] μ μ [] w'):=by
 refine enter Tryz.func21 rfl Tryz.ntmps21 rfl fun a hA=>?_
 have hI:=Iv.start hμ
 have H:=bI H
 refine w_seq fun _ hN1=>w_reg<|o_box [av .u8 32 x0] hI hA rfl rfl rfl fun g1 a w hA hI hg1 =>
  o_box [av .u8 32 x1] hI hA rfl rfl rfl fun g2 a w hA hI hg2 =>
  sta hA rfl rfl fun a hA=>?_
 refine o_nil<|hN1 _ _<|w_seq fun _ hN2=>w_seq fun _ hN3=>w_reg<|sta hA rfl rfl fun a hA=>?_
 refine o_nil<|hN3 _ _<|w_block ?_
 obtain ⟨z1,hz1,Hk1⟩:=bind_some H
 obtain ⟨n1,hn1⟩:=loopO_some hz1
 refine w_loop (fun n a w=>∃(s1:Int),loopN (q0_SameHash.s0 x0 x1) n s1=some z1∧InR .i64 s1∧Fr a 17 [(2,pt g1 0),(3,pt g2 0),(4,.bool false),(5,.int .i64 s1)]∧Iv w0 [] μ μ [cel g2 [av .u8 32 x1] 25,cel g1 [av .u8 32 x0] 25] w) n1 ⟨0,hn1,(in_lit .i64 0 rfl),hA.sub ⟨rfl,rfl,rfl,rfl,trivial⟩,hI⟩ ?_
 clear hA hI
 rintro n a w ⟨s1,hn1,ws1,hA,hI⟩
 obtain ⟨m1,rfl,H⟩:=loopN_bind hn1
 clear hn1
 refine w_seq fun _ hN4=>w_seq fun _ hN5=>w_reg<|stm hA rfl rfl fun a hA =>
  stp hA (r_lss hA rfl rfl) rfl fun a hA=>?_
 refine o_nil<|hN5 _ _<|w_cond hA rfl (fun hc1=>?_) (fun hc1=>?_)
 ·obtain ⟨hc1,H⟩:=dT H hc1
  refine w_skip<|hN4 _ _<|w_seq fun _ hN6=>w_block<|w_seq fun _ hN7=>?_
  refine w_draw mo (by kernel_rfl) hI ?_
  refine qtp hA (fun _ hI=>r_mv hA rfl) rfl fun a hA=>?_
  obtain ⟨hb1,H⟩:=bG H
  refine qtp hA (fun _ hI=>r_ixar1 U25 sz5 hA rfl rfl hb1.1 hb1.2) rfl fun a hA =>
   qtp hA (fun _ hI=>r_ldE (j:=1) [] [] U5 rfl hI rfl hA rfl rfl (by omega)) rfl fun a hA =>
   qtp hA (fun _ hI=>r_mv hA rfl) rfl fun a hA =>
   qtp hA (fun _ hI=>r_ixar1 U25 sz5 hA rfl rfl hb1.1 hb1.2) rfl fun a hA =>
   qtp hA (fun _ hI=>r_ldE (j:=0) [] [] U5 rfl hI rfl hA rfl rfl (by omega)) rfl fun a hA =>
   qtp hA (fun _ hI=>r_neq hA rfl rfl) rfl fun a hA=>?_
  refine q_nil fun w hI=>?_
  refine hN7 _ _<|w_cond hA rfl (fun hc2=>?_) (fun hc2=>?_)
  ·obtain ⟨hc2,H⟩:=dT H hc2
   refine w_seq fun _ hN8=>w_reg<|sta hA rfl rfl fun a hA=>?_
   refine o_nil<|hN8 _ _<|w_ret ?_
   have H:some false=some z1:=H
   obtain rfl:=sI H
   have H:=Hk1
   obtain rfl:=sJ H
   exact ret1 hA Tryz.results21 rfl ⟨_,rfl,rfl,trivial,hI.forget0⟩
  ·obtain ⟨hc2,H⟩:=dF H hc2
   refine w_skip<|hN6 _ _<|w_reg<|stm hA rfl rfl fun a hA =>
    stp hA (r_add hA rfl rfl) rfl fun a hA =>
    sta hA rfl rfl fun a hA=>?_
   refine o_nil<|⟨m1,lS _,IntKind.i64.wrap (s1+1),H,(wrap_in _ _),hA.sub ⟨rfl,rfl,rfl,rfl,trivial⟩,hI⟩
 ·obtain ⟨hc1,H⟩:=dF H hc1
  refine w_exit rfl<|hN2 _ _<|w_seq fun _ hN9=>w_reg<|sta hA rfl rfl fun a hA=>?_
  refine o_nil<|hN9 _ _<|w_ret ?_
  have H:some true=some z1:=H
  obtain rfl:=sI H
  have H:=Hk1
  obtain rfl:=sJ H
  exact ret1 hA Tryz.results21 rfl ⟨_,rfl,rfl,trivial,hI.forget0⟩
theorem q0_SameHead.c (μ:Store)(w0:World)(hμ:Agr μ w0)(x0:Head)(hx0:HeadW μ x0)(x1:Head)(hx1:HeadW μ x1)(r:Bool)(H:q0_SameHead.f x0 x1=some r) :
  Calls Tryz.prog 18 [.agg [[.int .u32 x0.Version],av .u8 32 x0.Prev,av .u8 32 x0.Root,[.int .u32 x0.Time],[.int .u32 x0.Work],[.int .u32 x0.Nonce]].flatten.toArray,.agg [[.int .u32 x1.Version],av .u8 32 x1.Prev,av .u8 32 x1.Root,[.int .u32 x1.Time],[.int .u32 x1.Work],[.int .u32 x1.Nonce]].flatten.toArray].toArray w0 (fun e w'=>∃ v,e=.returned v∧v=.bool r∧True∧Iv w0 [] μ μ [] w'):=by
 refine enter Tryz.func18 rfl Tryz.ntmps18 rfl fun a hA=>?_
 have hI:=Iv.start hμ
 have H:=bI H
 refine w_seq fun _ hN1=>w_reg<|o_box [[.int .u32 x0.Version],av .u8 32 x0.Prev,av .u8 32 x0.Root,[.int .u32 x0.Time],[.int .u32 x0.Work],[.int .u32 x0.Nonce]] hI hA rfl rfl rfl fun g1 a w hA hI hg1 =>
  o_box [[.int .u32 x1.Version],av .u8 32 x1.Prev,av .u8 32 x1.Root,[.int .u32 x1.Time],[.int .u32 x1.Work],[.int .u32 x1.Nonce]] hI hA rfl rfl rfl fun g2 a w hA hI hg2 =>
  sta hA rfl rfl fun a hA=>?_
 refine o_nil<|hN1 _ _ ?_
 obtain ⟨c1,hz1,Hk1⟩:=bB H
 refine w_cut (fun a w=>Fr a 45 [(4,.bool c1)]∧Iv w0 [] μ μ [cel g2 [[.int .u32 x1.Version],av .u8 32 x1.Prev,av .u8 32 x1.Root,[.int .u32 x1.Time],[.int .u32 x1.Work],[.int .u32 x1.Nonce]] 27,cel g1 [[.int .u32 x0.Version],av .u8 32 x0.Prev,av .u8 32 x0.Root,[.int .u32 x0.Time],[.int .u32 x0.Work],[.int .u32 x0.Nonce]] 27] w) ?_ ?_
 ·have H:=bI hz1
  refine w_reg<|stp hA (r_fd (k:=0) U27 rfl sz23 hA rfl rfl) rfl fun a hA =>
   stp hA (r_ld1 (j:=1) [] [av .u8 32 x0.Prev,av .u8 32 x0.Root,[.int .u32 x0.Time],[.int .u32 x0.Work],[.int .u32 x0.Nonce]] U23 rfl hI rfl hA rfl rfl) rfl fun a hA =>
   stp hA (r_fd (k:=0) U27 rfl sz23 hA rfl rfl) rfl fun a hA =>
   stp hA (r_ld1 (j:=0) [] [av .u8 32 x1.Prev,av .u8 32 x1.Root,[.int .u32 x1.Time],[.int .u32 x1.Work],[.int .u32 x1.Nonce]] U23 rfl hI rfl hA rfl rfl) rfl fun a hA =>
   stp hA (r_eql hA rfl rfl) rfl fun a hA =>
   stm hA rfl rfl fun a hA=>?_
  rcases Bool.eq_false_or_eq_true (decide (x0.Version=x1.Version)) with hc1 | hc1
  ·have hc10:=hc1;obtain ⟨hc1,H⟩:=dT H hc1
   refine o_yes hA rfl rfl hc10 <|
    stp hA (r_fd (k:=1) U27 rfl sz25 hA rfl rfl) rfl fun a hA =>
    o_yes hA rfl rfl hc10 <|
    stp hA (r_ldA (j:=1) [[.int .u32 x0.Version]] [av .u8 32 x0.Prev] [av .u8 32 x0.Root,[.int .u32 x0.Time],[.int .u32 x0.Work],[.int .u32 x0.Nonce]] U25 rfl sz25 rfl hI rfl hA rfl rfl) rfl fun a hA =>
    o_yes hA rfl rfl hc10 <|
    stp hA (r_fd (k:=1) U27 rfl sz25 hA rfl rfl) rfl fun a hA =>
    o_yes hA rfl rfl hc10 <|
    stp hA (r_ldA (j:=0) [[.int .u32 x1.Version]] [av .u8 32 x1.Prev] [av .u8 32 x1.Root,[.int .u32 x1.Time],[.int .u32 x1.Work],[.int .u32 x1.Nonce]] U25 rfl sz25 rfl hI rfl hA rfl rfl) rfl fun a hA =>
    o_yes hA rfl rfl hc10<|?_
   obtain ⟨r1,hr1,H⟩:=bB H
   refine o_callp (u:=.bool r1) cf21 hA rfl hI (q0_SameHash.c μ _ hI.agr x0.Prev hx0.2.1 x1.Prev hx1.2.1 r1 hr1) rfl fun a w hz2 hI hA =>
    stp hA (r_pick_t hA rfl hc10 rfl) rfl fun a hA =>
    stm hA rfl rfl fun a hA=>?_
   rcases Bool.eq_false_or_eq_true r1 with hc2 | hc2
   ·have hc20:=hc2;have H:=bT H hc2
    refine o_yes hA rfl rfl hc20 <|
     stp hA (r_fd (k:=33) U27 rfl sz25 hA rfl rfl) rfl fun a hA =>
     o_yes hA rfl rfl hc20 <|
     stp hA (r_ldA (j:=1) [[.int .u32 x0.Version],av .u8 32 x0.Prev] [av .u8 32 x0.Root] [[.int .u32 x0.Time],[.int .u32 x0.Work],[.int .u32 x0.Nonce]] U25 rfl sz25 rfl hI rfl hA rfl rfl) rfl fun a hA =>
     o_yes hA rfl rfl hc20 <|
     stp hA (r_fd (k:=33) U27 rfl sz25 hA rfl rfl) rfl fun a hA =>
     o_yes hA rfl rfl hc20 <|
     stp hA (r_ldA (j:=0) [[.int .u32 x1.Version],av .u8 32 x1.Prev] [av .u8 32 x1.Root] [[.int .u32 x1.Time],[.int .u32 x1.Work],[.int .u32 x1.Nonce]] U25 rfl sz25 rfl hI rfl hA rfl rfl) rfl fun a hA =>
     o_yes hA rfl rfl hc20<|?_
    obtain ⟨r2,hr2,H⟩:=bB H
    refine o_callp (u:=.bool r2) cf21 hA rfl hI (q0_SameHash.c μ _ hI.agr x0.Root hx0.2.2.1 x1.Root hx1.2.2.1 r2 hr2) rfl fun a w hz3 hI hA =>
     stp hA (r_pick_t hA rfl hc20 rfl) rfl fun a hA =>
     stm hA rfl rfl fun a hA=>?_
    rcases Bool.eq_false_or_eq_true r2 with hc3 | hc3
    ·have hc30:=hc3;have H:=bT H hc3
     refine o_yes hA rfl rfl hc30 <|
      stp hA (r_fd (k:=65) U27 rfl sz23 hA rfl rfl) rfl fun a hA =>
      o_yes hA rfl rfl hc30 <|
      stp hA (r_ld1 (j:=1) [[.int .u32 x0.Version],av .u8 32 x0.Prev,av .u8 32 x0.Root] [[.int .u32 x0.Work],[.int .u32 x0.Nonce]] U23 rfl hI rfl hA rfl rfl) rfl fun a hA =>
      o_yes hA rfl rfl hc30 <|
      stp hA (r_fd (k:=65) U27 rfl sz23 hA rfl rfl) rfl fun a hA =>
      o_yes hA rfl rfl hc30 <|
      stp hA (r_ld1 (j:=0) [[.int .u32 x1.Version],av .u8 32 x1.Prev,av .u8 32 x1.Root] [[.int .u32 x1.Work],[.int .u32 x1.Nonce]] U23 rfl hI rfl hA rfl rfl) rfl fun a hA =>
      o_yes hA rfl rfl hc30 <|
      stp hA (r_eql hA rfl rfl) rfl fun a hA =>
      stp hA (r_pick_t hA rfl hc30 rfl) rfl fun a hA =>
      stm hA rfl rfl fun a hA=>?_
     rcases Bool.eq_false_or_eq_true (decide (x0.Time=x1.Time)) with hc4 | hc4
     ·have hc40:=hc4;obtain ⟨hc4,H⟩:=dT H hc4
      refine o_yes hA rfl rfl hc40 <|
       stp hA (r_fd (k:=66) U27 rfl sz23 hA rfl rfl) rfl fun a hA =>
       o_yes hA rfl rfl hc40 <|
       stp hA (r_ld1 (j:=1) [[.int .u32 x0.Version],av .u8 32 x0.Prev,av .u8 32 x0.Root,[.int .u32 x0.Time]] [[.int .u32 x0.Nonce]] U23 rfl hI rfl hA rfl rfl) rfl fun a hA =>
       o_yes hA rfl rfl hc40 <|
       stp hA (r_fd (k:=66) U27 rfl sz23 hA rfl rfl) rfl fun a hA =>
       o_yes hA rfl rfl hc40 <|
       stp hA (r_ld1 (j:=0) [[.int .u32 x1.Version],av .u8 32 x1.Prev,av .u8 32 x1.Root,[.int .u32 x1.Time]] [[.int .u32 x1.Nonce]] U23 rfl hI rfl hA rfl rfl) rfl fun a hA =>
       o_yes hA rfl rfl hc40 <|
       stp hA (r_eql hA rfl rfl) rfl fun a hA =>
       stp hA (r_pick_t hA rfl hc40 rfl) rfl fun a hA =>
       stm hA rfl rfl fun a hA=>?_
      rcases Bool.eq_false_or_eq_true (decide (x0.Work=x1.Work)) with hc5 | hc5
      ·have hc50:=hc5;obtain ⟨hc5,H⟩:=dT H hc5
       refine o_yes hA rfl rfl hc50 <|
        stp hA (r_fd (k:=67) U27 rfl sz23 hA rfl rfl) rfl fun a hA =>
        o_yes hA rfl rfl hc50 <|
        stp hA (r_ld1 (j:=1) [[.int .u32 x0.Version],av .u8 32 x0.Prev,av .u8 32 x0.Root,[.int .u32 x0.Time],[.int .u32 x0.Work]] [] U23 rfl hI rfl hA rfl rfl) rfl fun a hA =>
        o_yes hA rfl rfl hc50 <|
        stp hA (r_fd (k:=67) U27 rfl sz23 hA rfl rfl) rfl fun a hA =>
        o_yes hA rfl rfl hc50 <|
        stp hA (r_ld1 (j:=0) [[.int .u32 x1.Version],av .u8 32 x1.Prev,av .u8 32 x1.Root,[.int .u32 x1.Time],[.int .u32 x1.Work]] [] U23 rfl hI rfl hA rfl rfl) rfl fun a hA =>
        o_yes hA rfl rfl hc50 <|
        stp hA (r_eql hA rfl rfl) rfl fun a hA =>
        stp hA (r_pick_t hA rfl hc50 rfl) rfl fun a hA =>
        sta hA rfl rfl fun a hA=>?_
       refine o_nil ?_
       cases sJ H
       exact ⟨hA.sub ⟨rfl,trivial⟩,hI⟩
      ·have hc50:=hc5;obtain ⟨hc5,H⟩:=dF H hc5
       refine o_no hA rfl rfl (by rw [hc50];simp [vb]) rfl fun a hA =>
        o_no hA rfl rfl (by rw [hc50];simp [vb]) rfl fun a hA =>
        o_no hA rfl rfl (by rw [hc50];simp [vb]) rfl fun a hA =>
        o_no hA rfl rfl (by rw [hc50];simp [vb]) rfl fun a hA =>
        o_no hA rfl rfl (by rw [hc50];simp [vb]) rfl fun a hA =>
        stp hA (r_pick_f hA rfl hc50 rfl) rfl fun a hA =>
        sta hA rfl rfl fun a hA=>?_
       refine o_nil ?_
       cases sJ H
       exact ⟨hA.sub ⟨rfl,trivial⟩,hI⟩
     ·have hc40:=hc4;obtain ⟨hc4,H⟩:=dF H hc4
      refine o_no hA rfl rfl (by rw [hc40];simp [vb]) rfl fun a hA =>
       o_no hA rfl rfl (by rw [hc40];simp [vb]) rfl fun a hA =>
       o_no hA rfl rfl (by rw [hc40];simp [vb]) rfl fun a hA =>
       o_no hA rfl rfl (by rw [hc40];simp [vb]) rfl fun a hA =>
       o_no hA rfl rfl (by rw [hc40];simp [vb]) rfl fun a hA =>
       stp hA (r_pick_f hA rfl hc40 rfl) rfl fun a hA =>
       stm hA rfl rfl fun a hA =>
       o_no hA rfl rfl (by simp [vb]) rfl fun a hA =>
       o_no hA rfl rfl (by simp [vb]) rfl fun a hA =>
       o_no hA rfl rfl (by simp [vb]) rfl fun a hA =>
       o_no hA rfl rfl (by simp [vb]) rfl fun a hA =>
       o_no hA rfl rfl (by simp [vb]) rfl fun a hA =>
       stp hA (r_pick_f hA rfl rfl rfl) rfl fun a hA =>
       sta hA rfl rfl fun a hA=>?_
      refine o_nil ?_
      cases sJ H
      exact ⟨hA.sub ⟨rfl,trivial⟩,hI⟩
    ·have hc30:=hc3;have hc3:=ft hc3;have H:=bF H hc3
     refine o_no hA rfl rfl (by rw [hc30];simp [vb]) rfl fun a hA =>
      o_no hA rfl rfl (by rw [hc30];simp [vb]) rfl fun a hA =>
      o_no hA rfl rfl (by rw [hc30];simp [vb]) rfl fun a hA =>
      o_no hA rfl rfl (by rw [hc30];simp [vb]) rfl fun a hA =>
      o_no hA rfl rfl (by rw [hc30];simp [vb]) rfl fun a hA =>
      stp hA (r_pick_f hA rfl hc30 rfl) rfl fun a hA =>
      stm hA rfl rfl fun a hA =>
      o_no hA rfl rfl (by simp [vb]) rfl fun a hA =>
      o_no hA rfl rfl (by simp [vb]) rfl fun a hA =>
      o_no hA rfl rfl (by simp [vb]) rfl fun a hA =>
      o_no hA rfl rfl (by simp [vb]) rfl fun a hA =>
      o_no hA rfl rfl (by simp [vb]) rfl fun a hA =>
      stp hA (r_pick_f hA rfl rfl rfl) rfl fun a hA =>
      stm hA rfl rfl fun a hA =>
      o_no hA rfl rfl (by simp [vb]) rfl fun a hA =>
      o_no hA rfl rfl (by simp [vb]) rfl fun a hA =>
      o_no hA rfl rfl (by simp [vb]) rfl fun a hA =>
      o_no hA rfl rfl (by simp [vb]) rfl fun a hA =>
      o_no hA rfl rfl (by simp [vb]) rfl fun a hA =>
      stp hA (r_pick_f hA rfl rfl rfl) rfl fun a hA =>
      sta hA rfl rfl fun a hA=>?_
     refine o_nil ?_
     cases sJ H
     exact ⟨hA.sub ⟨rfl,trivial⟩,hI⟩
   ·have hc20:=hc2;have hc2:=ft hc2;have H:=bF H hc2
    refine o_no hA rfl rfl (by rw [hc20];simp [vb]) rfl fun a hA =>
     o_no hA rfl rfl (by rw [hc20];simp [vb]) rfl fun a hA =>
     o_no hA rfl rfl (by rw [hc20];simp [vb]) rfl fun a hA =>
     o_no hA rfl rfl (by rw [hc20];simp [vb]) rfl fun a hA =>
     o_no hA rfl rfl (by rw [hc20];simp [vb]) rfl fun a hA =>
     stp hA (r_pick_f hA rfl hc20 rfl) rfl fun a hA =>
     stm hA rfl rfl fun a hA =>
     o_no hA rfl rfl (by simp [vb]) rfl fun a hA =>
     o_no hA rfl rfl (by simp [vb]) rfl fun a hA =>
     o_no hA rfl rfl (by simp [vb]) rfl fun a hA =>
     o_no hA rfl rfl (by simp [vb]) rfl fun a hA =>
     o_no hA rfl rfl (by simp [vb]) rfl fun a hA =>
     stp hA (r_pick_f hA rfl rfl rfl) rfl fun a hA =>
     stm hA rfl rfl fun a hA =>
     o_no hA rfl rfl (by simp [vb]) rfl fun a hA =>
     o_no hA rfl rfl (by simp [vb]) rfl fun a hA =>
     o_no hA rfl rfl (by simp [vb]) rfl fun a hA =>
     o_no hA rfl rfl (by simp [vb]) rfl fun a hA =>
     o_no hA rfl rfl (by simp [vb]) rfl fun a hA =>
     stp hA (r_pick_f hA rfl rfl rfl) rfl fun a hA =>
     stm hA rfl rfl fun a hA =>
     o_no hA rfl rfl (by simp [vb]) rfl fun a hA =>
     o_no hA rfl rfl (by simp [vb]) rfl fun a hA =>
     o_no hA rfl rfl (by simp [vb]) rfl fun a hA =>
     o_no hA rfl rfl (by simp [vb]) rfl fun a hA =>
     o_no hA rfl rfl (by simp [vb]) rfl fun a hA =>
     stp hA (r_pick_f hA rfl rfl rfl) rfl fun a hA =>
     sta hA rfl rfl fun a hA=>?_
    refine o_nil ?_
    cases sJ H
    exact ⟨hA.sub ⟨rfl,trivial⟩,hI⟩
  ·have hc10:=hc1;obtain ⟨hc1,H⟩:=dF H hc1
   refine o_no hA rfl rfl (by rw [hc10];simp [vb]) rfl fun a hA =>
    o_no hA rfl rfl (by rw [hc10];simp [vb]) rfl fun a hA =>
    o_no hA rfl rfl (by rw [hc10];simp [vb]) rfl fun a hA =>
    o_no hA rfl rfl (by rw [hc10];simp [vb]) rfl fun a hA =>
    o_no hA rfl rfl (by rw [hc10];simp [vb]) rfl fun a hA =>
    stp hA (r_pick_f hA rfl hc10 rfl) rfl fun a hA =>
    stm hA rfl rfl fun a hA =>
    o_no hA rfl rfl (by simp [vb]) rfl fun a hA =>
    o_no hA rfl rfl (by simp [vb]) rfl fun a hA =>
    o_no hA rfl rfl (by simp [vb]) rfl fun a hA =>
    o_no hA rfl rfl (by simp [vb]) rfl fun a hA =>
    o_no hA rfl rfl (by simp [vb]) rfl fun a hA =>
    stp hA (r_pick_f hA rfl rfl rfl) rfl fun a hA =>
    stm hA rfl rfl fun a hA =>
    o_no hA rfl rfl (by simp [vb]) rfl fun a hA =>
    o_no hA rfl rfl (by simp [vb]) rfl fun a hA =>
    o_no hA rfl rfl (by simp [vb]) rfl fun a hA =>
    o_no hA rfl rfl (by simp [vb]) rfl fun a hA =>
    o_no hA rfl rfl (by simp [vb]) rfl fun a hA =>
    stp hA (r_pick_f hA rfl rfl rfl) rfl fun a hA =>
    stm hA rfl rfl fun a hA =>
    o_no hA rfl rfl (by simp [vb]) rfl fun a hA =>
    o_no hA rfl rfl (by simp [vb]) rfl fun a hA =>
    o_no hA rfl rfl (by simp [vb]) rfl fun a hA =>
    o_no hA rfl rfl (by simp [vb]) rfl fun a hA =>
    o_no hA rfl rfl (by simp [vb]) rfl fun a hA =>
    stp hA (r_pick_f hA rfl rfl rfl) rfl fun a hA =>
    stm hA rfl rfl fun a hA =>
    o_no hA rfl rfl (by simp [vb]) rfl fun a hA =>
    o_no hA rfl rfl (by simp [vb]) rfl fun a hA =>
    o_no hA rfl rfl (by simp [vb]) rfl fun a hA =>
    o_no hA rfl rfl (by simp [vb]) rfl fun a hA =>
    o_no hA rfl rfl (by simp [vb]) rfl fun a hA =>
    stp hA (r_pick_f hA rfl rfl rfl) rfl fun a hA =>
    sta hA rfl rfl fun a hA=>?_
   refine o_nil ?_
   cases sJ H
   exact ⟨hA.sub ⟨rfl,trivial⟩,hI⟩
 ·rintro a w ⟨hA,hI⟩
  have H:=Hk1
  refine w_ret ?_
  obtain rfl:=sJ H
  exact ret1 hA Tryz.results18 rfl ⟨_,rfl,rfl,trivial,hI.forget0⟩
theorem q0_SameHashes.c (μ:Store)(w0:World)(hμ:Agr μ w0)(x0:List (List Int))(u0:Value)(hx0:Slc (RA .u8 32) 32 μ u0 x0)(x1:List (List Int))(u1:Value)(hx1:Slc (RA .u8 32) 32 μ u1 x1)(r:Bool)(H:q0_SameHashes.f x0 x1=some r) :
  Calls Tryz.prog 22 [u0,u1].toArray w0 (fun e w'=>∃ v,e=.returned v∧v=.bool r∧True∧Iv w0 [] μ μ [] w'):=by
 refine enter Tryz.func22 rfl Tryz.ntmps22 rfl fun a hA=>?_
 have hI:=Iv.start hμ
 have H:=bI H
 refine w_seq fun _ hN1=>w_reg<|sta hA rfl rfl fun a hA=>?_
 refine o_nil<|hN1 _ _<|w_seq fun _ hN2=>w_seq fun _ hN3=>w_reg<|stm hA rfl rfl fun a hA=>?_
 obtain ⟨_,hsl1⟩:=Slc.sv hx0
 refine stp hA (r_slen U42 hsl1 hA rfl) rfl fun a hA =>
  stm hA rfl rfl fun a hA=>?_
 obtain ⟨_,hsl2⟩:=Slc.sv hx1
 refine stp hA (r_slen U42 hsl2 hA rfl) rfl fun a hA =>
  stp hA (r_neq hA rfl rfl) rfl fun a hA=>?_
 refine o_nil<|hN3 _ _<|w_cond hA rfl (fun hc1=>?_) (fun hc1=>?_)
 ·obtain ⟨hc1,H⟩:=dT H hc1
  refine w_seq fun _ hN4=>w_reg<|sta hA rfl rfl fun a hA=>?_
  refine o_nil<|hN4 _ _<|w_ret ?_
  obtain rfl:=sJ H
  exact ret1 hA Tryz.results22 rfl ⟨_,rfl,rfl,trivial,hI.forget0⟩
 ·obtain ⟨hc1,H⟩:=dF H hc1
  refine w_skip<|hN2 _ _<|w_seq fun _ hN5=>w_seq fun _ hN6=>w_reg<|sta hA rfl rfl fun a hA=>?_
  refine o_nil<|hN6 _ _<|w_block ?_
  obtain ⟨z1,hz1,Hk1⟩:=bind_some H
  obtain ⟨n1,hn1⟩:=loopO_some hz1
  refine w_loop (fun n a w=>∃(s1:Int),loopN (q0_SameHashes.s0 x0 x1) n s1=some z1∧InR .i64 s1∧Fr a 29 [(0,u0),(1,u1),(4,.bool false),(5,.int .i64 s1)]∧Iv w0 [] μ μ [] w) n1 ⟨0,hn1,(in_lit .i64 0 rfl),hA.sub ⟨rfl,rfl,rfl,rfl,trivial⟩,hI⟩ ?_
  clear hA hI
  rintro n a w ⟨s1,hn1,ws1,hA,hI⟩
  obtain ⟨m1,rfl,H⟩:=loopN_bind hn1
  clear hn1
  refine w_seq fun _ hN7=>w_seq fun _ hN8=>w_reg<|stm hA rfl rfl fun a hA =>
   stm hA rfl rfl fun a hA=>?_
  obtain ⟨_,hsl3⟩:=Slc.sv hx0
  refine stp hA (r_slen U42 hsl3 hA rfl) rfl fun a hA =>
   stp hA (r_lss hA rfl rfl) rfl fun a hA=>?_
  refine o_nil<|hN8 _ _<|w_cond hA rfl (fun hc2=>?_) (fun hc2=>?_)
  ·obtain ⟨hc2,H⟩:=dT H hc2
   refine w_skip<|hN7 _ _<|w_seq fun _ hN9=>w_block<|w_seq fun _ hN10=>?_
   refine w_draw mo (by kernel_rfl) hI ?_
   refine qtp hA (fun _ hI=>r_mv hA rfl) rfl fun a hA =>
    qtp hA (fun _ hI=>r_mv hA rfl) rfl fun a hA=>?_
   obtain ⟨hb1,H⟩:=bG H
   obtain ⟨_,he1,_,hat1⟩:=Slc.elem hx0 (getD_some [] hb1.1 hb1.2)
   obtain ⟨rfl,hw1⟩:=he1
   obtain ⟨_,hsl4⟩:=Slc.sv hx0
   refine qtp hA (fun _ hI=>r_six U42 sz25 hsl4 hA rfl rfl hb1.1 hb1.2) rfl fun a hA =>
    qtp hA (fun _ hI=>r_ldmA [] [av .u8 32 (x0.getD s1.toNat [])] [] U25 rfl sz25 rfl hI.agr hat1 hA rfl rfl) rfl fun a hA =>
    qtp hA (fun _ hI=>r_mv hA rfl) rfl fun a hA =>
    qtp hA (fun _ hI=>r_mv hA rfl) rfl fun a hA=>?_
   obtain ⟨hb2,H⟩:=bG H
   obtain ⟨_,he2,_,hat2⟩:=Slc.elem hx1 (getD_some [] hb2.1 hb2.2)
   obtain ⟨rfl,hw2⟩:=he2
   obtain ⟨_,hsl5⟩:=Slc.sv hx1
   refine qtp hA (fun _ hI=>r_six U42 sz25 hsl5 hA rfl rfl hb2.1 hb2.2) rfl fun a hA =>
    qtp hA (fun _ hI=>r_ldmA [] [av .u8 32 (x1.getD s1.toNat [])] [] U25 rfl sz25 rfl hI.agr hat2 hA rfl rfl) rfl fun a hA=>?_
   obtain ⟨r1,hr1,H⟩:=bB H
   refine qcall (v:=.bool r1) cf21 hA rfl (fun _ hI=>plq (q0_SameHash.c μ _ hI.agr (x0.getD s1.toNat []) hw1 (x1.getD s1.toNat []) hw2 r1 hr1) hI) rfl fun a hA =>
    qtp hA (fun _ hI=>r_as hA rfl) rfl fun a hA=>?_
   refine q_nil fun w hI=>?_
   refine hN10 _ _<|w_seq fun _ hN11=>w_reg<|stm hA rfl rfl fun a hA =>
    stp hA (r_not hA rfl) rfl fun a hA=>?_
   refine o_nil<|hN11 _ _<|w_cond hA rfl (fun hc3=>?_) (fun hc3=>?_)
   ·have hc3:=nT hc3;have hc3:=ft hc3;have H:=bF H hc3
    refine w_seq fun _ hN12=>w_reg<|sta hA rfl rfl fun a hA=>?_
    refine o_nil<|hN12 _ _<|w_ret ?_
    have H:some false=some z1:=H
    obtain rfl:=sI H
    have H:=Hk1
    obtain rfl:=sJ H
    exact ret1 hA Tryz.results22 rfl ⟨_,rfl,rfl,trivial,hI.forget0⟩
   ·have hc3:=nF hc3;have H:=bT H hc3
    refine w_skip<|hN9 _ _<|w_reg<|stm hA rfl rfl fun a hA =>
     stp hA (r_add hA rfl rfl) rfl fun a hA =>
     sta hA rfl rfl fun a hA=>?_
    refine o_nil<|⟨m1,lS _,IntKind.i64.wrap (s1+1),H,(wrap_in _ _),hA.sub ⟨rfl,rfl,rfl,rfl,trivial⟩,hI⟩
  ·obtain ⟨hc2,H⟩:=dF H hc2
   refine w_exit rfl<|hN5 _ _<|w_seq fun _ hN13=>w_reg<|sta hA rfl rfl fun a hA=>?_
   refine o_nil<|hN13 _ _<|w_ret ?_
   have H:some true=some z1:=H
   obtain rfl:=sI H
   have H:=Hk1
   obtain rfl:=sJ H
   exact ret1 hA Tryz.results22 rfl ⟨_,rfl,rfl,trivial,hI.forget0⟩
theorem q0_LessHash.c (μ:Store)(w0:World)(hμ:Agr μ w0)(x0:List Int)(hx0:Arr .u8 32 x0)(x1:List Int)(hx1:Arr .u8 32 x1)(r:Bool)(H:q0_LessHash.f x0 x1=some r) :
  Calls Tryz.prog 95 [.agg [av .u8 32 x0].flatten.toArray,.agg [av .u8 32 x1].flatten.toArray].toArray w0 (fun e w'=>∃ v,e=.returned v∧v=.bool r∧True∧Iv w0 [] μ μ [] w'):=by
 refine enter Tryz.func95 rfl Tryz.ntmps95 rfl fun a hA=>?_
 have hI:=Iv.start hμ
 have H:=bI H
 refine w_seq fun _ hN1=>w_reg<|o_box [av .u8 32 x0] hI hA rfl rfl rfl fun g1 a w hA hI hg1 =>
  o_box [av .u8 32 x1] hI hA rfl rfl rfl fun g2 a w hA hI hg2 =>
  sta hA rfl rfl fun a hA=>?_
 refine o_nil<|hN1 _ _<|w_seq fun _ hN2=>w_seq fun _ hN3=>w_reg<|sta hA rfl rfl fun a hA=>?_
 refine o_nil<|hN3 _ _<|w_block ?_
 obtain ⟨z1,hz1,Hk1⟩:=bind_some H
 obtain ⟨n1,hn1⟩:=loopO_some hz1
 refine w_loop (fun n a w=>∃(s1:Int),loopN (q0_LessHash.s0 x0 x1) n s1=some z1∧InR .i64 s1∧Fr a 24 [(2,pt g1 0),(3,pt g2 0),(4,.bool false),(5,.int .i64 s1)]∧Iv w0 [] μ μ [cel g2 [av .u8 32 x1] 25,cel g1 [av .u8 32 x0] 25] w) n1 ⟨0,hn1,(in_lit .i64 0 rfl),hA.sub ⟨rfl,rfl,rfl,rfl,trivial⟩,hI⟩ ?_
 clear hA hI
 rintro n a w ⟨s1,hn1,ws1,hA,hI⟩
 obtain ⟨m1,rfl,H⟩:=loopN_bind hn1
 clear hn1
 refine w_seq fun _ hN4=>w_seq fun _ hN5=>w_reg<|stm hA rfl rfl fun a hA =>
  stp hA (r_lss hA rfl rfl) rfl fun a hA=>?_
 refine o_nil<|hN5 _ _<|w_cond hA rfl (fun hc1=>?_) (fun hc1=>?_)
 ·obtain ⟨hc1,H⟩:=dT H hc1
  refine w_skip<|hN4 _ _<|w_seq fun _ hN6=>w_block<|w_seq fun _ hN7=>?_
  refine w_draw mo (by kernel_rfl) hI ?_
  refine qtp hA (fun _ hI=>r_mv hA rfl) rfl fun a hA=>?_
  obtain ⟨hb1,H⟩:=bG H
  refine qtp hA (fun _ hI=>r_ixar1 U25 sz5 hA rfl rfl hb1.1 hb1.2) rfl fun a hA =>
   qtp hA (fun _ hI=>r_ldE (j:=1) [] [] U5 rfl hI rfl hA rfl rfl (by omega)) rfl fun a hA =>
   qtp hA (fun _ hI=>r_mv hA rfl) rfl fun a hA =>
   qtp hA (fun _ hI=>r_ixar1 U25 sz5 hA rfl rfl hb1.1 hb1.2) rfl fun a hA =>
   qtp hA (fun _ hI=>r_ldE (j:=0) [] [] U5 rfl hI rfl hA rfl rfl (by omega)) rfl fun a hA =>
   qtp hA (fun _ hI=>r_neq hA rfl rfl) rfl fun a hA=>?_
  refine q_nil fun w hI=>?_
  refine hN7 _ _<|w_cond hA rfl (fun hc2=>?_) (fun hc2=>?_)
  ·obtain ⟨hc2,H⟩:=dT H hc2
   refine w_seq fun _ hN8=>?_
   refine w_draw mo (by kernel_rfl) hI ?_
   refine qtp hA (fun _ hI=>r_mv hA rfl) rfl fun a hA =>
    qtp hA (fun _ hI=>r_ixar1 U25 sz5 hA rfl rfl hb1.1 hb1.2) rfl fun a hA =>
    qtp hA (fun _ hI=>r_ldE (j:=1) [] [] U5 rfl hI rfl hA rfl rfl (by omega)) rfl fun a hA =>
    qtp hA (fun _ hI=>r_mv hA rfl) rfl fun a hA =>
    qtp hA (fun _ hI=>r_ixar1 U25 sz5 hA rfl rfl hb1.1 hb1.2) rfl fun a hA =>
    qtp hA (fun _ hI=>r_ldE (j:=0) [] [] U5 rfl hI rfl hA rfl rfl (by omega)) rfl fun a hA =>
    qtp hA (fun _ hI=>r_lss hA rfl rfl) rfl fun a hA =>
    qtp hA (fun _ hI=>r_as hA rfl) rfl fun a hA=>?_
   refine q_nil fun w hI=>?_
   refine hN8 _ _<|w_ret ?_
   have H:some (decide ((x0.getD s1.toNat 0) < (x1.getD s1.toNat 0)))=some z1:=H
   obtain rfl:=sI H
   have H:=Hk1
   obtain rfl:=sJ H
   exact ret1 hA Tryz.results95 rfl ⟨_,rfl,rfl,trivial,hI.forget0⟩
  ·obtain ⟨hc2,H⟩:=dF H hc2
   refine w_skip<|hN6 _ _<|w_reg<|stm hA rfl rfl fun a hA =>
    stp hA (r_add hA rfl rfl) rfl fun a hA =>
    sta hA rfl rfl fun a hA=>?_
   refine o_nil<|⟨m1,lS _,IntKind.i64.wrap (s1+1),H,(wrap_in _ _),hA.sub ⟨rfl,rfl,rfl,rfl,trivial⟩,hI⟩
 ·obtain ⟨hc1,H⟩:=dF H hc1
  refine w_exit rfl<|hN2 _ _<|w_seq fun _ hN9=>w_reg<|sta hA rfl rfl fun a hA=>?_
  refine o_nil<|hN9 _ _<|w_ret ?_
  have H:some false=some z1:=H
  obtain rfl:=sI H
  have H:=Hk1
  obtain rfl:=sJ H
  exact ret1 hA Tryz.results95 rfl ⟨_,rfl,rfl,trivial,hI.forget0⟩
theorem q0_Hashes.c (μ:Store)(w0:World)(hμ:Agr μ w0)(x0:List (List Int))(u0:Value)(hx0:Slc (RA .u8 32) 32 μ u0 x0)(r:List (List Int))(H:q0_Hashes.f x0=some r) :
  Calls Tryz.prog 96 [u0].toArray w0 (fun e w'=>∃ v,e=.returned v∧∃(v0:Value)(c0:List Value),v=v0∧Els (RA .u8 32) 32 r c0∧Iv w0 [] μ μ [row 25 32 v0 r.length c0] w'):=by
 refine enter Tryz.func96 rfl Tryz.ntmps96 rfl fun a hA=>?_
 have hI:=Iv.start hμ
 have H:=bI H
 refine w_seq fun _ hN1=>w_reg<|sta hA rfl rfl fun a hA=>?_
 refine o_nil<|hN1 _ _<|w_seq fun _ hN2=>w_reg<|stm hA rfl rfl fun a hA=>?_
 obtain ⟨_,hsl1⟩:=Slc.sv hx0
 refine stp hA (r_slen U42 hsl1 hA rfl) rfl fun a hA=>?_
 obtain ⟨hb1,H⟩:=bG H
 refine o_make (RE:=(RA .u8 32)) (c0:=[av .u8 32 Z32].flatten) (z0:=Z32) ⟨rfl,(arr_zero _ _)⟩ te25 rfl zr25 U42 hI hA rfl rfl (by have hq:=hb1;simp only [maxLen];omega) rfl fun g1 cs1 a w hE1 hA hI =>
  sta hA rfl rfl fun a hA=>?_
 refine o_nil<|hN2 _ _ ?_
 obtain ⟨c1,hz1,Hk1⟩:=bB H
 refine w_cut (fun a w=>∃(vvc1:Value)(ccc1:List Value),Els (RA .u8 32) 32 c1 ccc1∧Fr a 22 [(2,Sn),(3,vvc1)]∧Iv w0 [] μ μ [row 25 32 vvc1 c1.length ccc1] w) ?_ ?_
 ·have H:=bI hz1
  refine w_seq fun _ hN3=>w_reg<|sta hA rfl rfl fun a hA=>?_
  refine o_nil<|hN3 _ _<|w_block ?_
  obtain ⟨z1,hz2,Hk2⟩:=bind_some H
  obtain ⟨n1,hn1⟩:=loopO_some hz2
  refine w_loop (fun n a w=>∃(s1:List (List Int))(s2:Int)(vvs1:Value)(ccs1:List Value),loopN (q0_Hashes.s0 x0) n (s1,s2)=some z1∧Els (RA .u8 32) 32 s1 ccs1∧InR .i64 s2∧Fr a 22 [(0,u0),(2,Sn),(3,vvs1),(4,.int .i64 s2)]∧Iv w0 [] μ μ [row 25 32 vvs1 s1.length ccs1] w) n1 ⟨(List.replicate ((0:Int).toNat) Z32:List (List Int)),0,(.slice (some ⟨g1,0,none⟩) ((0:Int).toNat) (((x0.length:Int)).toNat)),cs1,hn1,hE1,(in_lit .i64 0 rfl),hA.sub ⟨rfl,rfl,rfl,rfl,trivial⟩,hI⟩ ?_
  clear hA hI
  rintro n a w ⟨s1,s2,vvs1,ccs1,hn1,ws1,ws2,hA,hI⟩
  obtain ⟨m1,rfl,H⟩:=loopN_bind hn1
  clear hn1
  refine w_seq fun _ hN4=>w_seq fun _ hN5=>w_reg<|stm hA rfl rfl fun a hA =>
   stm hA rfl rfl fun a hA=>?_
  obtain ⟨_,hsl2⟩:=Slc.sv hx0
  refine stp hA (r_slen U42 hsl2 hA rfl) rfl fun a hA =>
   stp hA (r_lss hA rfl rfl) rfl fun a hA=>?_
  refine o_nil<|hN5 _ _<|w_cond hA rfl (fun hc1=>?_) (fun hc1=>?_)
  ·obtain ⟨hc1,H⟩:=dT H hc1
   refine w_skip<|hN4 _ _<|w_seq fun _ hN6=>w_block<|w_reg<|stm hA rfl rfl fun a hA =>
    stm hA rfl rfl fun a hA =>
    stm hA rfl rfl fun a hA=>?_
   obtain ⟨hb2,H⟩:=bG H
   obtain ⟨_,he1,_,hat1⟩:=Slc.elem hx0 (getD_some [] hb2.1 hb2.2)
   obtain ⟨rfl,hw1⟩:=he1
   obtain ⟨_,hsl3⟩:=Slc.sv hx0
   refine stp hA (r_six U42 sz25 hsl3 hA rfl rfl hb2.1 hb2.2) rfl fun a hA =>
    stp hA (r_ldmA [] [av .u8 32 (x0.getD s2.toNat [])] [] U25 rfl sz25 rfl hI.agr hat1 hA rfl rfl) rfl fun a hA=>?_
   have hE2:Els (RA .u8 32) 32 ([(x0.getD s2.toNat [])]:List (List Int)) _:=(Els.cons (c:=[av .u8 32 (x0.getD s2.toNat [])].flatten) ⟨rfl,hw1⟩ rfl Els.nil)
   refine o_bsl ([av .u8 32 (x0.getD s2.toNat [])].flatten++([])) te25 zr25 U42 hI hA rfl rfl rfl rfl (by kernel_rfl) rfl fun g2 a w hA hI=>?_
   generalize hcs:([av .u8 32 (x0.getD s2.toNat [])].flatten++([]):List Value)=cs2 at hE2 hI
   clear hcs
   obtain ⟨hb3,H⟩:=bG H
   have hE4:=ws1.app hE2
   refine o_appG (xs:=(s1:List (List Int))) (ys:=(([(x0.getD s2.toNat [])]:List (List Int)):List (List Int))) (M:=4398046511104) 1 te25 U42 hI rfl hA rfl rfl (src_row hI (j:=0) rfl) hE2.len (hE2.ones (one_RA _ _)) hb3 rfl fun v1 a w hA hI =>
    sta hA rfl rfl fun a hA=>?_
   refine o_nil<|hN6 _ _<|w_reg<|stm hA rfl rfl fun a hA =>
    stp hA (r_add hA rfl rfl) rfl fun a hA =>
    sta hA rfl rfl fun a hA=>?_
   refine o_nil<|⟨m1,lS _,s1++([(x0.getD s2.toNat [])]:List (List Int)),IntKind.i64.wrap (s2+1),v1,ccs1++cs2,H,hE4,(wrap_in _ _),hA.sub ⟨rfl,rfl,rfl,rfl,trivial⟩,(hI.sl [1] rfl)⟩
  ·obtain ⟨hc1,H⟩:=dF H hc1
   refine w_exit rfl ?_
   have H:some s1=some z1:=H
   obtain rfl:=sI H
   have H:=Hk2
   cases sJ H
   exact ⟨vvs1,ccs1,ws1,hA.sub ⟨rfl,rfl,trivial⟩,hI⟩
 ·rintro a w ⟨vvc1,ccc1,wc1,hA,hI⟩
  have H:=Hk1
  refine w_seq fun _ hN7=>w_reg<|stm hA rfl rfl fun a hA =>
   sta hA rfl rfl fun a hA=>?_
  refine o_nil<|hN7 _ _<|w_ret ?_
  obtain rfl:=sJ H
  exact ret1 hA Tryz.results96 rfl ⟨_,rfl,vvc1,ccc1,rfl,wc1,(hI.less (Store.le.refl _) hI.le)⟩
theorem q0_PutHash.c (μ:Store)(w0:World)(hμ:Agr μ w0)(x0:List (List Int))(u0:Value)(hx0:Slc (RA .u8 32) 32 μ u0 x0)(x1:List Int)(hx1:Arr .u8 32 x1)(r:List (List Int))(H:q0_PutHash.f x0 x1=some r) :
  Calls Tryz.prog 59 [u0,.agg [av .u8 32 x1].flatten.toArray].toArray w0 (fun e w'=>∃ v,e=.returned v∧∃(v0:Value)(c0:List Value),v=v0∧Els (RA .u8 32) 32 r c0∧Iv w0 [] μ μ [row 25 32 v0 r.length c0] w'):=by
 refine enter Tryz.func59 rfl Tryz.ntmps59 rfl fun a hA=>?_
 have hI:=Iv.start hμ
 have H:=bI H
 refine w_seq fun _ hN1=>w_reg<|o_box [av .u8 32 x1] hI hA rfl rfl rfl fun g1 a w hA hI hg1 =>
  sta hA rfl rfl fun a hA=>?_
 refine o_nil<|hN1 _ _<|w_seq fun _ hN2=>w_reg<|sta hA rfl rfl fun a hA=>?_
 refine o_nil<|hN2 _ _ ?_
 obtain ⟨c1,hz1,Hk1⟩:=bB H
 refine w_cut (fun a w=>InR .i64 c1∧Fr a 47 [(0,u0),(3,pt g1 0),(4,Sn),(5,.int .i64 c1)]∧Iv w0 [] μ μ [cel g1 [av .u8 32 x1] 25] w) ?_ ?_
 ·have H:=bI hz1
  refine w_block ?_
  obtain ⟨z1,hz2,Hk2⟩:=bind_some H
  obtain ⟨n1,hn1⟩:=loopO_some hz2
  refine w_loop (fun n a w=>∃(s1:Int),loopN (q0_PutHash.s0 x0 x1) n s1=some z1∧InR .i64 s1∧Fr a 47 [(0,u0),(3,pt g1 0),(4,Sn),(5,.int .i64 s1)]∧Iv w0 [] μ μ [cel g1 [av .u8 32 x1] 25] w) n1 ⟨0,hn1,(in_lit .i64 0 rfl),hA.sub ⟨rfl,rfl,rfl,rfl,trivial⟩,hI⟩ ?_
  clear hA hI
  rintro n a w ⟨s1,hn1,ws1,hA,hI⟩
  obtain ⟨m1,rfl,H⟩:=loopN_bind hn1
  clear hn1
  dsimp only [q0_PutHash.s0] at H
  refine w_seq fun _ hN3=>?_
  obtain ⟨c2,hz3,Hk3⟩:=bB H
  refine w_cut (fun a w=>Fr a 47 [(0,u0),(3,pt g1 0),(4,Sn),(5,.int .i64 s1),(18,.bool c2)]∧Iv w0 [] μ μ [cel g1 [av .u8 32 x1] 25] w) ?_ ?_
  ·have H:=bI hz3
   refine w_draw mo (by kernel_rfl) hI ?_
   refine qtp hA (fun _ hI=>r_mv hA rfl) rfl fun a hA =>
    qtp hA (fun _ hI=>r_mv hA rfl) rfl fun a hA=>?_
   obtain ⟨_,hsl1⟩:=Slc.sv hx0
   refine qtp hA (fun _ hI=>r_slen U42 hsl1 hA rfl) rfl fun a hA =>
    qtp hA (fun _ hI=>r_lss hA rfl rfl) rfl fun a hA =>
    qtp hA (fun _ hI=>r_mv hA rfl) rfl fun a hA=>?_
   rcases Bool.eq_false_or_eq_true (decide (s1 < (x0.length:Int))) with hc1 | hc1
   ·have hc10:=hc1;obtain ⟨hc1,H⟩:=dT H hc1
    refine q_yes hA rfl rfl hc10 <|
     qtp hA (fun _ hI=>r_mv hA rfl) rfl fun a hA =>
     q_yes hA rfl rfl hc10 <|
     qtp hA (fun _ hI=>r_mv hA rfl) rfl fun a hA =>
     q_yes hA rfl rfl hc10<|?_
    obtain ⟨hb1,H⟩:=bG H
    obtain ⟨_,he1,_,hat1⟩:=Slc.elem hx0 (getD_some [] hb1.1 hb1.2)
    obtain ⟨rfl,hw1⟩:=he1
    obtain ⟨_,hsl2⟩:=Slc.sv hx0
    refine qtp hA (fun _ hI=>r_six U42 sz25 hsl2 hA rfl rfl hb1.1 hb1.2) rfl fun a hA =>
     q_yes hA rfl rfl hc10 <|
     qtp hA (fun _ hI=>r_ldmA [] [av .u8 32 (x0.getD s1.toNat [])] [] U25 rfl sz25 rfl hI.agr hat1 hA rfl rfl) rfl fun a hA =>
     q_yes hA rfl rfl hc10 <|
     qtp hA (fun _ hI=>r_ldA (j:=0) [] [av .u8 32 x1] [] U25 rfl sz25 rfl hI rfl hA rfl rfl) rfl fun a hA =>
     q_yes hA rfl rfl hc10<|?_
    obtain ⟨r1,hr1,H⟩:=bB H
    refine qcall (v:=.bool r1) cf95 hA rfl (fun _ hI=>plq (q0_LessHash.c μ _ hI.agr (x0.getD s1.toNat []) hw1 x1 hx1 r1 hr1) hI) rfl fun a hA =>
     qtp hA (fun _ hI=>r_pick_t hA rfl hc10 rfl) rfl fun a hA=>?_
    refine q_nil fun w hI=>?_
    cases sJ H
    exact ⟨hA.sub ⟨rfl,rfl,rfl,rfl,rfl,trivial⟩,hI⟩
   ·have hc10:=hc1;obtain ⟨hc1,H⟩:=dF H hc1
    refine q_no hA rfl rfl (by rw [hc10];simp [vb]) rfl fun a hA =>
     q_no hA rfl rfl (by rw [hc10];simp [vb]) rfl fun a hA =>
     q_no hA rfl rfl (by rw [hc10];simp [vb]) rfl fun a hA =>
     q_no hA rfl rfl (by rw [hc10];simp [vb]) rfl fun a hA =>
     q_no hA rfl rfl (by rw [hc10];simp [vb]) rfl fun a hA =>
     q_no hA rfl rfl (by rw [hc10];simp [vb]) rfl fun a hA =>
     qtp hA (fun _ hI=>r_pick_f hA rfl hc10 rfl) rfl fun a hA=>?_
    refine q_nil fun w hI=>?_
    cases sJ H
    exact ⟨hA.sub ⟨rfl,rfl,rfl,rfl,rfl,trivial⟩,hI⟩
  ·rintro a w ⟨hA,hI⟩
   have H:=Hk3
   refine w_cond hA rfl (fun hc2=>?_) (fun hc2=>?_)
   ·have H:=bT H hc2
    refine w_skip<|hN3 _ _<|w_block<|w_reg<|stm hA rfl rfl fun a hA =>
     stp hA (r_add hA rfl rfl) rfl fun a hA =>
     sta hA rfl rfl fun a hA=>?_
    refine o_nil<|⟨m1,lS _,IntKind.i64.wrap (s1+1),H,(wrap_in _ _),hA.sub ⟨rfl,rfl,rfl,rfl,trivial⟩,hI⟩
   ·have hc2:=ft hc2;have H:=bF H hc2
    refine w_exit rfl ?_
    have H:some s1=some z1:=H
    obtain rfl:=sI H
    have H:=Hk2
    cases sJ H
    exact ⟨ws1,hA.sub ⟨rfl,rfl,rfl,rfl,trivial⟩,hI⟩
 ·rintro a w ⟨wc1,hA,hI⟩
  have H:=Hk1
  refine w_seq fun _ hN4=>?_
  obtain ⟨c3,hz5,Hk4⟩:=bB H
  refine w_cut (fun a w=>Fr a 47 [(0,u0),(3,pt g1 0),(4,Sn),(5,.int .i64 c1),(32,.bool c3)]∧Iv w0 [] μ μ [cel g1 [av .u8 32 x1] 25] w) ?_ ?_
  ·have H:=bI hz5
   refine w_draw mo (by kernel_rfl) hI ?_
   refine qtp hA (fun _ hI=>r_mv hA rfl) rfl fun a hA =>
    qtp hA (fun _ hI=>r_mv hA rfl) rfl fun a hA=>?_
   obtain ⟨_,hsl3⟩:=Slc.sv hx0
   refine qtp hA (fun _ hI=>r_slen U42 hsl3 hA rfl) rfl fun a hA =>
    qtp hA (fun _ hI=>r_lss hA rfl rfl) rfl fun a hA =>
    qtp hA (fun _ hI=>r_mv hA rfl) rfl fun a hA=>?_
   rcases Bool.eq_false_or_eq_true (decide (c1 < (x0.length:Int))) with hc3 | hc3
   ·have hc30:=hc3;obtain ⟨hc3,H⟩:=dT H hc3
    refine q_yes hA rfl rfl hc30 <|
     qtp hA (fun _ hI=>r_mv hA rfl) rfl fun a hA =>
     q_yes hA rfl rfl hc30 <|
     qtp hA (fun _ hI=>r_mv hA rfl) rfl fun a hA =>
     q_yes hA rfl rfl hc30<|?_
    obtain ⟨hb2,H⟩:=bG H
    obtain ⟨_,he2,_,hat2⟩:=Slc.elem hx0 (getD_some [] hb2.1 hb2.2)
    obtain ⟨rfl,hw2⟩:=he2
    obtain ⟨_,hsl4⟩:=Slc.sv hx0
    refine qtp hA (fun _ hI=>r_six U42 sz25 hsl4 hA rfl rfl hb2.1 hb2.2) rfl fun a hA =>
     q_yes hA rfl rfl hc30 <|
     qtp hA (fun _ hI=>r_ldmA [] [av .u8 32 (x0.getD c1.toNat [])] [] U25 rfl sz25 rfl hI.agr hat2 hA rfl rfl) rfl fun a hA =>
     q_yes hA rfl rfl hc30 <|
     qtp hA (fun _ hI=>r_ldA (j:=0) [] [av .u8 32 x1] [] U25 rfl sz25 rfl hI rfl hA rfl rfl) rfl fun a hA =>
     q_yes hA rfl rfl hc30<|?_
    obtain ⟨r2,hr2,H⟩:=bB H
    refine qcall (v:=.bool r2) cf21 hA rfl (fun _ hI=>plq (q0_SameHash.c μ _ hI.agr (x0.getD c1.toNat []) hw2 x1 hx1 r2 hr2) hI) rfl fun a hA =>
     qtp hA (fun _ hI=>r_pick_t hA rfl hc30 rfl) rfl fun a hA=>?_
    refine q_nil fun w hI=>?_
    cases sJ H
    exact ⟨hA.sub ⟨rfl,rfl,rfl,rfl,rfl,trivial⟩,hI⟩
   ·have hc30:=hc3;obtain ⟨hc3,H⟩:=dF H hc3
    refine q_no hA rfl rfl (by rw [hc30];simp [vb]) rfl fun a hA =>
     q_no hA rfl rfl (by rw [hc30];simp [vb]) rfl fun a hA =>
     q_no hA rfl rfl (by rw [hc30];simp [vb]) rfl fun a hA =>
     q_no hA rfl rfl (by rw [hc30];simp [vb]) rfl fun a hA =>
     q_no hA rfl rfl (by rw [hc30];simp [vb]) rfl fun a hA =>
     q_no hA rfl rfl (by rw [hc30];simp [vb]) rfl fun a hA =>
     qtp hA (fun _ hI=>r_pick_f hA rfl hc30 rfl) rfl fun a hA=>?_
    refine q_nil fun w hI=>?_
    cases sJ H
    exact ⟨hA.sub ⟨rfl,rfl,rfl,rfl,rfl,trivial⟩,hI⟩
  ·rintro a w ⟨hA,hI⟩
   have H:=Hk4
   refine w_cond hA rfl (fun hc4=>?_) (fun hc4=>?_)
   ·have H:=bT H hc4
    refine w_seq fun _ hN5=>w_reg<|stm hA rfl rfl fun a hA=>?_
    obtain ⟨r3,hr3,H⟩:=bB H
    refine o_call _ cf96 hA rfl (q0_Hashes.c μ _ hI.agr x0 u0 hx0 r3 hr3) rfl fun v1 a w hz7 hA=>?_
    obtain ⟨_,cs1,rfl,hE1,hi1⟩:=hz7
    have hI:=hI.call hi1
    refine sta hA rfl rfl fun a hA=>?_
    refine o_nil<|hN5 _ _<|w_ret ?_
    obtain rfl:=sJ H
    exact ret1 hA Tryz.results59 rfl ⟨_,rfl,v1,cs1,rfl,hE1,((hI.sl [0] rfl).less (Store.le.refl _) hI.le)⟩
   ·have hc4:=ft hc4;have H:=bF H hc4
    refine w_skip<|hN4 _ _ ?_
    obtain ⟨c4,hz8,Hk5⟩:=bB H
    refine w_cut (fun a w=>∃(vvc4:Value)(ccc4:List Value),Els (RA .u8 32) 32 c4 ccc4∧Fr a 47 [(0,u0),(4,Sn),(5,.int .i64 c1),(6,vvc4)]∧Iv w0 [] μ μ [row 25 32 vvc4 c4.length ccc4,cel g1 [av .u8 32 x1] 25] w) ?_ ?_
    ·have H:=bI hz8
     refine w_anyS [] mo (fun w (h:Iv w0 [] μ μ [cel g1 [av .u8 32 x1] 25] w)=>(h.sl [0] rfl:Iv w0 [] μ μ [cel g1 [av .u8 32 x1] 25] w)) hI fun w hI=>?_
     refine gE 0 hA rfl (.inr hI) (fun _=>r_mv hA rfl) fun a hA=>?_
     refine gE 1 hA rfl (.inr hI) (fun _=>r_mv hA rfl) fun a hA=>?_
     obtain ⟨hb3,H⟩:=bG H
     obtain ⟨v2,hS1,hr4⟩:=r_sl (P:=Tryz.prog) (t:=42) (x:=.tmp 35) (l:=none) (h:=(some (.tmp 36))) (i:=0) (j:=c1) U42 sz25 hx0 hA rfl rfl rfl (by have hq:=hb3;omega) (by have hq:=hb3;omega) (by have hq:=hb3;omega)
     refine gE 2 hA rfl (.inr hI) (fun _=>hr4 _ _ _ _ _ _) fun a hA=>?_
     refine gT 4 hA rfl hI (fun w hI=>r_ldA (j:=0) [] [av .u8 32 x1] [] U25 rfl sz25 rfl hI rfl hA rfl rfl) fun a hA=>?_
     refine g_fork (i:=3) (is:=[5]) (by kernel_rfl) (List.forall_mem_cons.2 ⟨⟨_,rfl,?_⟩,(List.forall_mem_cons.2 ⟨⟨_,rfl,?_⟩,List.forall_mem_nil _⟩)⟩)
     ·skip
      obtain ⟨r4,hr5,H⟩:=bB H
      refine o_call _ cf96 hA rfl (q0_Hashes.c μ _ hI.agr ((x0.take (c1).toNat).drop (0:Int).toNat) v2 hS1 r4 hr5) rfl fun v3 a w hz9 hA=>?_
      obtain ⟨_,cs2,rfl,hE2,hi2⟩:=hz9
      have hI:=hI.call hi2
      refine o_nil<|⟨(.inr (hI.sl [1] rfl)),?_⟩
      refine gF 5 rfl ?_
      have hE3:Els (RA .u8 32) 32 ([x1]:List (List Int)) _:=(Els.cons (c:=[av .u8 32 x1].flatten) ⟨rfl,hx1⟩ rfl Els.nil)
      refine o_bsl ([av .u8 32 x1].flatten++([])) te25 zr25 U42 hI hA rfl rfl rfl rfl (by kernel_rfl) rfl fun g2 a w hA hI=>?_
      generalize hcs:([av .u8 32 x1].flatten++([]):List Value)=cs3 at hE3 hI
      clear hcs
      refine o_nil<|⟨(.inr (hI.sl [2] rfl)),?_⟩
      refine gF 6 rfl ?_
      obtain ⟨hb4,H⟩:=bG H
      have hE5:=hE2.app hE3
      refine o_appG (xs:=(r4:List (List Int))) (ys:=(([x1]:List (List Int)):List (List Int))) (M:=4398046511104) 1 te25 U42 hI rfl hA rfl rfl (src_row hI (j:=0) rfl) hE3.len (hE3.ones (one_RA _ _)) hb4 rfl fun v4 a w hA hI=>?_
      refine o_nil<|⟨(.inr (hI.sl [2] rfl)),?_⟩
      refine gE 7 hA rfl (.inr (hI.sl [2] rfl)) (fun _=>r_as hA rfl) fun a hA=>?_
      refine gN ?_
      cases sJ H
      exact ⟨v4,cs2++cs3,hE5,hA.sub ⟨rfl,rfl,rfl,rfl,trivial⟩,(hI.sl [1,2] rfl)⟩
     ·skip
      have hE2:Els (RA .u8 32) 32 ([x1]:List (List Int)) _:=(Els.cons (c:=[av .u8 32 x1].flatten) ⟨rfl,hx1⟩ rfl Els.nil)
      refine o_bsl ([av .u8 32 x1].flatten++([])) te25 zr25 U42 hI hA rfl rfl rfl rfl (by kernel_rfl) rfl fun g2 a w hA hI=>?_
      generalize hcs:([av .u8 32 x1].flatten++([]):List Value)=cs2 at hE2 hI
      clear hcs
      refine o_nil<|⟨(.inr (hI.sl [1] rfl)),?_⟩
      refine gF 3 rfl ?_
      obtain ⟨r4,hr5,H⟩:=bB H
      refine o_call _ cf96 hA rfl (q0_Hashes.c μ _ hI.agr ((x0.take (c1).toNat).drop (0:Int).toNat) v2 hS1 r4 hr5) rfl fun v3 a w hz9 hA=>?_
      obtain ⟨_,cs3,rfl,hE3,hi2⟩:=hz9
      have hI:=hI.call hi2
      refine o_nil<|⟨(.inr (hI.sl [2] rfl)),?_⟩
      refine gF 6 rfl ?_
      obtain ⟨hb4,H⟩:=bG H
      have hE5:=hE3.app hE2
      refine o_appG (xs:=(r4:List (List Int))) (ys:=(([x1]:List (List Int)):List (List Int))) (M:=4398046511104) 0 te25 U42 hI rfl hA rfl rfl (src_row hI (j:=1) rfl) hE2.len (hE2.ones (one_RA _ _)) hb4 rfl fun v4 a w hA hI=>?_
      refine o_nil<|⟨(.inr (hI.sl [2] rfl)),?_⟩
      refine gE 7 hA rfl (.inr (hI.sl [2] rfl)) (fun _=>r_as hA rfl) fun a hA=>?_
      refine gN ?_
      cases sJ H
      exact ⟨v4,cs3++cs2,hE5,hA.sub ⟨rfl,rfl,rfl,rfl,trivial⟩,(hI.sl [0,2] rfl)⟩
    ·rintro a w ⟨vvc4,ccc4,wc4,hA,hI⟩
     have H:=Hk5
     refine w_seq fun _ hN6=>w_reg<|stm hA rfl rfl fun a hA =>
      stm hA rfl rfl fun a hA =>
      stm hA rfl rfl fun a hA=>?_
     obtain ⟨hb5,H⟩:=bG H
     obtain ⟨v5,hS2,hr6⟩:=r_sl (P:=Tryz.prog) (t:=42) (x:=.tmp 43) (l:=(some (.tmp 44))) (h:=none) (i:=c1) (j:=(x0.length:Int)) U42 sz25 hx0 hA rfl rfl rfl (by have hq:=hb5;omega) (by have hq:=hb5;omega) (by have hq:=hb5;omega)
     refine stp hA (hr6 _ _ _ _ _ _) rfl fun a hA=>?_
     obtain ⟨cs6,hE6,hsv2⟩:Slc (RA .u8 32) 32 μ v5 ((x0.take ((x0.length:Int)).toNat).drop (c1).toNat):=id (hS2)
     obtain ⟨hb6,H⟩:=bG H
     have hE7:=wc4.app hE6
     refine o_appG (xs:=(c4:List (List Int))) (ys:=((x0.take ((x0.length:Int)).toNat).drop (c1).toNat:List (List Int))) (M:=4398046511104) 0 te25 U42 hI rfl hA rfl rfl (src_sl hI.agr hsv2 hE6.len) hE6.len (hE6.ones (one_RA _ _)) hb6 rfl fun v6 a w hA hI =>
      sta hA rfl rfl fun a hA=>?_
     refine o_nil<|hN6 _ _<|w_ret ?_
     obtain rfl:=sJ H
     exact ret1 hA Tryz.results59 rfl ⟨_,rfl,v6,ccc4++cs6,rfl,hE7,((hI.sl [0] rfl).less (Store.le.refl _) hI.le)⟩
def bytes_Clone.f (x0:List Int):Option (List Int):=if x0.length≤140737488355328 then some x0 else none
def compact_number.s0 (x2:Int):((List Int)×Int×Int)→Option (((List Int)×Int×Int)⊕((List Int)×Int)):=fun (s1,s2,s3)=>(if s3 < x2 then (if s1.length+1≤140737488355328 then some (.inl (s1++([IntKind.u8.wrap s2]:List Int),sR .u64 s2 8,IntKind.i64.wrap (s3+1))) else none) else some (.inr (s1,s2)))
noncomputable def compact_number.f (x0:List Int)(x1 x2:Int):Option (List Int):=((loopO (compact_number.s0 x2) (x0,x1,0)).bind fun (c1,c2)=>some c1)
noncomputable def compact_Four.f (x0:List Int)(x1:Int):Option (List Int):=((bytes_Clone.f x0).bind fun r1=>((compact_number.f r1 (IntKind.u64.wrap x1) 4).bind fun r2=>some r2))
def q1_little.s0 (x1 x2:Int):((List Int)×Int)→Option (((List Int)×Int)⊕(List Int)):=fun (s1,s2)=>(if s2 < x2 then (if 0≤(IntKind.u64.wrap (IntKind.i64.wrap (8 * s2))) then (if s1.length+1≤140737488355328 then some (.inl (s1++([IntKind.u8.wrap (sR .u64 x1 (IntKind.u64.wrap (IntKind.i64.wrap (8 * s2))))]:List Int),IntKind.i64.wrap (s2+1))) else none) else none) else some (.inr s1))
noncomputable def q1_little.f (x0:List Int)(x1 x2:Int):Option (List Int):=((loopO (q1_little.s0 x1 x2) (x0,0)).bind fun c1=>some c1)
noncomputable def q1_Four.f (x0:List Int)(x1:Int):Option (List Int):=((q1_little.f x0 (IntKind.u64.wrap x1) 4).bind fun r1=>some r1)
def q1_Len.f (x0:Int):Option Int:=(if x0 < 253 then some 1 else (if x0 < 65536 then some 3 else (if x0 < 4294967296 then some 5 else some 9)))
noncomputable def q1_Put.f (x0:List Int)(x1:Int):Option (List Int):=((q1_Len.f x1).bind fun r1=>(if r1=1 then (if x0.length+1≤140737488355328 then some (x0++([IntKind.u8.wrap x1]:List Int)) else none) else (if r1=3 then (if x0.length+1≤140737488355328 then ((q1_little.f (x0++([253]:List Int)) x1 2).bind fun r2=>some r2) else none) else (if r1=5 then (if x0.length+1≤140737488355328 then ((q1_little.f (x0++([254]:List Int)) x1 4).bind fun r3=>some r3) else none) else (if x0.length+1≤140737488355328 then ((q1_little.f (x0++([255]:List Int)) x1 8).bind fun r4=>some r4) else none)))))
noncomputable def q1_Eight.f (x0:List Int)(x1:Int):Option (List Int):=((q1_little.f x0 x1 8).bind fun r1=>some r1)
def compact_Len.f (x0:Int):Option Int:=(if x0 < 253 then some 1 else (if x0 < 65536 then some 3 else (if x0 < 4294967296 then some 5 else some 9)))
end Go.Proofs.YtdngkgkkblfcjaaGreatDoor.T
