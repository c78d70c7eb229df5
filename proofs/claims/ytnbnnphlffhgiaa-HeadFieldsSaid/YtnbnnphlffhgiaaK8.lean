/- A helper of this seat's claims. It proves no statement by itself. -/
/- Several items handed to a call at once. -/
import Derived.Test.YtnbnnphlffhgiaaK7
namespace Go.Proofs.Ytnbnnphlffhgiaa.K
open Go

/-- Several items as one. -/
def many (its : List It) : It where
  foot := its.flatMap (·.foot)
  ok w := ∀ i ∈ its, i.ok w
  loc w w' h hk i hi := i.loc w w' (fun g hg => h g (List.mem_flatMap.2 ⟨i, hi, hg⟩)) (hk i hi)
section
variable {W0 : World} {md : List Nat} {μ0 μ μ' : Store} {its its1 its1' its2 : List It} {w w' : World}
theorem Iv.pack (h : Iv W0 md μ0 μ (its1 ++ its2) w) : Iv W0 md μ0 μ (many its1 :: its2) w :=
  ⟨h.os, h.tape, h.out, h.size, h.frame, h.le, h.agr, h.fresh, by simpa [many] using h.nodup, fun i hi => by
    rcases List.mem_cons.1 hi with rfl | hi
    · refine ⟨fun j hj => (h.own j (List.mem_append_left _ hj)).1, fun g hg => ?_⟩
      obtain ⟨j, hj, hgj⟩ := List.mem_flatMap.1 hg
      exact (h.own j (List.mem_append_left _ hj)).2 g hgj
    · exact h.own i (List.mem_append_right _ hi)⟩
theorem Iv.unpack (h : Iv W0 md μ0 μ (many its1 :: its2) w) : Iv W0 md μ0 μ (its1 ++ its2) w :=
  ⟨h.os, h.tape, h.out, h.size, h.frame, h.le, h.agr, h.fresh, by simpa [many] using h.nodup, fun i hi => by
    rcases List.mem_append.1 hi with hi | hi
    · obtain ⟨h1, h2⟩ := h.own (many its1) (by simp)
      exact ⟨h1 i hi, fun g hg => h2 g (List.mem_flatMap.2 ⟨i, hi, hg⟩)⟩
    · exact h.own i (List.mem_cons_of_mem _ hi)⟩
/-- What a callee may lean on that is handed these items. -/
def Its (μ : Store) (w : World) (its : List It) : Prop := (many its).ok w ∧ (many its).foot.Nodup ∧ ∀ g ∈ (many its).foot, g < w.heap.size ∧ μ g = none
theorem Iv.handed (h : Iv W0 md μ0 μ (its1 ++ its2) w) : Its μ w its1 := h.pack.item (j := 0) rfl
theorem Iv.startN (h : Agr μ w) (hs : Its μ w its) : Iv w (many its).foot μ μ its w := by
  have := (Iv.start1 h hs.1 hs.2.1 hs.2.2)
  simpa using this.unpack (its2 := [])
theorem Iv.callN (h : Iv W0 md μ0 μ (its1 ++ its2) w) (h' : Iv w (many its1).foot μ μ' its1' w') : Iv W0 md μ0 μ' (its1' ++ its2) w' := by
  simpa using h.pack.call1 0 rfl h'
end
end Go.Proofs.Ytnbnnphlffhgiaa.K
