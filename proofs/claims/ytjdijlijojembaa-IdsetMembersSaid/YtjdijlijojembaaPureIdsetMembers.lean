/- A number is an element of a union, an intersection or a difference exactly if the definition says so, for any lists of at most 100 elements. -/
import Derived.Test.YtjdijlijojembaaIds
import Derived.Test.YtjdijlijojembaaPAx14
namespace Go.Proofs.Ytjdijlijojembaa.Ids
open Go.RowKit Go.Proofs.Ytjdijlijojembaa.PA Go.Proofs.YtjdijlijojembaaW.PrintWords Go.Proofs.YtjdijlijojembaaW.PrintLast Go.Proofs.YtjdijlijojembaaW.PrintMore
end Go.Proofs.Ytjdijlijojembaa.Ids
namespace Go.Proofs.Ytjdijlijojembaa.Pure
open Go.RowKit Go.Proofs.Ytjdijlijojembaa.PA Go.Proofs.YtjdijlijojembaaW.PrintWords Go.Proofs.YtjdijlijojembaaW.PrintLast Go.Proofs.YtjdijlijojembaaW.PrintMore
theorem IdsetMembers : mapsheetslaw04_IdsetMembers.Pure := by
  intro a b n _ _ _ _ _ _ _
  obtain ⟨k, hk⟩ : ∃ k : Nat, 300000 < k := ⟨300001, by omega⟩
  refine ⟨k, ?_⟩
  unfold mapsheetslaw04_IdsetMembers.f
  obtain ⟨t, ht, h2⟩ := Ids.few_ok a b []
  rw [ht, Option.bind_some, Ids.awake_ok k (by omega)]
  by_cases e : t = true
  · obtain ⟨ha, hb, _⟩ := h2 e
    have l1 := Ids.len_setOf (a ++ b)
    have l2 := Ids.len_onlyOf id a b
    have l3 := Ids.len_onlyOf not a b
    rw [List.length_append] at l1
    have c1 : (setOf (a ++ b)).contains n = (a.contains n || b.contains n) := by
      rw [Bool.eq_iff_iff]; simp [Ids.mem_setOf]
    have c2 : (onlyOf id a b).contains n = (a.contains n && b.contains n) := by
      rw [Bool.eq_iff_iff]; simp [Ids.mem_inter]
    have c3 : (onlyOf not a b).contains n = (a.contains n && !b.contains n) := by
      rw [Bool.eq_iff_iff]; simp [Ids.mem_minus]
    rw [if_pos e, Ids.has_ok a n k (by omega) (by omega), Ids.has_ok b n k (by omega) (by omega), Ids.union_ok a b (by omega) (by omega), Ids.inter_ok a b (by omega) (by omega), Ids.minus_ok a b (by omega) (by omega)]
    simp only [Option.bind_some, if_true]
    rw [Ids.has_ok _ n k (by omega) (by omega), Ids.has_ok _ n k (by omega) (by omega), Ids.has_ok _ n k (by omega) (by omega), c1, c2, c3]
    cases a.contains n <;> cases b.contains n <;> rfl
  · rw [if_neg e]; rfl
end Go.Proofs.Ytjdijlijojembaa.Pure
