/- The operations of idset obey the algebra of sets, for any lists of at most 100 elements. -/
import Derived.Test.YtjdijlijojembaaIds
import Derived.Test.YtjdijlijojembaaPAx15
namespace Go.Proofs.Ytjdijlijojembaa.Ids
open Go.RowKit Go.Proofs.Ytjdijlijojembaa.PA Go.Proofs.YtjdijlijojembaaW.PrintWords Go.Proofs.YtjdijlijojembaaW.PrintLast Go.Proofs.YtjdijlijojembaaW.PrintMore
end Go.Proofs.Ytjdijlijojembaa.Ids
namespace Go.Proofs.Ytjdijlijojembaa.Pure
open Go.RowKit Go.Proofs.Ytjdijlijojembaa.PA Go.Proofs.YtjdijlijojembaaW.PrintWords Go.Proofs.YtjdijlijojembaaW.PrintLast Go.Proofs.YtjdijlijojembaaW.PrintMore
theorem IdsetAlgebra : mapsheetslaw04_IdsetAlgebra.Pure := by
  intro a b c _ _ _ _ _ _ _ _ _
  obtain ⟨k, hk⟩ : ∃ k : Nat, 300000 < k := ⟨300001, by omega⟩
  refine ⟨k + 1 + 1 + 1, ?_⟩
  unfold mapsheetslaw04_IdsetAlgebra.f
  obtain ⟨t, ht, h2⟩ := Ids.few_ok a b c
  rw [ht, Option.bind_some]
  by_cases e : t = true
  · obtain ⟨ha, hb, hc⟩ := h2 e
    have L : ∀ x y : List Int, (setOf (x ++ y)).length ≤ x.length + y.length := fun x y => by have := Ids.len_setOf (x ++ y); rw [List.length_append] at this; exact this
    have M : ∀ x y : List Int, (onlyOf id x y).length ≤ x.length := Ids.len_onlyOf id
    have l1 := L a b
    have l2 := L b a
    have l3 := L b c
    have l4 := L a c
    have m1 := M a b
    have m2 := M b a
    have m3 := M a c
    have m4 := M b c
    rw [if_pos e, Ids.union_ok a b (by omega) (by omega), Ids.inter_ok a b (by omega) (by omega), Ids.union_ok b a (by omega) (by omega)]
    simp only [Option.bind_some]
    rw [Ids.same_eq (setOf (a ++ b)) (setOf (b ++ a)) (Ids.setOf_congr fun x => by simp [or_comm]) _ (by omega) (by omega)]
    simp only [Option.bind_some, if_true]
    rw [Ids.inter_ok b a (by omega) (by omega), Option.bind_some, Ids.same_eq (onlyOf id a b) (onlyOf id b a) (Ids.sorted_ext (Ids.onlyOf_sorted _ _ _) (Ids.onlyOf_sorted _ _ _) fun x => by rw [Ids.mem_inter, Ids.mem_inter, and_comm]) _ (by omega) (by omega), Option.bind_some]
    rw [mapsheetslaw04_IdsetAlgebra.j0, if_neg (by decide), Ids.union_ok _ c (by omega) (by omega), Ids.union_ok b c (by omega) (by omega)]
    simp only [Option.bind_some]
    rw [Ids.union_ok a _ (by omega) (by omega), Option.bind_some]
    have l5 := L (setOf (a ++ b)) c
    rw [Ids.same_eq (setOf (setOf (a ++ b) ++ c)) (setOf (a ++ setOf (b ++ c))) (Ids.setOf_congr fun x => by simp [Ids.mem_setOf, or_assoc]) _ (by omega) (by omega)]
    simp only [Option.bind_some, if_true]
    have m5 := M (onlyOf id a b) c
    rw [Ids.inter_ok _ c (by omega) (by omega), Ids.inter_ok b c (by omega) (by omega)]
    simp only [Option.bind_some]
    rw [Ids.inter_ok a _ (by omega) (by omega), Option.bind_some, Ids.same_eq (onlyOf id (onlyOf id a b) c) (onlyOf id a (onlyOf id b c)) (Ids.sorted_ext (Ids.onlyOf_sorted _ _ _) (Ids.onlyOf_sorted _ _ _) fun x => by simp only [Ids.mem_inter]; exact and_assoc) _ (by omega) (by omega), Option.bind_some]
    rw [mapsheetslaw04_IdsetAlgebra.j1, if_neg (by decide), Ids.inter_ok _ c (by omega) (by omega), Ids.inter_ok a c (by omega) (by omega), Ids.inter_ok b c (by omega) (by omega)]
    simp only [Option.bind_some]
    have m6 := M (setOf (a ++ b)) c
    rw [Ids.union_ok _ _ (by omega) (by omega), Option.bind_some, Ids.same_eq (onlyOf id (setOf (a ++ b)) c) (setOf (onlyOf id a c ++ onlyOf id b c)) (Ids.sorted_ext (Ids.onlyOf_sorted _ _ _) (sorted_setOf _) fun x => by simp only [Ids.mem_inter, Ids.mem_setOf, List.mem_append]; by_cases h1 : x ∈ a <;> by_cases h2 : x ∈ b <;> by_cases h3 : x ∈ c <;> simp [h1, h2, h3]) _ (by omega) (by omega)]
    simp only [Option.bind_some, if_true]
    rw [Ids.union_ok _ c (by omega) (by omega), Ids.union_ok a c (by omega) (by omega), Ids.union_ok b c (by omega) (by omega)]
    simp only [Option.bind_some]
    have l6 := L (onlyOf id a b) c
    rw [Ids.inter_ok _ _ (by omega) (by omega), Option.bind_some, Ids.same_eq (setOf (onlyOf id a b ++ c)) (onlyOf id (setOf (a ++ c)) (setOf (b ++ c))) (Ids.sorted_ext (sorted_setOf _) (Ids.onlyOf_sorted _ _ _) fun x => by simp only [Ids.mem_inter, Ids.mem_setOf, List.mem_append]; by_cases h1 : x ∈ a <;> by_cases h2 : x ∈ b <;> by_cases h3 : x ∈ c <;> simp [h1, h2, h3]) _ (by omega) (by omega), Option.bind_some]
    rw [mapsheetslaw04_IdsetAlgebra.j2, if_neg (by decide), Ids.awake_ok k (by omega), Option.bind_some, if_pos rfl, Ids.union_ok a _ (by omega) (by omega), Ids.normal_ok a (by omega)]
    simp only [Option.bind_some]
    have l7 := L a (onlyOf id a b)
    rw [Ids.same_eq (setOf (a ++ onlyOf id a b)) (setOf a) (Ids.setOf_congr fun x => by simp only [List.mem_append, Ids.mem_inter]; by_cases h1 : x ∈ a <;> by_cases h2 : x ∈ b <;> simp [h1, h2]) _ (by omega) (by omega), Option.bind_some, if_pos rfl, Ids.inter_ok a _ (by omega) (by omega)]
    simp only [Option.bind_some]
    have m7 := M a (setOf (a ++ b))
    rw [Ids.same_eq (onlyOf id a (setOf (a ++ b))) (setOf a) (Ids.sorted_ext (Ids.onlyOf_sorted _ _ _) (sorted_setOf _) fun x => by simp only [Ids.mem_inter, Ids.mem_setOf, List.mem_append]; by_cases h1 : x ∈ a <;> by_cases h2 : x ∈ b <;> simp [h1, h2]) _ (by omega) (by omega)]; rfl
  · rw [if_neg e, Ids.awake_ok _ (by omega)]; rfl
end Go.Proofs.Ytjdijlijojembaa.Pure
