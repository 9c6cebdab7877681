/- Normal of idset returns the set that the reference returns, which is valid, whatever the order of the list is, for any list of at most 100 elements. -/
import Derived.Test.YtjdijlijojembaaIdsRef
import Derived.Test.YtjdijlijojembaaPAx10
namespace Go.Proofs.Ytjdijlijojembaa.Ids
open Go.RowKit Go.Proofs.Ytjdijlijojembaa.PA Go.Proofs.YtjdijlijojembaaW.PrintWords Go.Proofs.YtjdijlijojembaaW.PrintLast Go.Proofs.YtjdijlijojembaaW.PrintMore
theorem normal_l0 (l : List Int) (hl : l.length ≤ 100) : ∀ (n k : Nat), n ≤ l.length → n + 250000 < k → mapsheetslaw04_IdsetNormal.l0 k l (setOf l) (l.drop n).reverse ((n : Int) - 1) = some true := by
  intro n
  induction n with
  | zero =>
    intro k hn hk
    obtain ⟨k, rfl⟩ : ∃ m, k = m + 1 := ⟨k - 1, by omega⟩
    have hlen := len_setOf l
    have e1 : setOf (setOf l) = setOf l := setOf_congr fun x => mem_setOf l x
    have e2 : setOf l.reverse = setOf l := setOf_congr fun x => by simp
    rw [mapsheetslaw04_IdsetNormal.l0, if_neg (by omega), awake_ok k (by omega), Option.bind_some, if_pos rfl, rnormal_ok l k (by omega) (by omega), Option.bind_some, same_ok _ k (by omega) (by omega), Option.bind_some, if_pos rfl, valid_ok _ k (by omega) (sorted_setOf l) (by omega), Option.bind_some, if_pos rfl, normal_ok _ (by omega), e1, Option.bind_some, same_ok _ k (by omega) (by omega), Option.bind_some, if_pos rfl, List.drop_zero, normal_ok _ (by rw [List.length_reverse]; omega), e2, Option.bind_some, same_ok _ k (by omega) (by omega), Option.bind_some]
  | succ n ih =>
    intro k hn hk
    obtain ⟨k, rfl⟩ : ∃ m, k = m + 1 := ⟨k - 1, by omega⟩
    have e : ((n + 1 : Nat) : Int) - 1 = (n : Int) := by omega
    have e2 : (l.drop (n + 1)).reverse ++ [l[n]] = (l.drop n).reverse := by rw [List.drop_eq_getElem_cons (show n < l.length by omega), List.reverse_cons]
    rw [e, mapsheetslaw04_IdsetNormal.l0, if_pos (by omega), if_pos (by omega), if_pos (by omega), if_pos (by simp; omega), rd_at l n (by omega), e2, show wrap64 ((n : Int) - 1) = (n : Int) - 1 by unfold wrap64; omega]
    exact ih k (by omega) (by omega)
end Go.Proofs.Ytjdijlijojembaa.Ids
namespace Go.Proofs.Ytjdijlijojembaa.Pure
open Go.RowKit Go.Proofs.Ytjdijlijojembaa.PA Go.Proofs.YtjdijlijojembaaW.PrintWords Go.Proofs.YtjdijlijojembaaW.PrintLast Go.Proofs.YtjdijlijojembaaW.PrintMore
theorem IdsetNormal : mapsheetslaw04_IdsetNormal.Pure := by
  intro l _ _ _
  obtain ⟨k, hk⟩ : ∃ k : Nat, 300000 < k := ⟨300001, by omega⟩
  refine ⟨k, ?_⟩
  unfold mapsheetslaw04_IdsetNormal.f
  obtain ⟨t, ht, h2⟩ := Ids.few_ok l [] []
  rw [ht, Option.bind_some]
  by_cases e : t = true
  · obtain ⟨h, _, _⟩ := h2 e
    rw [if_pos e, Ids.normal_ok l (by omega), Option.bind_some, show wrap64 ((l.length : Int) - 1) = (l.length : Int) - 1 by unfold wrap64; omega]
    have := Ids.normal_l0 l h l.length k (Nat.le_refl _) (by omega)
    rw [List.drop_length] at this
    exact this
  · rw [if_neg e, Ids.awake_ok k (by omega)]; rfl
end Go.Proofs.Ytjdijlijojembaa.Pure
