/- Union, Inter and Minus of idset return the sets that the reference returns, for any lists of at most 100 elements. -/
import Derived.Test.YtjdijlijojembaaIdsRef
import Derived.Test.YtjdijlijojembaaPAx13
import Derived.Test.YtjdijlijojembaaPAx11
import Derived.Test.YtjdijlijojembaaPAx12
namespace Go.Proofs.Ytjdijlijojembaa.Ids
open Go.RowKit Go.Proofs.Ytjdijlijojembaa.PA Go.Proofs.YtjdijlijojembaaW.PrintWords Go.Proofs.YtjdijlijojembaaW.PrintLast Go.Proofs.YtjdijlijojembaaW.PrintMore
theorem runion_l0 (l : List Int) (hl : l.length ≤ 1000) : ∀ (d k i : Nat) (s : List Int), l.length - i = d → i ≤ l.length → d + 100001 < k → s.length ≤ 2000 + i → mapsheetsref04_Union.l0 k l s (i : Int) = some (inss s (l.drop i)) := by
  intro d
  induction d with
  | zero =>
    intro k i s hd hi hk hs
    obtain ⟨k, rfl⟩ : ∃ m, k = m + 1 := ⟨k - 1, by omega⟩
    rw [mapsheetsref04_Union.l0, if_neg (by omega), List.drop_of_length_le (by omega)]; rfl
  | succ d ih =>
    intro k i s hd hi hk hs
    obtain ⟨k, rfl⟩ : ∃ m, k = m + 1 := ⟨k - 1, by omega⟩
    have := ins_len s l[i]
    rw [mapsheetsref04_Union.l0, if_pos (by omega), if_pos (by omega), rd_at l i (by omega), w1 i (by omega), with_ok s _ k (by omega) (by omega), Option.bind_some, List.drop_eq_getElem_cons (show i < l.length by omega)]
    exact ih k (i + 1) _ (by omega) (by omega) (by omega) (by omega)
theorem runion_ok (a b : List Int) (k : Nat) (ha : a.length ≤ 1000) (hb : b.length ≤ 1000) (hk : 250000 < k) : mapsheetsref04_Union.f k a b = some (setOf (a ++ b)) := by
  unfold mapsheetsref04_Union.f
  have := runion_l0 b hb b.length k 0 (setOf a) (by omega) (by omega) (by omega) (by have := len_setOf a; omega)
  rw [List.drop_zero, inss_setOf] at this
  rw [rnormal_ok a k ha (by omega), Option.bind_some]
  exact this
theorem rinter_l0 (a b : List Int) (ha : a.length ≤ 1000) (hb : b.length ≤ 1000) : ∀ (d k i : Nat) (s : List Int), a.length - i = d → i ≤ a.length → d + 100001 < k → s.length ≤ i → mapsheetsref04_Inter.l0 k a b s (i : Int) = some (inss s ((a.drop i).filter fun x => b.contains x)) := by
  intro d
  induction d with
  | zero =>
    intro k i s hd hi hk hs
    obtain ⟨k, rfl⟩ : ∃ m, k = m + 1 := ⟨k - 1, by omega⟩
    rw [mapsheetsref04_Inter.l0, if_neg (by omega), List.drop_of_length_le (by omega)]; rfl
  | succ d ih =>
    intro k i s hd hi hk hs
    obtain ⟨k, rfl⟩ : ∃ m, k = m + 1 := ⟨k - 1, by omega⟩
    have := ins_len s a[i]
    rw [mapsheetsref04_Inter.l0, if_pos (by omega), if_pos (by omega), rd_at a i (by omega), w1 i (by omega), rhas_ok b _ k (by omega) (by omega), Option.bind_some, List.drop_eq_getElem_cons (show i < a.length by omega), List.filter_cons]
    by_cases h : b.contains a[i] = true
    · rw [if_pos h, if_pos h, with_ok s _ k (by omega) (by omega), Option.bind_some]
      exact ih k (i + 1) _ (by omega) (by omega) (by omega) (by omega)
    · rw [if_neg h, if_neg h]
      exact ih k (i + 1) _ (by omega) (by omega) (by omega) (by omega)
theorem rinter_ok (a b : List Int) (k : Nat) (ha : a.length ≤ 1000) (hb : b.length ≤ 1000) (hk : 250000 < k) : mapsheetsref04_Inter.f k a b = some (onlyOf id a b) := by
  have := rinter_l0 a b ha hb a.length k 0 [] (by omega) (by omega) (by omega) (by simp)
  rw [List.drop_zero, inss_nil] at this
  have e : setOf (a.filter fun x => b.contains x) = onlyOf id a b := setOf_eq (onlyOf_sorted _ _ _) fun x => by rw [mem_inter, List.mem_filter]; simp
  rw [e] at this
  exact this
theorem rminus_l0 (a b : List Int) (ha : a.length ≤ 1000) (hb : b.length ≤ 1000) : ∀ (d k i : Nat) (s : List Int), a.length - i = d → i ≤ a.length → d + 100001 < k → s.length ≤ i → mapsheetsref04_Minus.l0 k a b s (i : Int) = some (inss s ((a.drop i).filter fun x => !b.contains x)) := by
  intro d
  induction d with
  | zero =>
    intro k i s hd hi hk hs
    obtain ⟨k, rfl⟩ : ∃ m, k = m + 1 := ⟨k - 1, by omega⟩
    rw [mapsheetsref04_Minus.l0, if_neg (by omega), List.drop_of_length_le (by omega)]; rfl
  | succ d ih =>
    intro k i s hd hi hk hs
    obtain ⟨k, rfl⟩ : ∃ m, k = m + 1 := ⟨k - 1, by omega⟩
    have := ins_len s a[i]
    rw [mapsheetsref04_Minus.l0, if_pos (by omega), if_pos (by omega), rd_at a i (by omega), w1 i (by omega), rhas_ok b _ k (by omega) (by omega), Option.bind_some, List.drop_eq_getElem_cons (show i < a.length by omega), List.filter_cons]
    by_cases h : b.contains a[i] = true
    · rw [if_pos h, h, if_neg (by decide)]
      exact ih k (i + 1) _ (by omega) (by omega) (by omega) (by omega)
    · rw [if_neg h, if_pos (by simpa using h), with_ok s _ k (by omega) (by omega), Option.bind_some]
      exact ih k (i + 1) _ (by omega) (by omega) (by omega) (by omega)
theorem rminus_ok (a b : List Int) (k : Nat) (ha : a.length ≤ 1000) (hb : b.length ≤ 1000) (hk : 250000 < k) : mapsheetsref04_Minus.f k a b = some (onlyOf not a b) := by
  have := rminus_l0 a b ha hb a.length k 0 [] (by omega) (by omega) (by omega) (by simp)
  rw [List.drop_zero, inss_nil] at this
  have e : setOf (a.filter fun x => !b.contains x) = onlyOf not a b := setOf_eq (onlyOf_sorted _ _ _) fun x => by rw [mem_minus, List.mem_filter]; simp
  rw [e] at this
  exact this
end Go.Proofs.Ytjdijlijojembaa.Ids
namespace Go.Proofs.Ytjdijlijojembaa.Pure
open Go.RowKit Go.Proofs.Ytjdijlijojembaa.PA Go.Proofs.YtjdijlijojembaaW.PrintWords Go.Proofs.YtjdijlijojembaaW.PrintLast Go.Proofs.YtjdijlijojembaaW.PrintMore
theorem IdsetCombines : mapsheetslaw04_IdsetCombines.Pure := by
  intro a b _ _ _ _ _ _
  obtain ⟨k, hk⟩ : ∃ k : Nat, 300000 < k := ⟨300001, by omega⟩
  refine ⟨k, ?_⟩
  unfold mapsheetslaw04_IdsetCombines.f
  obtain ⟨t, ht, h2⟩ := Ids.few_ok a b []
  rw [ht, Option.bind_some, Ids.awake_ok k (by omega)]
  by_cases e : t = true
  · obtain ⟨ha, hb, _⟩ := h2 e
    have l1 := Ids.len_setOf (a ++ b)
    have l2 := Ids.len_onlyOf id a b
    have l3 := Ids.len_onlyOf not a b
    rw [List.length_append] at l1
    rw [if_pos e, Option.bind_some, if_pos rfl, Ids.union_ok a b (by omega) (by omega), Ids.runion_ok a b k (by omega) (by omega) (by omega)]
    simp only [Option.bind_some]
    rw [Ids.same_ok _ k (by omega) (by omega), Option.bind_some, if_pos rfl, Ids.inter_ok a b (by omega) (by omega), Ids.rinter_ok a b k (by omega) (by omega) (by omega)]
    simp only [Option.bind_some]
    rw [Ids.same_ok _ k (by omega) (by omega), Option.bind_some, if_pos rfl, Ids.minus_ok a b (by omega) (by omega), Ids.rminus_ok a b k (by omega) (by omega) (by omega)]
    simp only [Option.bind_some]
    rw [Ids.same_ok _ k (by omega) (by omega)]; rfl
  · rw [if_neg e]; rfl
end Go.Proofs.Ytjdijlijojembaa.Pure
