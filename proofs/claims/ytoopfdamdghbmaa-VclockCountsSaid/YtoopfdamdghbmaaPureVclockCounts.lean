/- Of of vclock returns the clock that the reference returns, whatever the order of the transactions is and however often each occurs, for any list of at most 60 transactions. -/
import Derived.Test.YtoopfdamdghbmaaRd
import Derived.Test.YtoopfdamdghbmaaVckRef
import Derived.Test.YtoopfdamdghbmaaPAx13
namespace Go.Proofs.Ytoopfdamdghbmaa.Vck
set_option linter.unusedVariables false
set_option linter.unusedSimpArgs false
open Go.RowKit Go.Proofs.Ytoopfdamdghbmaa.PA Go.Proofs.YtoopfdamdghbmaaW.PrintWords Go.Proofs.YtoopfdamdghbmaaW.PrintLast Go.Proofs.YtoopfdamdghbmaaW.PrintMore Go.Proofs.Ytoopfdamdghbmaa.Vck
/-- The list turned round, each element twice, from the element n on. -/
def back (l : List S32) (n : Nat) : List S32 := (l.drop n).reverse.flatMap fun x => [x, x]
theorem twice_len : ∀ m : List S32, (m.flatMap fun x => [x, x]).length = 2 * m.length
  | [] => rfl
  | x :: r => by
    have := twice_len r
    rw [List.flatMap_cons, List.length_append, this]
    simp only [List.length_cons, List.length_nil]
    omega
theorem back_len (l : List S32) (n : Nat) : (back l n).length = 2 * (l.length - n) := by
  unfold back
  rw [twice_len, List.length_reverse, List.length_drop]
theorem back_succ (l : List S32) (n : Nat) (h : n < l.length) : back l (n + 1) ++ [l[n], l[n]] = back l n := by
  unfold back
  rw [List.drop_eq_getElem_cons h, List.reverse_cons, List.flatMap_append]
  simp
theorem back_of (l : List S32) : ofF (txs (back l 0)) = ofF (txs l) := by
  apply ofF_congr
  intro k z
  rw [has_txs, has_txs]
  unfold back
  simp
theorem counts_l0 (l : List S32) (hl : l.length ≤ 60) : ∀ (n k : Nat), n ≤ l.length → n + 50000 < k → mapsheetslaw27_VclockCounts.l0 k l (back l n) ((n : Int) - 1) (trim (ofF (txs l))) = some true := by
  intro n
  have hx := txs_len l
  have ht := trim_len (ofF (txs l))
  induction n with
  | zero =>
    intro k hn hk
    obtain ⟨k, rfl⟩ : ∃ m, k = m + 1 := ⟨k - 1, by omega⟩
    have hb := back_len l 0
    have hxb := txs_len (back l 0)
    rw [mapsheetslaw27_VclockCounts.l0, if_neg (by omega), awake_ok k (by omega), Option.bind_some, if_pos rfl, txns_ok l (by omega) k (by omega), Option.bind_some, rof_ok _ (by omega) k (by omega), Option.bind_some, same_ok _ k (by omega) (by omega), Option.bind_some, if_pos rfl, txns_ok _ (by omega) k (by omega), Option.bind_some, of_ok _ (by omega), Option.bind_some, back_of, same_ok _ k (by omega) (by omega), Option.bind_some]
  | succ n ih =>
    intro k hn hk
    obtain ⟨k, rfl⟩ : ∃ m, k = m + 1 := ⟨k - 1, by omega⟩
    have e : ((n + 1 : Nat) : Int) - 1 = (n : Int) := by omega
    have hb := back_len l (n + 1)
    rw [e, mapsheetslaw27_VclockCounts.l0, if_pos (by omega), if_pos (by omega), if_pos (by omega), Option.bind_some, rd32_at l n (by omega), if_pos (by simp only [List.length_cons, List.length_nil]; omega), show wrap64 ((n : Int) - 1) = (n : Int) - 1 by unfold wrap64; omega]
    have := ih k (by omega) (by omega)
    rw [← back_succ l n (by omega)] at this
    exact this
end Go.Proofs.Ytoopfdamdghbmaa.Vck
namespace Go.Proofs.Ytoopfdamdghbmaa.Pure
open Go.RowKit Go.Proofs.Ytoopfdamdghbmaa.PA Go.Proofs.YtoopfdamdghbmaaW.PrintWords Go.Proofs.YtoopfdamdghbmaaW.PrintLast Go.Proofs.YtoopfdamdghbmaaW.PrintMore Go.Proofs.Ytoopfdamdghbmaa.Vck
theorem VclockCounts : ∀ (x0 : List (S32)), PA.wfT22 x0 → ∃ k, PA.mapsheetslaw27_VclockCounts.f k x0 = some true := by
  intro x0 _
  refine ⟨100000, ?_⟩
  unfold mapsheetslaw27_VclockCounts.f
  obtain ⟨t, ht, h2⟩ := few_ok x0 []
  rw [ht, Option.bind_some]
  by_cases e : t = true
  · obtain ⟨h, _⟩ := h2 e
    have hx := txs_len x0
    rw [if_pos e, txns_ok x0 (by omega) _ (by omega), Option.bind_some, of_ok _ (by omega), Option.bind_some, show wrap64 ((x0.length : Int) - 1) = (x0.length : Int) - 1 by unfold wrap64; omega]
    have := counts_l0 x0 h x0.length 100000 (Nat.le_refl _) (by omega)
    have e0 : back x0 x0.length = [] := by unfold back; rw [List.drop_length]; rfl
    rw [e0] at this
    exact this
  · rw [if_neg e, awake_ok _ (by omega)]; rfl
end Go.Proofs.Ytoopfdamdghbmaa.Pure
