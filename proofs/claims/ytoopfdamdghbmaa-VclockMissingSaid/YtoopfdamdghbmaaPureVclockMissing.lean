/- Missing of vclock returns the transactions that the reference returns, for any clock of at most 20 counts and any list of at most 60 transactions. -/
import Derived.Test.YtoopfdamdghbmaaRd
import Derived.Test.YtoopfdamdghbmaaVckRef
import Derived.Test.YtoopfdamdghbmaaPAx23
namespace Go.Proofs.Ytoopfdamdghbmaa.Vck
set_option linter.unusedVariables false
set_option linter.unusedSimpArgs false
open Go.RowKit Go.Proofs.Ytoopfdamdghbmaa.PA Go.Proofs.YtoopfdamdghbmaaW.PrintWords Go.Proofs.YtoopfdamdghbmaaW.PrintLast Go.Proofs.YtoopfdamdghbmaaW.PrintMore Go.Proofs.Ytoopfdamdghbmaa.Vck
theorem missing_j0 (c : List Int) (l : List S32) (hc : c.length ≤ 20) (t : Bool) (ht : t = false → l.length ≤ 60) (k : Nat) (hk : 10000 < k) : mapsheetslaw27_VclockMissing.j0 k l t c = some true := by
  obtain ⟨k, rfl⟩ : ∃ m, k = m + 1 := ⟨k - 1, by omega⟩
  rw [mapsheetslaw27_VclockMissing.j0]
  cases t
  · have hl := ht rfl
    have hx := txs_len l
    rw [if_neg (by decide), awake_ok k (by omega), Option.bind_some, if_pos rfl, txns_ok l (by omega) k (by omega), Option.bind_some, missing_ok _ _ (by omega), Option.bind_some, Option.bind_some, rmissing_ok _ _ (by omega) (by omega) k (by omega), Option.bind_some, sameTxns_ok _ k (by have := List.length_filter_le (missed c) (txs l); omega) (by omega), Option.bind_some]
  · rw [if_pos rfl, awake_ok k (by omega)]; rfl
end Go.Proofs.Ytoopfdamdghbmaa.Vck
namespace Go.Proofs.Ytoopfdamdghbmaa.Pure
open Go.RowKit Go.Proofs.Ytoopfdamdghbmaa.PA Go.Proofs.YtoopfdamdghbmaaW.PrintWords Go.Proofs.YtoopfdamdghbmaaW.PrintLast Go.Proofs.YtoopfdamdghbmaaW.PrintMore Go.Proofs.Ytoopfdamdghbmaa.Vck
theorem VclockMissing : ∀ (x0 : S27) (x1 : List (S32)), PA.wfT27 x0 → PA.wfT22 x1 → ∃ k, PA.mapsheetslaw27_VclockMissing.f k x0.f0 x1 = some true := by
  intro x0 x1 _ _
  refine ⟨100000, ?_⟩
  unfold mapsheetslaw27_VclockMissing.f
  obtain ⟨t, ht, h2⟩ := small_ok x0.f0 x0.f0 x0.f0
  rw [ht, Option.bind_some]
  by_cases e : t = true
  · obtain ⟨h, _, _⟩ := h2 e
    obtain ⟨t2, ht2, h3⟩ := few_ok x1 []
    rw [if_pos e, ht2, Option.bind_some]
    exact missing_j0 _ _ h _ (fun e2 => (h3 (by simpa using e2)).1) _ (by omega)
  · rw [if_neg e]
    have hb : ¬ (x0.f0.length ≤ 20) ∨ x0.f0.length ≤ 20 := by omega
    obtain ⟨k, hk⟩ : ∃ k : Nat, 100000 = k + 1 := ⟨99999, rfl⟩
    rw [hk, mapsheetslaw27_VclockMissing.j0, if_pos rfl, awake_ok k (by omega)]; rfl
end Go.Proofs.Ytoopfdamdghbmaa.Pure
