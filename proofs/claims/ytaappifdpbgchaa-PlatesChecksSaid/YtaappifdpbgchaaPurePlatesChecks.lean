/- Check and Total of plates answer as the reference's do, on any plate of at most 5000 spots. -/
import Derived.Test.YtaappifdpbgchaaRd
import Derived.Test.YtaappifdpbgchaaPlt
import Derived.Test.YtaappifdpbgchaaPAx11
namespace Go.Proofs.Ytaappifdpbgchaa.Pure
set_option linter.unusedVariables false
open Go.RowKit Go.Proofs.Ytaappifdpbgchaa.PA Go.Proofs.Ytaappifdpbgchaa.Plt
theorem PlatesChecks : ∀ (x0 : S24), PA.wfT24 x0 → ∃ k, PA.mapsheetslaw54_PlatesChecks.f k x0.f0 x0.f1 x0.f2 = some true := by
  intro x0 _
  refine ⟨100000, ?_⟩
  unfold mapsheetslaw54_PlatesChecks.f
  rw [fair_ok, Option.bind_some, awake_ok]
  by_cases h : (x0.f2.length : Int) ≤ 5000
  · rw [decide_eq_true h, if_pos rfl, check_chk _ _ _ (by omega) _ (by omega), rcheck_chk _ _ _ (by omega) _ (by omega), total_ok _ _ _ (by omega) _ (by omega), rtotal_ok _ _ _ (by omega) _ (by omega)]
    simp
  · rw [decide_eq_false h]; rfl
end Go.Proofs.Ytaappifdpbgchaa.Pure
