/- Valid and Knows of vclock report what the reference reports, on any clock of at most 20 counts. -/
import Derived.Test.YtoopfdamdghbmaaRd
import Derived.Test.YtoopfdamdghbmaaVckRef
import Derived.Test.YtoopfdamdghbmaaPAx16
namespace Go.Proofs.Ytoopfdamdghbmaa.Vck
set_option linter.unusedVariables false
set_option linter.unusedSimpArgs false
open Go.RowKit Go.Proofs.Ytoopfdamdghbmaa.PA Go.Proofs.YtoopfdamdghbmaaW.PrintWords Go.Proofs.YtoopfdamdghbmaaW.PrintLast Go.Proofs.YtoopfdamdghbmaaW.PrintMore Go.Proofs.Ytoopfdamdghbmaa.Vck
end Go.Proofs.Ytoopfdamdghbmaa.Vck
namespace Go.Proofs.Ytoopfdamdghbmaa.Pure
open Go.RowKit Go.Proofs.Ytoopfdamdghbmaa.PA Go.Proofs.YtoopfdamdghbmaaW.PrintWords Go.Proofs.YtoopfdamdghbmaaW.PrintLast Go.Proofs.YtoopfdamdghbmaaW.PrintMore Go.Proofs.Ytoopfdamdghbmaa.Vck
theorem VclockReports : ∀ (x0 : S27) (x1 : Int) (x2 : Int), PA.wfT27 x0 → PA.wfT3 x1 → PA.wfT3 x2 → ∃ k, PA.mapsheetslaw27_VclockReports.f k x0.f0 x1 x2 = some true := by
  intro x0 x1 x2 _ _ _
  refine ⟨100000, ?_⟩
  unfold mapsheetslaw27_VclockReports.f
  obtain ⟨t, ht, h2⟩ := small_ok x0.f0 x0.f0 x0.f0
  rw [ht, Option.bind_some]
  by_cases e : t = true
  · obtain ⟨h, _, _⟩ := h2 e
    rw [if_pos e, awake_ok _ (by omega), Option.bind_some, if_pos rfl, rvalid_ok _ (by omega) _ (by omega)]
    unfold vclock_Valid.f
    rw [Option.bind_some, Option.bind_some, if_pos (by simp), rknows_ok _ _ _ (by omega)]
    unfold vclock_Knows.f
    rw [Option.bind_some, Option.bind_some]
    simp
  · rw [if_neg e, awake_ok _ (by omega)]; rfl
end Go.Proofs.Ytoopfdamdghbmaa.Pure
