/- Merge and Cmp of vclock return what the reference returns, for any two clocks of at most 20 counts each. -/
import Derived.Test.YtoopfdamdghbmaaRd
import Derived.Test.YtoopfdamdghbmaaVckRef
import Derived.Test.YtoopfdamdghbmaaPAx20
namespace Go.Proofs.Ytoopfdamdghbmaa.Vck
set_option linter.unusedVariables false
set_option linter.unusedSimpArgs false
open Go.RowKit Go.Proofs.Ytoopfdamdghbmaa.PA Go.Proofs.YtoopfdamdghbmaaW.PrintWords Go.Proofs.YtoopfdamdghbmaaW.PrintLast Go.Proofs.YtoopfdamdghbmaaW.PrintMore Go.Proofs.Ytoopfdamdghbmaa.Vck
end Go.Proofs.Ytoopfdamdghbmaa.Vck
namespace Go.Proofs.Ytoopfdamdghbmaa.Pure
open Go.RowKit Go.Proofs.Ytoopfdamdghbmaa.PA Go.Proofs.YtoopfdamdghbmaaW.PrintWords Go.Proofs.YtoopfdamdghbmaaW.PrintLast Go.Proofs.YtoopfdamdghbmaaW.PrintMore Go.Proofs.Ytoopfdamdghbmaa.Vck
theorem VclockMerges : ∀ (x0 : S27) (x1 : S27), PA.wfT27 x0 → PA.wfT27 x1 → ∃ k, PA.mapsheetslaw27_VclockMerges.f k x0.f0 x1.f0 = some true := by
  intro x0 x1 _ _
  refine ⟨100000, ?_⟩
  unfold mapsheetslaw27_VclockMerges.f
  obtain ⟨t, ht, h2⟩ := small_ok x0.f0 x1.f0 x1.f0
  rw [ht, Option.bind_some]
  by_cases e : t = true
  · obtain ⟨h, h1, _⟩ := h2 e
    rw [if_pos e, rcmp_ok _ _ (by omega) (by omega) _ (by omega)]
    unfold vclock_Cmp.f
    rw [Option.bind_some, Option.bind_some, awake_ok _ (by omega), Option.bind_some, if_pos rfl, rmerge_ok _ _ (by omega) (by omega) _ (by omega)]
    unfold vclock_Merge.f
    rw [Option.bind_some, Option.bind_some, same_ok _ _ (by have := trim_len (mxc (cnt x0.f0) (cnt x1.f0)); omega) (by omega), Option.bind_some, if_pos rfl, if_pos rfl]
    simp
  · rw [if_neg e, awake_ok _ (by omega)]; rfl
end Go.Proofs.Ytoopfdamdghbmaa.Pure
