/- Pack of plates writes what the reference's writes, and Unpack reads the plate again, for any plate of at most 5000 spots. -/
import Derived.Test.YtaappifdpbgchaaRd
import Derived.Test.YtaappifdpbgchaaUnpF
import Derived.Test.YtaappifdpbgchaaPAx13
namespace Go.Proofs.Ytaappifdpbgchaa.Pure
set_option linter.unusedVariables false
open Go.RowKit Go.Proofs.Ytaappifdpbgchaa.PA Go.Proofs.Ytaappifdpbgchaa.Plt
open Go.Proofs.Ytaappifdpbgchaa.Crc (same_self)
theorem PlatesPacks : ∀ (x0 : S24), PA.wfT24 x0 → ∃ k, PA.mapsheetslaw54_PlatesPacks.f k x0.f0 x0.f1 x0.f2 = some true := by
  intro x0 _
  refine ⟨50000001, ?_⟩
  unfold mapsheetslaw54_PlatesPacks.f
  rw [fair_ok, Option.bind_some, awake_ok]
  by_cases h : (x0.f2.length : Int) ≤ 5000
  · rw [decide_eq_true h, if_pos rfl]
    by_cases hc : chk x0.f0 x0.f1 x0.f2 = 0
    · have hsl := sealed_len (body x0.f0 x0.f1 x0.f2)
      have hbl := body_len x0.f0 x0.f1 x0.f2
      rw [pack_ok _ _ _ hc _ (by omega), rpack_ok _ _ _ hc _ (by omega), Option.bind_some, Option.bind_some, if_pos rfl]
      dsimp only
      rw [same_self _ (by omega) _ (by omega), Option.bind_some, mapsheetslaw54_PlatesPacks.j0, if_neg (by decide), if_pos rfl, unpack_sealed _ _ _ hc (by omega) _ (by omega), Option.bind_some, if_pos rfl]
      dsimp only
      rw [same_ok _ _ _ (by omega) _ (by omega), Option.bind_some, if_pos rfl, awake_ok]; rfl
    · rw [pack_bad _ _ _ (by omega) hc _ (by omega), rpack_bad _ _ _ (by omega) hc _ (by omega), Option.bind_some, Option.bind_some, if_pos rfl]
      dsimp only
      rw [same_self [] (by simp) _ (by simp), Option.bind_some, mapsheetslaw54_PlatesPacks.j0, if_neg (by decide), if_neg hc, awake_ok]; rfl
  · rw [decide_eq_false h]; rfl
end Go.Proofs.Ytaappifdpbgchaa.Pure
