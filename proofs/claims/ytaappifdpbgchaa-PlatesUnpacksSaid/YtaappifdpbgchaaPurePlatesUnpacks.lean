/- Unpack of plates answers as the reference's does, and what it reads packs to the same bytes, for any at most 5000 bytes. -/
import Derived.Test.YtaappifdpbgchaaUnpF
import Derived.Test.YtaappifdpbgchaaPAx16
namespace Go.Proofs.Ytaappifdpbgchaa.Pure
set_option linter.unusedVariables false
open Go.RowKit Go.Proofs.Ytaappifdpbgchaa.PA Go.Proofs.Ytaappifdpbgchaa.Plt
open Go.Proofs.Ytaappifdpbgchaa.Crc (same_self byts_of_wf)
theorem PlatesUnpacks : mapsheetslaw54_PlatesUnpacks.Pure := by
  intro l0 _ _ hwf
  refine ⟨50000001, ?_⟩
  unfold mapsheetslaw54_PlatesUnpacks.f
  rw [awake_ok]
  by_cases h : (l0.length : Int) > 5000
  · rw [if_pos h]; rfl
  · rw [if_neg h]
    obtain ⟨r, hr, hg⟩ := unpack_cases l0 (byts_of_wf hwf) (by omega)
    obtain ⟨r1, r2⟩ := hr 50000001 (by omega)
    rw [r1, r2, Option.bind_some, Option.bind_some, if_pos rfl]
    rcases hg with ⟨e, he, rfl⟩ | ⟨W, H, V, rfl, hc, hb⟩
    · dsimp only
      rw [same_ok 0 0 [] (by simp) _ (by omega), Option.bind_some, mapsheetslaw54_PlatesUnpacks.j0, if_neg (by decide), if_neg he, awake_ok]; rfl
    · have hl := chk_len hc
      dsimp only
      rw [same_ok W H V (by omega) _ (by omega), Option.bind_some, mapsheetslaw54_PlatesUnpacks.j0, if_neg (by decide), if_pos rfl, pack_ok W H V hc _ (by omega), Option.bind_some, if_pos rfl]
      dsimp only
      rw [← hb, same_self l0 (by omega) _ (by omega), Option.bind_some, if_pos rfl, awake_ok]; rfl
end Go.Proofs.Ytaappifdpbgchaa.Pure
