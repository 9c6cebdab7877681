import Derived.Test.YtbogbpbapgjndaaFnv
namespace Go.Proofs.Ytbogbpbapgjndaa.Pure
open Go.RowKit Go.Proofs.Ytbogbpbapgjndaa.PA Go.Proofs.YtbogbpbapgjndaaW.PrintWords Go.Proofs.YtbogbpbapgjndaaW.PrintLast Go.Proofs.Ytbogbpbapgjndaa.Crc

theorem DigestValues : mapsheetslaw03_DigestValues.Pure := by
  intro l _ hm hw
  have hb := byts_of_wf hw
  refine ⟨10 * l.length + 1, ?_⟩
  unfold mapsheetslaw03_DigestValues.f
  rw [crc_is l hb, Option.bind_some, ref_at l (by omega) hb _ (by omega), Option.bind_some, if_pos rfl, fnv_is l (by omega) _ (by omega), Option.bind_some, rfnv_is l (by omega) _ (by omega), Option.bind_some, if_pos rfl, awake_is]
  rfl

end Go.Proofs.Ytbogbpbapgjndaa.Pure
