import Derived.Test.YtbogbpbapgjndaaDig
namespace Go.Proofs.Ytbogbpbapgjndaa.Pure
open Go.RowKit Go.Proofs.Ytbogbpbapgjndaa.PA Go.Proofs.YtbogbpbapgjndaaW.PrintWords Go.Proofs.YtbogbpbapgjndaaW.PrintLast Go.Proofs.Ytbogbpbapgjndaa.Crc

theorem DigestSeals : mapsheetslaw03_DigestSeals.Pure := by
  intro l hm hm2 hw
  have hb := byts_of_wf hw
  refine ⟨10 * l.length + 20, ?_⟩
  unfold mapsheetslaw03_DigestSeals.f
  have hlen : (l ++ tailL ((crc l : Nat) : Int)).length = l.length + 4 := by rw [List.length_append, tailL_length]
  rw [seal_is l hb (by omega), Option.bind_some, open_is _ (sealed_byts hb) (by omega), opened_sealed, Option.bind_some, rseal_is l hb (by omega) _ (by omega), Option.bind_some, same_self _ (by omega) _ (by omega), Option.bind_some, if_pos rfl, if_pos rfl, same_self _ (by show l.length ≤ _; omega) _ (by show l.length < _; omega), Option.bind_some, if_pos rfl, awake_is]
  rfl

end Go.Proofs.Ytbogbpbapgjndaa.Pure
