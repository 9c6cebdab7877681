/- For every byte slice and integer: wire.PutInt and wire.Int return what the reference returns. No condition. -/
import Derived.Test.YtkmgmiofmegjmaaWirePut
namespace Go.Proofs.Ytkmgmiofmegjmaa.Pure
open Go.RowKit Go.Proofs.Ytkmgmiofmegjmaa.PA Go.Proofs.YtkmgmiofmegjmaaW.PrintWords Go.Proofs.YtkmgmiofmegjmaaW.PrintLast Go.Proofs.Ytkmgmiofmegjmaa.Wire

theorem WireInts : mapsheetslaw02_WireInts.Pure := by
  intro l n hm hl hb hn
  have hB := bytes_of_wf hb
  have hI : I64 n := i64_of_wf hn
  have hlen := enc_length n
  refine ⟨l.length + 100, ?_⟩
  unfold mapsheetslaw02_WireInts.f
  rw [wire_Int_is l hB _ (by omega), Option.bind_some, ref_Int_is l hB _ (by omega), Option.bind_some, wput_is l n hI (by omega), Option.bind_some, put_is l n hI (by omega) _ (by omega), Option.bind_some,
    same_refl _ (by rw [List.length_append]; omega) _ (by rw [List.length_append]; omega), Option.bind_some, if_pos rfl, if_pos rfl, if_pos rfl, if_pos rfl, awake_is _ (by omega)]
  rfl
end Go.Proofs.Ytkmgmiofmegjmaa.Pure
