/- For every byte slice, string and limit whose reading holds at most 1048576 values and letters: wire.PutText and wire.Text return what the reference returns. -/
import Derived.Test.YtkmgmiofmegjmaaRd
import Derived.Test.YtkmgmiofmegjmaaWireText
namespace Go.Proofs.Ytkmgmiofmegjmaa.Pure
open Go.RowKit Go.Proofs.Ytkmgmiofmegjmaa.PA Go.Proofs.YtkmgmiofmegjmaaW.PrintWords Go.Proofs.YtkmgmiofmegjmaaW.PrintLast Go.Proofs.Ytkmgmiofmegjmaa.Wire

theorem WireTexts : ∀ (x0 : List Int) (x1 : ByteArray) (x2 : Int), PA.wfT22 x0 → PA.wfT9 x1 → PA.wfT3 x2 → PA.bkT22 x0 + PA.bkT9 x1 + PA.bkT3 x2 ≤ 1048576 → ∃ k, PA.mapsheetslaw02_WireTexts.f k x0 x1 x2 = some true := by
  intro l s m h0 h1 h2 hbk
  obtain ⟨hm, hl, hw⟩ := h0
  have hB : Bytes l := bytes_of_wf hw
  have hll : l.length ≤ Reads.sumBk bkT5 l := Reads.sumBk_length (fun _ => Nat.le_refl 1) l
  simp only [bkT22, bkT9, bkT3] at hbk
  refine ⟨l.length + 1048576 * 20, ?_⟩
  have he := enc_length (s.size : Int)
  have hlen : (l ++ enc (s.size : Int) ++ bytesOf s).length ≤ 1048576 * 4 := by rw [List.length_append, List.length_append, bytesOf_length]; omega
  unfold mapsheetslaw02_WireTexts.f
  rw [wtext_is l m hB (by omega) _ (by omega), Option.bind_some, rtext_is l m hB (by omega) _ (by omega), Option.bind_some, wputtext_is l s (by omega), Option.bind_some, rputtext_is l s (by omega) _ (by omega), Option.bind_some,
    same_refl _ (by omega) _ (by omega), Option.bind_some, if_pos rfl, if_pos rfl, if_pos rfl, if_pos rfl, awake_is _ (by omega)]
  rfl
end Go.Proofs.Ytkmgmiofmegjmaa.Pure
