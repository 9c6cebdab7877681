/- For every byte slice, list and limit whose reading holds at most 1048576 values and letters: wire.PutList and wire.List return what the reference returns. -/
import Derived.Test.YtkmgmiofmegjmaaRd
import Derived.Test.YtkmgmiofmegjmaaWireText
namespace Go.Proofs.Ytkmgmiofmegjmaa.Pure
open Go.RowKit Go.Proofs.Ytkmgmiofmegjmaa.PA Go.Proofs.YtkmgmiofmegjmaaW.PrintWords Go.Proofs.YtkmgmiofmegjmaaW.PrintLast Go.Proofs.Ytkmgmiofmegjmaa.Wire

theorem WireLists : ∀ (x0 : List Int) (x1 : List Int) (x2 : Int), PA.wfT22 x0 → PA.wfT34 x1 → PA.wfT3 x2 → PA.bkT22 x0 + PA.bkT34 x1 + PA.bkT3 x2 ≤ 1048576 → ∃ k, PA.mapsheetslaw02_WireLists.f k x0 x1 x2 = some true := by
  intro b l m h0 h1 h2 hbk
  obtain ⟨hm, hl, hw⟩ := h0
  have hB : Bytes b := bytes_of_wf hw
  have hI : ∀ x ∈ l, I64 x := fun x hx => i64_of_wf (h1.2.2 x hx)
  have hll : b.length ≤ Reads.sumBk bkT5 b := Reads.sumBk_length (fun _ => Nat.le_refl 1) b
  have hll2 : l.length ≤ Reads.sumBk bkT3 l := Reads.sumBk_length (fun _ => Nat.le_refl 1) l
  simp only [bkT22, bkT34, bkT3] at hbk hll hll2
  refine ⟨b.length + 1048576 * 20, ?_⟩
  have he := enc_length (l.length : Int)
  have he2 := encs_length_le l
  have hlen : (b ++ enc (l.length : Int) ++ encs_ l).length ≤ 1048576 * 16 := by rw [List.length_append, List.length_append]; omega
  have hsl := listS_length b m hB
  unfold mapsheetslaw02_WireLists.f
  rw [wlist_is b m hB (by omega) _ (by omega), Option.bind_some, rlist_is b m hB (by omega) _ (by omega), Option.bind_some, wputlist_is b l hI (by omega) (by omega) _ (by omega), Option.bind_some, rputlist_is b l hI (by omega) (by omega) _ (by omega), Option.bind_some,
    same_refl _ (by omega) _ (by omega), Option.bind_some, if_pos rfl, sameints_refl _ (by omega) _ (by omega), Option.bind_some, if_pos rfl, if_pos rfl, if_pos rfl, awake_is _ (by omega)]
  rfl
end Go.Proofs.Ytkmgmiofmegjmaa.Pure
