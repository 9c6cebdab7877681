/- Flush changes no content, and what was flushed survives any crash, for every device of at most 100 sectors and pending writes. -/
import Derived.Test.YtjicigagejihhaaRd
import Derived.Test.YtjicigagejihhaaDevFew
import Derived.Test.YtjicigagejihhaaDevSame
import Derived.Test.YtjicigagejihhaaPAx28
namespace Go.Proofs.Ytjicigagejihhaa.Dev
open Go.RowKit Go.Proofs.Ytjicigagejihhaa.PA Go.Proofs.YtjicigagejihhaaW.PrintWords Go.Proofs.YtjicigagejihhaaW.PrintLast Go.Proofs.YtjicigagejihhaaW.PrintMore
theorem flushes_law (s : List (List Int)) (p : List S53) (l : Int) (dn : Bool) (keep : List Int) : ∃ k, mapsheetslaw24_DeviceFlushes.f k s p l dn keep = some true := by
  obtain ⟨k, hk⟩ : ∃ k : Nat, 10000 < k := ⟨10001, by omega⟩
  refine ⟨k + 1, ?_⟩
  unfold mapsheetslaw24_DeviceFlushes.f
  obtain ⟨t, ht, h2⟩ := few_ok s p l dn (k + 1) (by omega)
  rw [ht, Option.bind_some]
  by_cases e : t = true
  · have hf := h2 e
    have h := hf.sm
    rw [if_pos e]
    simp only [mapsheetslaw24_DeviceFlushes.j0]
    by_cases hd : dn = true
    · rw [if_pos hd, awake_ok]; rfl
    · have hd0 : dn = false := by simpa using hd
      subst hd0
      have hs := dur_sm s p p h h.2.2.2
      rw [if_neg hd, flush_ok s p h l false k (by omega)]
      have hw : fl s p l false = (dur s p, [], l, false, 0) := rfl
      rw [hw]
      simp only [Option.bind_some]
      rw [if_pos trivial, if_pos (by simp), lsame_ok s (dur s p) p [] h hs l l false false (-1) (dur_len s p).symm (fun j hj _ => rdd_dur s p j hj) k (by omega), Option.bind_some, if_pos rfl, crash_ok _ _ hs l false keep k (by omega)]
      simp only [Option.bind_some]
      have hk0 : kept (fun i => keep.contains i) 0 [] = [] := rfl
      rw [hk0, dur_nil, lsame_ok _ _ _ _ hs hs l (-1) false false (-1) rfl (fun _ _ _ => rfl) k (by omega), Option.bind_some, if_pos rfl, awake_ok]; rfl
  · rw [if_neg e]
    simp only [mapsheetslaw24_DeviceFlushes.j0]
    rw [if_pos trivial, awake_ok]; rfl
end Go.Proofs.Ytjicigagejihhaa.Dev
namespace Go.Proofs.Ytjicigagejihhaa.Pure
open Go.RowKit Go.Proofs.Ytjicigagejihhaa.PA Go.Proofs.YtjicigagejihhaaW.PrintWords Go.Proofs.YtjicigagejihhaaW.PrintLast Go.Proofs.YtjicigagejihhaaW.PrintMore
theorem DeviceFlushes : ∀ (x0 : S25) (x1 : List Int), PA.wfT25 x0 → PA.wfT38 x1 → ∃ k, PA.mapsheetslaw24_DeviceFlushes.f k x0.f0 x0.f1 x0.f2 x0.f3 x1 = some true := by
  intro x0 x1 _ _
  exact Dev.flushes_law x0.f0 x0.f1 x0.f2 x0.f3 x1
end Go.Proofs.Ytjicigagejihhaa.Pure
