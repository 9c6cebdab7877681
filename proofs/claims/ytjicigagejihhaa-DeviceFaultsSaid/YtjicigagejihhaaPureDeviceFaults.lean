/- Flush, Arm and Crash of the device return what the reference returns, for every device of at most 100 sectors and pending writes and at most 200 elements of keep. -/
import Derived.Test.YtjicigagejihhaaRd
import Derived.Test.YtjicigagejihhaaDevRefB
import Derived.Test.YtjicigagejihhaaPAx25
namespace Go.Proofs.Ytjicigagejihhaa.Dev
open Go.RowKit Go.Proofs.Ytjicigagejihhaa.PA Go.Proofs.YtjicigagejihhaaW.PrintWords Go.Proofs.YtjicigagejihhaaW.PrintLast Go.Proofs.YtjicigagejihhaaW.PrintMore Go.Proofs.Ytjicigagejihhaa.DevB
theorem faults_law (s : List (List Int)) (p : List S53) (l : Int) (dn : Bool) (n : Int) (keep : List Int) : ∃ k, mapsheetslaw24_DeviceFaults.f k s p l dn n keep = some true := by
  obtain ⟨k, hk⟩ : ∃ k : Nat, 3000000 < k := ⟨3000001, by omega⟩
  refine ⟨k + 1, ?_⟩
  unfold mapsheetslaw24_DeviceFaults.f
  obtain ⟨t, ht, h2⟩ := few_ok s p l dn (k + 1) (by omega)
  rw [ht, Option.bind_some]
  by_cases e : t = true
  · have hf := h2 e
    have h := hf.sm
    rw [if_pos e]
    simp only [mapsheetslaw24_DeviceFaults.j0]
    by_cases hkp : (keep.length : Int) > 200
    · rw [if_pos (by simpa using hkp), awake_ok]; rfl
    · rw [if_neg (by simpa using hkp), flush_ok s p h l dn k (by omega), rflush_ok s p h l dn k (by omega)]
      simp only [Option.bind_some]
      have h3 : Sm (fl s p l dn).1 (fl s p l dn).2.1 := by
        unfold fl
        split
        · exact ⟨by simp, by simp, (by simp), (by simp)⟩
        · exact dur_sm s p p h h.2.2.2
      have h4 : Sm (dur s (kept (fun i => keep.contains i) 0 p)) [] := dur_sm s p _ h fun w hw => h.2.2.2 w (kept_mem _ _ _ _ hw)
      rw [if_pos trivial, same_ok _ _ _ _ k h3 (by omega), Option.bind_some, if_pos rfl, arm_ok s p h l dn n k (by omega)]
      simp only [Option.bind_some, mapsheetsref24_Arm.f]
      rw [same_ok _ _ _ _ k h (by omega), Option.bind_some, if_pos rfl, crash_ok s p h l dn keep k (by omega), Option.bind_some, rcrash_ok s p h l dn keep (by omega) k (by omega), Option.bind_some]
      simp only []
      rw [same_ok _ _ _ _ k h4 (by omega), Option.bind_some, if_pos rfl, awake_ok]; rfl
  · rw [if_neg e]
    simp only [mapsheetslaw24_DeviceFaults.j0]
    rw [if_pos trivial, awake_ok]; rfl
end Go.Proofs.Ytjicigagejihhaa.Dev
namespace Go.Proofs.Ytjicigagejihhaa.Pure
open Go.RowKit Go.Proofs.Ytjicigagejihhaa.PA Go.Proofs.YtjicigagejihhaaW.PrintWords Go.Proofs.YtjicigagejihhaaW.PrintLast Go.Proofs.YtjicigagejihhaaW.PrintMore
theorem DeviceFaults : ∀ (x0 : S25) (x1 : Int) (x2 : List Int), PA.wfT25 x0 → PA.wfT3 x1 → PA.wfT38 x2 → ∃ k, PA.mapsheetslaw24_DeviceFaults.f k x0.f0 x0.f1 x0.f2 x0.f3 x1 x2 = some true := by
  intro x0 x1 x2 _ _ _
  exact Dev.faults_law x0.f0 x0.f1 x0.f2 x0.f3 x1 x2
end Go.Proofs.Ytjicigagejihhaa.Pure
