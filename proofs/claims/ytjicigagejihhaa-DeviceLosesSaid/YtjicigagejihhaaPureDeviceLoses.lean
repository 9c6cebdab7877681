/- A crash that no pending write survives leads back to the durable contents, for at most 30 sectors and writes. -/
import Derived.Test.YtjicigagejihhaaRd
import Derived.Test.YtjicigagejihhaaDevSame
import Derived.Test.YtjicigagejihhaaDevWrit
import Derived.Test.YtjicigagejihhaaPAx30
namespace Go.Proofs.Ytjicigagejihhaa.Dev
open Go.RowKit Go.Proofs.Ytjicigagejihhaa.PA Go.Proofs.YtjicigagejihhaaW.PrintWords Go.Proofs.YtjicigagejihhaaW.PrintLast Go.Proofs.YtjicigagejihhaaW.PrintMore
theorem loses_law (n : Int) (a b : List S55) (left : Int) (hl : left ≤ 9223372036854775807) : ∃ k, mapsheetslaw24_DeviceLoses.f k n a b left = some true := by
  obtain ⟨k, hk⟩ : ∃ k : Nat, 20000 < k := ⟨20001, by omega⟩
  refine ⟨k + 1, ?_⟩
  have yes : mapsheetslaw24_DeviceLoses.j0 (k + 1) n a b left true = some true := by
    simp only [mapsheetslaw24_DeviceLoses.j0]
    rw [if_pos trivial, awake_ok]; rfl
  unfold mapsheetslaw24_DeviceLoses.f
  by_cases h1 : n > 30
  · rw [if_pos h1]; exact yes
  rw [if_neg h1]
  by_cases h2 : (a.length : Int) > 30
  · rw [if_pos h2]; exact yes
  rw [if_neg h2]
  by_cases h3 : (b.length : Int) > 30
  · rw [decide_eq_true h3]; exact yes
  rw [decide_eq_false h3]
  simp only [mapsheetslaw24_DeviceLoses.j0]
  rw [if_neg (by decide), new_ok n k (by omega), Option.bind_some]
  unfold nw
  by_cases h4 : n < 1 ∨ n > 4096
  · rw [if_pos h4]
    simp only []
    rw [if_neg (by decide), awake_ok]; rfl
  rw [if_neg h4]
  simp only []
  have hs0 : Sm (List.replicate n.toNat (List.replicate 64 0)) [] := ⟨by simp; omega, by simp, fun x hx => by rw [(List.mem_replicate.1 hx).2]; simp, by simp⟩
  generalize List.replicate n.toNat (List.replicate 64 (0 : Int)) = s at hs0 ⊢
  rw [if_pos trivial, written_ok a (by omega) s [] (-1) false hs0 (by simp) (by omega) k (by omega), Option.bind_some]
  have f1 := wrt_free a 0 s []
  have f2 := wrt_keeps a 0 s [] (-1) false
  have f3 := wrt_sm a 0 s [] (-1) false hs0 (by simp; omega)
  generalize wrt a 0 s [] (-1) false = x at f1 f2 f3 ⊢
  obtain ⟨g1, g2, g3⟩ := f1
  rw [flush_ok _ _ f3 _ _ k (by omega), Option.bind_some, g2]
  have hfl : ∀ s' p' l', fl s' p' l' false = (dur s' p', [], l', false, 0) := fun _ _ _ => rfl
  rw [hfl]
  simp only []
  have hs1 := dur_sm x.1 x.2.1 x.2.1 f3 f3.2.2.2
  generalize dur x.1 x.2.1 = s1 at hs1 ⊢
  rw [arm_ok s1 [] hs1 _ false left k (by omega), Option.bind_some]
  simp only []
  rw [written_ok b (by omega) s1 [] (mx left (-1)) false hs1 (by simp) (by unfold mx; split <;> omega) k (by omega), Option.bind_some]
  have e2 := wrt_keeps b 0 s1 [] (mx left (-1)) false
  have e3 := wrt_sm b 0 s1 [] (mx left (-1)) false hs1 (by simp; omega)
  generalize wrt b 0 s1 [] (mx left (-1)) false = y at e2 e3 ⊢
  rw [if_pos g3, if_pos trivial, crash_ok _ _ e3 _ _ [] k (by omega), Option.bind_some]
  have hk0 : kept (fun i => ([] : List Int).contains i) 0 y.2.1 = [] := by
    have : (fun i : Int => ([] : List Int).contains i) = fun _ => false := by funext i; rfl
    rw [this]; exact kept_none _ _
  rw [hk0, dur_nil, e2]
  simp only []
  rw [lsame_ok s1 s1 [] [] hs1 hs1 _ _ false false (-1) rfl (fun _ _ _ => rfl) k (by omega), Option.bind_some, if_pos rfl, awake_ok]; rfl
end Go.Proofs.Ytjicigagejihhaa.Dev
namespace Go.Proofs.Ytjicigagejihhaa.Pure
open Go.RowKit Go.Proofs.Ytjicigagejihhaa.PA Go.Proofs.YtjicigagejihhaaW.PrintWords Go.Proofs.YtjicigagejihhaaW.PrintLast Go.Proofs.YtjicigagejihhaaW.PrintMore
theorem i64_le {n : Int} (h : (Lit.int .i64 n).wf = true) : n ≤ 9223372036854775807 := by
  have h1 : -9223372036854775808 ≤ n ∧ n ≤ 9223372036854775807 := by simpa [Lit.wf, IntKind.min, IntKind.max, IntKind.signed, IntKind.bits] using h
  exact h1.2
theorem DeviceLoses : ∀ (x0 : Int) (x1 : List (S55)) (x2 : List (S55)) (x3 : Int), PA.wfT3 x0 → PA.wfT47 x1 → PA.wfT47 x2 → PA.wfT3 x3 → ∃ k, PA.mapsheetslaw24_DeviceLoses.f k x0 x1 x2 x3 = some true := by
  intro x0 x1 x2 x3 _ _ _ h3
  exact Dev.loses_law x0 x1 x2 x3 (i64_le h3)
end Go.Proofs.Ytjicigagejihhaa.Pure
