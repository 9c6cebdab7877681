/- New, Write and Read of the device return what the reference returns, for every device of at most 100 sectors and pending writes, and the examples hold. -/
import Derived.Test.YtjicigagejihhaaRd
import Derived.Test.YtjicigagejihhaaDevRefA
import Derived.Test.YtjicigagejihhaaPAx20
namespace Go.Proofs.Ytjicigagejihhaa.Dev
open Go.RowKit Go.Proofs.Ytjicigagejihhaa.PA Go.Proofs.YtjicigagejihhaaW.PrintWords Go.Proofs.YtjicigagejihhaaW.PrintLast Go.Proofs.YtjicigagejihhaaW.PrintMore
theorem calls_law (s : List (List Int)) (p : List S53) (l : Int) (dn : Bool) (n i : Int) (b : List Int) (hl : l ≤ 9223372036854775807) : ∃ k, mapsheetslaw24_DeviceCalls.f k s p l dn n i b = some true := by
  obtain ⟨k, hk⟩ : ∃ k : Nat, 10000 < k := ⟨10001, by omega⟩
  refine ⟨k + 1, ?_⟩
  unfold mapsheetslaw24_DeviceCalls.f
  obtain ⟨t, ht, h2⟩ := few_ok s p l dn (k + 1) (by omega)
  rw [ht, Option.bind_some, awake_ok]
  by_cases e : t = true
  · have hf := h2 e
    have h := hf.sm
    rw [if_pos e, write_ok s p h l hl dn i b _ (by omega), rwrite_ok s p h l hl dn i b, read_ok s p h l dn i _ (by omega), rread_ok s p h l dn i _ (by omega)]
    simp only [Option.bind_some]
    have hp := hf.2.1
    have hw : Sm (wr s p l dn i b).1 (wr s p l dn i b).2.1 := by
      by_cases hb : b.length ≤ 200
      · exact wr_sm s p l dn i b h (by omega) hb
      · obtain ⟨h1, h2, h3, h4⟩ := h
        unfold wr
        repeat' split
        all_goals (first | (exfalso; omega) | exact ⟨h1, h2, h3, h4⟩ | exact ⟨by simp, by simp, (by simp), (by simp)⟩)
    rw [if_pos trivial, same_ok _ _ _ _ _ hw (by omega), Option.bind_some, if_pos rfl, if_pos trivial, sameBytes _ _ (by have := rdd_small s p h dn i; omega) (by omega), Option.bind_some]
    simp only [mapsheetslaw24_DeviceCalls.j0]
    rw [if_neg (by decide), new_ok n k (by omega), rnew_ok n k (by omega)]
    simp only [Option.bind_some]
    have hn : mapsheetsref24_Same.f k (nw n).1 (nw n).2.1 (nw n).2.2.1 (nw n).2.2.2.1 (nw n).1 (nw n).2.1 (nw n).2.2.1 (nw n).2.2.2.1 = some true := by
      unfold nw
      split
      · exact same_gen _ _ _ _ k (by simp) (by simp) (by simp) (by simp) (by omega)
      · exact same_gen _ _ _ _ k (by simp; omega) (by simp) (fun x hx => by rw [(List.mem_replicate.1 hx).2]; simp) (by simp) (by omega)
    rw [if_pos trivial, hn, Option.bind_some, if_pos rfl, awake_ok, Option.bind_some]
  · rw [if_neg e]; rfl
end Go.Proofs.Ytjicigagejihhaa.Dev
namespace Go.Proofs.Ytjicigagejihhaa.Pure
open Go.RowKit Go.Proofs.Ytjicigagejihhaa.PA Go.Proofs.YtjicigagejihhaaW.PrintWords Go.Proofs.YtjicigagejihhaaW.PrintLast Go.Proofs.YtjicigagejihhaaW.PrintMore
theorem i64_le {n : Int} (h : (Lit.int .i64 n).wf = true) : n ≤ 9223372036854775807 := by
  have h1 : -9223372036854775808 ≤ n ∧ n ≤ 9223372036854775807 := by simpa [Lit.wf, IntKind.min, IntKind.max, IntKind.signed, IntKind.bits] using h
  exact h1.2
theorem DeviceCalls : ∀ (x0 : S25) (x1 : Int) (x2 : Int) (x3 : List Int), PA.wfT25 x0 → PA.wfT3 x1 → PA.wfT3 x2 → PA.wfT26 x3 → ∃ k, PA.mapsheetslaw24_DeviceCalls.f k x0.f0 x0.f1 x0.f2 x0.f3 x1 x2 x3 = some true := by
  intro x0 x1 x2 x3 h0 _ _ _
  exact Dev.calls_law x0.f0 x0.f1 x0.f2 x0.f3 x1 x2 x3 (i64_le h0.2.2.1)
end Go.Proofs.Ytjicigagejihhaa.Pure
