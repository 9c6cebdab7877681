/- What was written is read back, and every other content is the same, for every device of at most 100 sectors and pending writes. -/
import Derived.Test.YtjicigagejihhaaRd
import Derived.Test.YtjicigagejihhaaDevFew
import Derived.Test.YtjicigagejihhaaDevSame
import Derived.Test.YtjicigagejihhaaPAx27
namespace Go.Proofs.Ytjicigagejihhaa.Dev
open Go.RowKit Go.Proofs.Ytjicigagejihhaa.PA Go.Proofs.YtjicigagejihhaaW.PrintWords Go.Proofs.YtjicigagejihhaaW.PrintLast Go.Proofs.YtjicigagejihhaaW.PrintMore
theorem content_other (s : List (List Int)) (p : List S53) (i j : Int) (b : List Int) (h : i ≠ j) : content s j (p ++ [⟨i, b⟩]) = content s j p := by
  unfold content
  rw [List.foldl_append, List.foldl_cons, List.foldl_nil, if_neg h]

theorem content_same (s : List (List Int)) (p : List S53) (i : Int) (b : List Int) : content s i (p ++ [⟨i, b⟩]) = b := by
  unfold content
  rw [List.foldl_append, List.foldl_cons, List.foldl_nil, if_pos rfl]

theorem readsback_law (s : List (List Int)) (p : List S53) (l : Int) (dn : Bool) (i : Int) (b : List Int) (hl : l ≤ 9223372036854775807) : ∃ k, mapsheetslaw24_DeviceReadsBack.f k s p l dn i b = some true := by
  obtain ⟨k, hk⟩ : ∃ k : Nat, 10000 < k := ⟨10001, by omega⟩
  refine ⟨k, ?_⟩
  unfold mapsheetslaw24_DeviceReadsBack.f
  obtain ⟨t, ht, h2⟩ := few_ok s p l dn k (by omega)
  rw [ht, Option.bind_some, awake_ok]
  by_cases e : t = true
  · have hf := h2 e
    have h := hf.sm
    have hp := hf.2.1
    rw [if_pos e, write_ok s p h l hl dn i b _ (by omega)]
    simp only [Option.bind_some]
    by_cases hd : dn = true
    · have hw : wr s p l dn i b = (s, p, l, dn, 23) := by unfold wr; rw [if_pos hd]
      rw [hw]
      simp only []
      rw [if_neg (by decide), if_pos trivial, if_pos hd, sameSectors s k (by have := h.1; omega) (fun x hx => by have := h.2.2.1 x hx; omega) (by omega), Option.bind_some, if_pos rfl]
    · by_cases hi : 0 ≤ i ∧ i < (s.length : Int)
      · by_cases hb : b.length = 64
        · by_cases hl0 : l = 0
          · have hw : wr s p l dn i b = (s, p ++ [⟨i, b⟩], l, true, 23) := by unfold wr; rw [if_neg hd, if_pos hi, if_pos hb, if_pos hl0]
            rw [hw]
            simp only []
            rw [if_neg (by decide), if_pos trivial, if_pos trivial, sameSectors s k (by have := h.1; omega) (fun x hx => by have := h.2.2.1 x hx; omega) (by omega), Option.bind_some, if_pos rfl]
          · obtain ⟨l', hw⟩ : ∃ l', wr s p l dn i b = (s, p ++ [⟨i, b⟩], l', dn, 0) := by
              unfold wr; rw [if_neg hd, if_pos hi, if_pos hb, if_neg hl0]
              split
              · exact ⟨_, rfl⟩
              · exact ⟨_, rfl⟩
            have hsm : Sm s (p ++ [⟨i, b⟩]) := by
              have := wr_sm s p l dn i b h (by omega) (by omega)
              rw [hw] at this; exact this
            rw [hw]
            simp only []
            rw [if_pos trivial, read_ok s _ hsm l' dn i k (by omega)]
            have hr : rdd s (p ++ [⟨i, b⟩]) dn i = (b, 0) := by unfold rdd; rw [if_neg hd, if_pos hi, content_same]
            rw [hr]
            simp only [Option.bind_some]
            rw [if_pos trivial, sameBytes b k (by omega) (by omega), Option.bind_some, if_pos rfl, lsame_ok s s p _ h hsm l l' dn dn i rfl (fun j hj hne => by
              unfold rdd
              rw [if_neg hd, if_neg hd, if_pos ⟨by omega, by omega⟩, content_other s p i j b (Ne.symm hne), if_pos ⟨by omega, by omega⟩]) k (by omega), Option.bind_some, if_pos rfl, if_pos (by rw [List.length_append, List.length_singleton, w1 _ (by omega)])]
        · have hw : wr s p l dn i b = ([], [], 0, false, 1) := by unfold wr; rw [if_neg hd, if_pos hi, if_neg hb]
          rw [hw]
          simp only []
          rw [if_neg (by decide), if_neg (by decide), same_ok [] [] 0 false k ⟨by simp, by simp, (by simp), (by simp)⟩ (by omega), Option.bind_some, if_pos rfl]
      · have hw : wr s p l dn i b = ([], [], 0, false, 2) := by unfold wr; rw [if_neg hd, if_neg hi]
        rw [hw]
        simp only []
        rw [if_neg (by decide), if_neg (by decide), same_ok [] [] 0 false k ⟨by simp, by simp, (by simp), (by simp)⟩ (by omega), Option.bind_some, if_pos rfl]
  · rw [if_neg e]; rfl
end Go.Proofs.Ytjicigagejihhaa.Dev
namespace Go.Proofs.Ytjicigagejihhaa.Pure
open Go.RowKit Go.Proofs.Ytjicigagejihhaa.PA Go.Proofs.YtjicigagejihhaaW.PrintWords Go.Proofs.YtjicigagejihhaaW.PrintLast Go.Proofs.YtjicigagejihhaaW.PrintMore
theorem i64_le {n : Int} (h : (Lit.int .i64 n).wf = true) : n ≤ 9223372036854775807 := by
  have h1 : -9223372036854775808 ≤ n ∧ n ≤ 9223372036854775807 := by simpa [Lit.wf, IntKind.min, IntKind.max, IntKind.signed, IntKind.bits] using h
  exact h1.2
theorem DeviceReadsBack : ∀ (x0 : S25) (x1 : Int) (x2 : List Int), PA.wfT25 x0 → PA.wfT3 x1 → PA.wfT26 x2 → ∃ k, PA.mapsheetslaw24_DeviceReadsBack.f k x0.f0 x0.f1 x0.f2 x0.f3 x1 x2 = some true := by
  intro x0 x1 x2 h0 _ _
  exact Dev.readsback_law x0.f0 x0.f1 x0.f2 x0.f3 x1 x2 (i64_le h0.2.2.1)
end Go.Proofs.Ytjicigagejihhaa.Pure
