/- After a crash each sector has its previous durable content, or the data of the last one of its writes that survive, for every device of at most 100 sectors and pending writes and at most 200 elements of keep. -/
import Derived.Test.YtjicigagejihhaaRd
import Derived.Test.YtjicigagejihhaaDevRefB
import Derived.Test.YtjicigagejihhaaPAx33
namespace Go.Proofs.Ytjicigagejihhaa.Dev
open Go.RowKit Go.Proofs.Ytjicigagejihhaa.PA Go.Proofs.YtjicigagejihhaaW.PrintWords Go.Proofs.YtjicigagejihhaaW.PrintLast Go.Proofs.YtjicigagejihhaaW.PrintMore Go.Proofs.Ytjicigagejihhaa.DevB
theorem surv_l1 (s : List (List Int)) (p : List S53) (h : Sm s p) (l : Int) (dn : Bool) (ws : List S53) (hw : ws.length ≤ 1000) (i : Nat) (hi : i < s.length) (k : Nat) (hk : 6000 < k)
    (K : ∀ w ∈ ws, w.f1.length ≤ 200) (hs : Sm (dur s ws) []) : ∀ (d j : Nat) (b : List Int), ws.length - j = d → j ≤ ws.length → (ws.drop j).foldl (fun b w => if w.f0 = (i : Int) then w.f1 else b) b = content s (i : Int) ws →
    mapsheetslaw24_DeviceSurvives.l1 (k + d + 1) ws (i : Int) b (j : Int) s p l dn (dur s ws) [] (-1) false = mapsheetslaw24_DeviceSurvives.l0 k ws ((i + 1 : Nat) : Int) s p l dn (dur s ws) [] (-1) false := by
  intro d
  induction d with
  | zero =>
    intro j b hd hj hb
    obtain rfl : j = ws.length := by omega
    rw [List.drop_length] at hb
    have hb : b = content s (i : Int) ws := hb
    have hr : rdd (dur s ws) [] false (i : Int) = (b, 0) := by
      have hf : ¬ (false = true) := by decide
      unfold rdd
      rw [if_neg hf, if_pos ⟨by omega, by rw [dur_len]; omega⟩, hb]
      congr 1
      show (dur s ws).getD (Int.toNat (i : Int)) [] = _
      rw [Int.toNat_natCast, dur_at s ws i hi]
    have hbl : b.length ≤ 200 := by rw [hb]; exact content_small s _ ws h.2.2.1 K
    rw [mapsheetslaw24_DeviceSurvives.l1, if_neg (by omega), read_ok _ _ hs (-1) false (i : Int) _ (by omega), hr, Option.bind_some]
    dsimp only
    rw [if_pos rfl, sameBytes b _ (by omega) (by omega), Option.bind_some, if_pos rfl, w1 i (by have := h.1; omega)]
  | succ d ih =>
    intro j b hd hj hb
    have e : k + (d + 1) + 1 = (k + d + 1) + 1 := by omega
    rw [List.drop_eq_getElem_cons (show j < ws.length by omega), List.foldl_cons] at hb
    rw [e, mapsheetslaw24_DeviceSurvives.l1, if_pos (by omega), if_pos (by omega), rdT_at ws j (by omega), w1 j (by omega)]
    by_cases hc : ws[j].f0 = (i : Int)
    · rw [if_pos hc] at hb ⊢
      exact ih (j + 1) _ (by omega) (by omega) hb
    · rw [if_neg hc] at hb ⊢
      exact ih (j + 1) _ (by omega) (by omega) hb
theorem surv_l0 (s : List (List Int)) (p : List S53) (h : Sm s p) (l : Int) (dn : Bool) (ws : List S53) (hw : ws.length ≤ 1000) (K : ∀ w ∈ ws, w.f1.length ≤ 200) (hs : Sm (dur s ws) []) : ∀ (d k i : Nat), s.length - i = d → i ≤ s.length → d * 1002 + 10000 < k →
    mapsheetslaw24_DeviceSurvives.l0 k ws (i : Int) s p l dn (dur s ws) [] (-1) false = some true := by
  intro d
  induction d with
  | zero =>
    intro k i hd hi hk
    obtain ⟨k, rfl⟩ : ∃ m, k = m + 1 := ⟨k - 1, by omega⟩
    rw [mapsheetslaw24_DeviceSurvives.l0, if_neg (by omega), awake_ok]; rfl
  | succ d ih =>
    intro k i hd hi hk
    rw [Nat.succ_mul] at hk
    generalize hq : d * 1002 = q at hk ih
    obtain ⟨k, rfl⟩ : ∃ m, k = m + ws.length + 1 + 1 := ⟨k - 2 - ws.length, by omega⟩
    have h1 := surv_l1 s p h l dn ws hw i (by omega) k (by omega) K hs ws.length 0 (s.getD i []) (by omega) (by omega) (by rw [List.drop_zero]; unfold content; rw [Int.toNat_natCast])
    have h2 : mapsheetslaw24_DeviceSurvives.l1 (k + ws.length + 1) ws (i : Int) (rd_L1 s (i : Int)) 0 s p l dn (dur s ws) [] (-1) false = _ := h1
    rw [mapsheetslaw24_DeviceSurvives.l0, if_pos (by omega), if_pos (by omega), h2]
    exact ih k (i + 1) (by omega) (by omega) (by omega)
theorem survives_law (s : List (List Int)) (p : List S53) (l : Int) (dn : Bool) (keep : List Int) : ∃ k, mapsheetslaw24_DeviceSurvives.f k s p l dn keep = some true := by
  obtain ⟨k, hk⟩ : ∃ k : Nat, 3000000 < k := ⟨3000001, by omega⟩
  refine ⟨k + 1 + 1, ?_⟩
  unfold mapsheetslaw24_DeviceSurvives.f
  obtain ⟨t, ht, h2⟩ := few_ok s p l dn (k + 1 + 1) (by omega)
  rw [ht, Option.bind_some]
  by_cases e : t = true
  · have hf := h2 e
    have h := hf.sm
    rw [if_pos e]
    simp only [mapsheetslaw24_DeviceSurvives.j0]
    by_cases hkp : (keep.length : Int) > 200
    · rw [if_pos (by simpa using hkp), awake_ok]; rfl
    · have hw : (kept (fun i => keep.contains i) 0 p).length ≤ 1000 := Nat.le_trans (kept_len _ _ _) h.2.1
      have K : ∀ w ∈ kept (fun i => keep.contains i) 0 p, w.f1.length ≤ 200 := fun w hw => h.2.2.2 w (kept_mem _ _ _ _ hw)
      have hs : Sm (dur s (kept (fun i => keep.contains i) 0 p)) [] := dur_sm s p _ h K
      rw [if_neg (by simpa using hkp), crash_ok s p h l dn keep _ (by omega), Option.bind_some, Kept_ok p h.2.1 keep (by omega) _ (by omega), Option.bind_some]
      dsimp only
      rw [dur_len, if_pos rfl, if_neg (by simp), if_neg (by decide)]
      simp only [mapsheetslaw24_DeviceSurvives.j1]
      rw [if_neg (by decide)]
      refine surv_l0 s p h l dn _ hw K hs s.length k 0 (by omega) (by omega) ?_
      have h3 : s.length * 1002 ≤ 100200 := Nat.mul_le_mul_right 1002 hf.1
      generalize s.length * 1002 = q at h3 ⊢
      clear hf h h2 hw K hs
      omega
  · rw [if_neg e]
    simp only [mapsheetslaw24_DeviceSurvives.j0]
    rw [if_pos trivial, awake_ok]; rfl
end Go.Proofs.Ytjicigagejihhaa.Dev
namespace Go.Proofs.Ytjicigagejihhaa.Pure
open Go.RowKit Go.Proofs.Ytjicigagejihhaa.PA Go.Proofs.YtjicigagejihhaaW.PrintWords Go.Proofs.YtjicigagejihhaaW.PrintLast Go.Proofs.YtjicigagejihhaaW.PrintMore
theorem DeviceSurvives : ∀ (x0 : S25) (x1 : List Int), PA.wfT25 x0 → PA.wfT38 x1 → ∃ k, PA.mapsheetslaw24_DeviceSurvives.f k x0.f0 x0.f1 x0.f2 x0.f3 x1 = some true := by
  intro x0 x1 _ _
  exact Dev.survives_law x0.f0 x0.f1 x0.f2 x0.f3 x1
end Go.Proofs.Ytjicigagejihhaa.Pure
