/- What the reference's Write, Read and New of the device answer. -/
import Derived.Test.YtjicigagejihhaaDevFew
import Derived.Test.YtjicigagejihhaaPAx0
import Derived.Test.YtjicigagejihhaaPAx15
import Derived.Test.YtjicigagejihhaaPAx16
import Derived.Test.YtjicigagejihhaaPAx19
namespace Go.Proofs.Ytjicigagejihhaa.Dev
open Go.RowKit Go.Proofs.Ytjicigagejihhaa.PA Go.Proofs.YtjicigagejihhaaW.PrintWords Go.Proofs.YtjicigagejihhaaW.PrintLast Go.Proofs.YtjicigagejihhaaW.PrintMore
theorem rown_ok (b : List Int) (h : b.length ≤ 1000) : mapsheetsref24_own.f b = some b := by
  unfold mapsheetsref24_own.f
  simp only [Option.bind_some, List.nil_append, List.length_nil]
  rw [if_pos (by omega)]

theorem rwrite_ok (s : List (List Int)) (p : List S53) (h : Sm s p) (l : Int) (hl : l ≤ 9223372036854775807) (dn : Bool) (i : Int) (b : List Int) : mapsheetsref24_Write.f s p l dn i b = some (wr s p l dn i b) := by
  unfold mapsheetsref24_Write.f wr mapsheetsref24_there.f
  by_cases e : dn = true
  · rw [if_pos e, if_pos e]
  rw [if_neg e, if_neg e]
  by_cases hi : 0 ≤ i ∧ i < (s.length : Int)
  · rw [if_pos (show i ≥ 0 from hi.1), if_pos hi]
    simp only [Option.bind_some]
    rw [if_pos (by simpa using hi.2)]
    by_cases hb : b.length = 64
    · rw [if_pos (by omega), if_pos hb, rown_ok b (by omega)]
      have := h.2.1
      simp only [Option.bind_some, List.nil_append, List.length_nil]
      rw [if_pos (by omega), if_pos (by omega)]
      by_cases h0 : l = 0
      · rw [if_pos h0, if_pos h0]
      · rw [if_neg h0, if_neg h0]
        by_cases h1 : l > 0
        · rw [if_pos h1, if_pos h1, show wrap64 (l - 1) = l - 1 by unfold wrap64; omega]
        · rw [if_neg h1, if_neg h1]
    · rw [if_neg (by omega), if_neg hb]
  · rw [if_neg hi]
    by_cases h0 : i ≥ 0
    · rw [if_pos h0]
      simp only [Option.bind_some]
      rw [if_neg (by simp; omega)]
    · rw [if_neg h0]
      simp only [Option.bind_some]
      rw [if_neg (by decide)]

theorem content_l0 (ws : List S53) (hn : ws.length ≤ 1000) (hx : ∀ w ∈ ws, w.f1.length ≤ 200) (i : Int) : ∀ (d k j : Nat) (b : List Int), ws.length - j = d → j ≤ ws.length → d < k → b.length ≤ 200 → mapsheetsref24_content.l0 k i ws b (j : Int) = some ((ws.drop j).foldl (fun b w => if w.f0 = i then w.f1 else b) b) := by
  intro d
  induction d with
  | zero =>
    intro k j b hd hi hk hb
    obtain ⟨k, rfl⟩ : ∃ m, k = m + 1 := ⟨k - 1, by omega⟩
    simp only [mapsheetsref24_content.l0]; rw [if_neg (by omega), rown_ok b (by omega), List.drop_of_length_le (by omega)]; rfl
  | succ d ih =>
    intro k j b hd hi hk hb
    obtain ⟨k, rfl⟩ : ∃ m, k = m + 1 := ⟨k - 1, by omega⟩
    simp only [mapsheetsref24_content.l0]; rw [if_pos (by omega), if_pos (by omega), rdT_at ws j (by omega), w1 j (by omega), List.drop_eq_getElem_cons (show j < ws.length by omega), List.foldl_cons]
    by_cases hc : ws[j].f0 = i
    · rw [if_pos hc, if_pos hc]
      exact ih k (j + 1) _ (by omega) (by omega) (by omega) (hx _ (List.getElem_mem _))
    · rw [if_neg hc, if_neg hc]
      exact ih k (j + 1) _ (by omega) (by omega) (by omega) hb

theorem rcontent_ok (s : List (List Int)) (hs : ∀ x ∈ s, x.length ≤ 200) (p : List S53) (l : Int) (dn : Bool) (ws : List S53) (hn : ws.length ≤ 1000) (hx : ∀ w ∈ ws, w.f1.length ≤ 200) (i : Int) (h0 : 0 ≤ i) (hi : i < (s.length : Int)) (k : Nat) (hk : 1000 < k) : mapsheetsref24_content.f k s p l dn i ws = some (content s i ws) := by
  unfold mapsheetsref24_content.f
  rw [if_pos h0, if_pos hi]
  have := content_l0 ws hn hx i ws.length k 0 (s.getD i.toNat []) (by omega) (by omega) (by omega) (getD_small s hs _)
  rw [List.drop_zero] at this
  exact this

theorem rread_ok (s : List (List Int)) (p : List S53) (h : Sm s p) (l : Int) (dn : Bool) (i : Int) (k : Nat) (hk : 3000 < k) : mapsheetsref24_Read.f k s p l dn i = some (rdd s p dn i) := by
  unfold mapsheetsref24_Read.f rdd mapsheetsref24_there.f
  by_cases e : dn = true
  · rw [if_pos e, if_pos e]
  rw [if_neg e, if_neg e]
  by_cases hi : 0 ≤ i ∧ i < (s.length : Int)
  · rw [if_pos (show i ≥ 0 from hi.1), if_pos hi]
    simp only [Option.bind_some]
    rw [if_pos (by simpa using hi.2), rcontent_ok s h.2.2.1 p l dn p h.2.1 h.2.2.2 i hi.1 hi.2 k (by omega)]
    rfl
  · rw [if_neg hi]
    by_cases h0 : i ≥ 0
    · rw [if_pos h0]
      simp only [Option.bind_some]
      rw [if_neg (by simp; omega)]
    · rw [if_neg h0]
      simp only [Option.bind_some]
      rw [if_neg (by decide)]

theorem rnew_l0 (n : Nat) (hn : n ≤ 4096) (dn : Bool) : ∀ (d k i : Nat), n - i = d → i ≤ n → d < k → mapsheetsref24_New.l0 k (n : Int) (i : Int) (List.replicate i (List.replicate 64 0)) (-1) dn = some (List.replicate n (List.replicate 64 0), [], -1, dn, 0) := by
  intro d
  induction d with
  | zero =>
    intro k i hd hi hk
    obtain ⟨k, rfl⟩ : ∃ m, k = m + 1 := ⟨k - 1, by omega⟩
    obtain rfl : i = n := by omega
    simp only [mapsheetsref24_New.l0]; rw [if_neg (by omega)]
  | succ d ih =>
    intro k i hd hi hk
    obtain ⟨k, rfl⟩ : ∃ m, k = m + 1 := ⟨k - 1, by omega⟩
    simp only [mapsheetsref24_New.l0]; rw [if_pos (by omega), if_pos (by decide), if_pos (by rw [List.length_replicate]; omega), w1 i (by omega), ← List.replicate_succ']
    exact ih k (i + 1) (by omega) (by omega) (by omega)

theorem rnew_ok (n : Int) (k : Nat) (hk : 5000 < k) : mapsheetsref24_New.f k n = some (nw n) := by
  obtain ⟨k, rfl⟩ : ∃ m, k = m + 1 := ⟨k - 1, by omega⟩
  unfold mapsheetsref24_New.f nw
  by_cases h1 : n < 1
  · rw [if_pos h1, if_pos (.inl h1)]; simp only [mapsheetsref24_New.j0]; rw [if_pos trivial]
  rw [if_neg h1]
  by_cases h2 : n > 4096
  · rw [if_pos (.inr h2)]; simp only [mapsheetsref24_New.j0]; rw [if_pos (by simpa using h2)]
  rw [if_neg (by omega)]
  simp only [mapsheetsref24_New.j0]; rw [if_neg (by simpa using h2)]
  obtain ⟨m, rfl⟩ := Int.eq_ofNat_of_zero_le (show 0 ≤ n by omega)
  exact rnew_l0 m (by omega) false m k 0 (by omega) (by omega) (by omega)
end Go.Proofs.Ytjicigagejihhaa.Dev
