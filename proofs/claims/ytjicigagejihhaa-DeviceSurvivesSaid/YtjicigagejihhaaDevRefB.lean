/- What the reference's Flush and Crash of the device answer. -/
import Derived.Test.YtjicigagejihhaaDevFew
import Derived.Test.YtjicigagejihhaaPAx0
import Derived.Test.YtjicigagejihhaaPAx15
import Derived.Test.YtjicigagejihhaaPAx16
import Derived.Test.YtjicigagejihhaaPAx21
import Derived.Test.YtjicigagejihhaaPAx22
import Derived.Test.YtjicigagejihhaaPAx23
import Derived.Test.YtjicigagejihhaaPAx24
namespace Go.Proofs.Ytjicigagejihhaa.DevB
open Go.RowKit Go.Proofs.Ytjicigagejihhaa.PA Go.Proofs.YtjicigagejihhaaW.PrintWords Go.Proofs.YtjicigagejihhaaW.PrintLast Go.Proofs.YtjicigagejihhaaW.PrintMore Go.Proofs.Ytjicigagejihhaa.Dev
theorem rown_ok (b : List Int) (h : b.length ≤ 1000) : mapsheetsref24_own.f b = some b := by
  unfold mapsheetsref24_own.f
  simp only [Option.bind_some, List.nil_append, List.length_nil]
  rw [if_pos (by omega)]

theorem content_l0 (ws : List S53) (hn : ws.length ≤ 1000) (hx : ∀ w ∈ ws, w.f1.length ≤ 200) (i : Int) : ∀ (d k j : Nat) (b : List Int), ws.length - j = d → j ≤ ws.length → d < k → b.length ≤ 200 → mapsheetsref24_content.l0 k i ws b (j : Int) = some ((ws.drop j).foldl (fun b w => if w.f0 = i then w.f1 else b) b) := by
  intro d
  induction d with
  | zero =>
    intro k j b hd hi hk hb
    obtain ⟨k, rfl⟩ : ∃ m, k = m + 1 := ⟨k - 1, by omega⟩
    simp only [mapsheetsref24_content.l0]; rw [if_neg (by omega), rown_ok b (by omega), List.drop_of_length_le (by omega)]; rfl
  | succ d ih =>
    intro k j b hd hi hk hb
    obtain ⟨k, rfl⟩ : ∃ m, k = m + 1 := ⟨k - 1, by omega⟩
    simp only [mapsheetsref24_content.l0]; rw [if_pos (by omega), if_pos (by omega), rdT_at ws j (by omega), w1 j (by omega), List.drop_eq_getElem_cons (show j < ws.length by omega), List.foldl_cons]
    by_cases hc : ws[j].f0 = i
    · rw [if_pos hc, if_pos hc]
      exact ih k (j + 1) _ (by omega) (by omega) (by omega) (hx _ (List.getElem_mem _))
    · rw [if_neg hc, if_neg hc]
      exact ih k (j + 1) _ (by omega) (by omega) (by omega) hb

theorem rcontent_ok (s : List (List Int)) (hs : ∀ x ∈ s, x.length ≤ 200) (p : List S53) (l : Int) (dn : Bool) (ws : List S53) (hn : ws.length ≤ 1000) (hx : ∀ w ∈ ws, w.f1.length ≤ 200) (i : Int) (h0 : 0 ≤ i) (hi : i < (s.length : Int)) (k : Nat) (hk : 1000 < k) : mapsheetsref24_content.f k s p l dn i ws = some (content s i ws) := by
  unfold mapsheetsref24_content.f
  rw [if_pos h0, if_pos hi]
  have := content_l0 ws hn hx i ws.length k 0 (s.getD i.toNat []) (by omega) (by omega) (by omega) (getD_small s hs _)
  rw [List.drop_zero] at this
  exact this

theorem durable_l0 (s : List (List Int)) (p : List S53) (h : Sm s p) (l : Int) (dn : Bool) (ws : List S53) (hn : ws.length ≤ 1000) (hx : ∀ w ∈ ws, w.f1.length ≤ 200) : ∀ (d k i : Nat), s.length - i = d → i ≤ s.length → d + 1001 < k → mapsheetsref24_durable.l0 k ws ((List.range i).map fun (j : Nat) => content s (j : Int) ws) (i : Int) s p l dn = some (dur s ws) := by
  obtain ⟨h1, h2, h3, h4⟩ := h
  intro d
  induction d with
  | zero =>
    intro k i hd hi hk
    obtain ⟨k, rfl⟩ : ∃ m, k = m + 1 := ⟨k - 1, by omega⟩
    obtain rfl : i = s.length := by omega
    simp only [mapsheetsref24_durable.l0]; rw [if_neg (by omega)]; rfl
  | succ d ih =>
    intro k i hd hi hk
    obtain ⟨k, rfl⟩ : ∃ m, k = m + 1 := ⟨k - 1, by omega⟩
    simp only [mapsheetsref24_durable.l0]; rw [if_pos (by omega), rcontent_ok s h3 p l dn ws hn hx (i : Int) (by omega) (by omega) k (by omega), Option.bind_some, if_pos (by simp; omega), w1 i (by omega)]
    have := ih k (i + 1) (by omega) (by omega) (by omega)
    rw [List.range_succ, List.map_append] at this
    exact this

theorem durable_ok (s : List (List Int)) (p : List S53) (h : Sm s p) (l : Int) (dn : Bool) (ws : List S53) (hn : ws.length ≤ 1000) (hx : ∀ w ∈ ws, w.f1.length ≤ 200) (k : Nat) (hk : 3000 < k) : mapsheetsref24_durable.f k s p l dn ws = some (dur s ws) := by
  unfold mapsheetsref24_durable.f
  have := durable_l0 s p h l dn ws hn hx s.length k 0 (by omega) (by omega) (by have := h.1; omega)
  exact this

theorem rflush_ok (s : List (List Int)) (p : List S53) (h : Sm s p) (l : Int) (dn : Bool) (k : Nat) (hk : 3000 < k) : mapsheetsref24_Flush.f k s p l dn = some (fl s p l dn) := by
  unfold mapsheetsref24_Flush.f fl
  rw [durable_ok s p h l dn p h.2.1 h.2.2.2 k hk]
  by_cases e : dn = true
  · rw [if_pos e, if_pos e]
  · rw [if_neg e, if_neg e]; rfl

theorem Kept_l1 (ws : List S53) (keep : List Int) (hk0 : keep.length ≤ 1000) (o : List S53) (i : Int) : ∀ (d k j : Nat) (acc : Bool), keep.length - j = d → j ≤ keep.length → mapsheetsref24_Kept.l1 (k + d + 1) ws keep o i acc (j : Int) = mapsheetsref24_Kept.l1 (k + 1) ws keep o i (acc || (keep.drop j).contains i) (keep.length : Int) := by
  intro d
  induction d with
  | zero =>
    intro k j acc hd hi
    obtain rfl : j = keep.length := by omega
    rw [List.drop_length]; simp
  | succ d ih =>
    intro k j acc hd hi
    have e : k + (d + 1) + 1 = (k + d + 1) + 1 := by omega
    rw [e]
    rw [mapsheetsref24_Kept.l1, if_pos (by omega), w1 j (by omega), List.drop_eq_getElem_cons (show j < keep.length by omega)]
    by_cases ha : acc = true
    · rw [if_pos ha, ih k (j + 1) true (by omega) (by omega), ha]; simp
    · rw [if_neg ha, if_pos (by omega), ih k (j + 1) _ (by omega) (by omega), rd_at keep j (by omega)]
      have ea : acc = false := by simpa using ha
      rw [ea, List.contains_cons, Bool.false_or]
      congr 2
      by_cases q : keep[j] = i
      · rw [q]
      · rw [beq_eq_false_iff_ne.2 q, beq_eq_false_iff_ne.2 (fun h => q h.symm)]

theorem Kept_l0 (ws : List S53) (hw : ws.length ≤ 1000) (keep : List Int) (hk0 : keep.length ≤ 1000) : ∀ (d k i : Nat) (o : List S53), ws.length - i = d → i ≤ ws.length → d * 1002 < k → o.length ≤ i → mapsheetsref24_Kept.l0 k ws keep o (i : Int) = some (o ++ kept (fun i => keep.contains i) i (ws.drop i)) := by
  intro d
  induction d with
  | zero =>
    intro k i o hd hi hk ho
    obtain ⟨k, rfl⟩ : ∃ m, k = m + 1 := ⟨k - 1, by omega⟩
    rw [mapsheetsref24_Kept.l0, if_neg (by omega), List.drop_of_length_le (by omega)]; simp [kept]
  | succ d ih =>
    intro k i o hd hi hk ho
    obtain ⟨k, rfl⟩ : ∃ m, k = m + 1 + keep.length + 1 := ⟨k - 2 - keep.length, by omega⟩
    have hk3 : d * 1002 < k := by
      rw [Nat.succ_mul] at hk
      clear ih
      generalize d * 1002 = q at hk ⊢
      omega
    clear hk
    rw [mapsheetsref24_Kept.l0, if_pos (by omega)]
    have h1 := Kept_l1 ws keep hk0 o (i : Int) keep.length k 0 false (by omega) (by omega)
    have e : k + keep.length + 1 = k + 1 + keep.length := by omega
    rw [e] at h1
    have h2 : mapsheetsref24_Kept.l1 (k + 1 + keep.length) ws keep o (i : Int) false 0 = _ := h1
    rw [h2, mapsheetsref24_Kept.l1, if_neg (by omega), List.drop_zero, Bool.false_or, List.drop_eq_getElem_cons (show i < ws.length by omega), kept, w1 i (by omega)]
    by_cases hc : keep.contains (i : Int) = true
    · rw [if_pos hc, if_pos (by omega), if_pos (by omega), if_pos (by omega), rdT_at ws i (by omega), if_pos hc, ih k (i + 1) _ (by omega) (by omega) hk3 (by simp; omega)]
      simp
    · rw [if_neg hc, if_neg hc, ih k (i + 1) _ (by omega) (by omega) hk3 (by omega)]

theorem Kept_ok (ws : List S53) (hw : ws.length ≤ 1000) (keep : List Int) (hk0 : keep.length ≤ 1000) (k : Nat) (hk : 2000000 < k) : mapsheetsref24_Kept.f k ws keep = some (kept (fun i => keep.contains i) 0 ws) := by
  unfold mapsheetsref24_Kept.f
  have := Kept_l0 ws hw keep hk0 ws.length k 0 [] (by omega) (by omega) (by omega) (by simp)
  simpa using this

theorem rcrash_ok (s : List (List Int)) (p : List S53) (h : Sm s p) (l : Int) (dn : Bool) (keep : List Int) (hk0 : keep.length ≤ 1000) (k : Nat) (hk : 2000000 < k) : mapsheetsref24_Crash.f k s p l dn keep = some (dur s (kept (fun i => keep.contains i) 0 p), [], -1, false) := by
  unfold mapsheetsref24_Crash.f
  rw [Kept_ok p h.2.1 keep hk0 k hk, Option.bind_some, durable_ok s p h l dn _ (Nat.le_trans (kept_len _ _ _) h.2.1) (fun w hw => h.2.2.2 w (kept_mem _ _ _ _ hw)) k (by omega)]; rfl
end Go.Proofs.Ytjicigagejihhaa.DevB
