/- The reference's reading of integers is the same plain function. -/
import Derived.Test.YtaappifdpbgchaaVarint
import Derived.Test.YtaappifdpbgchaaPAx14
namespace Go.Proofs.Ytaappifdpbgchaa.Wire
set_option linter.unusedVariables false
set_option linter.unusedSimpArgs false
open Go.RowKit Go.Proofs.YtaappifdpbgchaaW.PrintWords Go.Proofs.YtaappifdpbgchaaW.PrintLast Go.Proofs.YtaappifdpbgchaaW.PrintMore Go.Proofs.Ytaappifdpbgchaa.PA

def lowv (l : List Int) : Nat → Int
  | 0 => 0
  | j + 1 => lowv l j + (rd l (j : Int) % 128) * 128 ^ j
theorem lowv_bound (l : List Int) (j : Nat) : 0 ≤ lowv l j ∧ lowv l j < 128 ^ j := by
  induction j with
  | zero => exact ⟨by simp [lowv], by simp [lowv]⟩
  | succ j ih =>
    have hp := pow_pos128 j
    have hps : (128 : Int) ^ (j + 1) = 128 * 128 ^ j := pow7 j
    have h0 : 0 ≤ (rd l (j : Int) % 128) * 128 ^ j := Int.mul_nonneg (by omega) (by omega)
    have h1 : (rd l (j : Int) % 128) * 128 ^ j ≤ 127 * 128 ^ j := Int.mul_le_mul_of_nonneg_right (by omega) (by omega)
    simp only [lowv]
    omega

theorem ref_l1 (l : List Int) (hb : Bytes l) (i : Nat) (hi : i < 10) : ∀ (j : Nat) (k : Nat) (u : Int), j ≤ l.length → j ≤ 10 → j < k → 0 ≤ u → u * 128 ^ j + lowv l j < 18446744073709551616 →
    mapsheetsref02_Int.l1 k l (i : Int) u ((j : Int) - 1) = some (unzz (u * 128 ^ j + lowv l j), (i : Int) + 1, 0) := by
  intro j
  induction j with
  | zero =>
    intro k u hj hj10 hk hu hs
    obtain ⟨k, rfl⟩ : ∃ m, k = m + 1 := ⟨k - 1, by omega⟩
    simp only [lowv] at hs ⊢
    simp only [mapsheetsref02_Int.l1]
    rw [if_neg (by omega)]
    have hu1 : u < 18446744073709551616 := by simpa using hs
    have e : u * 128 ^ 0 + 0 = u := by simp
    rw [e]
    have h2 : Int.tmod u 2 = u % 2 := Int.tmod_eq_emod_of_nonneg hu
    have h3 : Int.tdiv u 2 = u / 2 := Int.tdiv_eq_ediv_of_nonneg hu
    have hw1 : wrap64 ((i : Int) + 1) = (i : Int) + 1 := w64 _ (by omega) (by omega)
    rw [h2, h3, u64in (u / 2) (by omega) (by omega), hw1, w64 (u / 2) (by omega) (by omega)]
    unfold unzz
    by_cases h : u % 2 = 0
    · rw [if_pos h, if_pos h]
    · rw [if_neg h, if_neg h, w64 (-(u / 2)) (by omega) (by omega), w64 _ (by omega) (by omega)]
  | succ j ih =>
    intro k u hj hj10 hk hu hs
    obtain ⟨k, rfl⟩ : ∃ m, k = m + 1 := ⟨k - 1, by omega⟩
    have hx : 0 ≤ rd l (j : Int) ∧ rd l (j : Int) ≤ 255 := by
      have hl : j < l.length := by omega
      have : rd l (j : Int) = l[j] := by unfold rd; rw [Int.toNat_natCast, List.getD_eq_getElem?_getD, List.getElem?_eq_getElem hl]; rfl
      rw [this]
      exact hb _ (List.getElem_mem hl)
    have hp := pow_pos128 j
    have hps : (128 : Int) ^ (j + 1) = 128 * 128 ^ j := pow7 j
    have hlb := lowv_bound l j
    simp only [mapsheetsref02_Int.l1]
    have hj1 : (((j + 1 : Nat) : Int) - 1) = (j : Int) := by omega
    rw [hj1, if_pos (by omega), if_pos (by omega), if_pos (by omega)]
    have h2 : Int.tmod (rd l (j : Int)) 128 = rd l (j : Int) % 128 := Int.tmod_eq_emod_of_nonneg hx.1
    simp only [lowv] at hs ⊢
    have key : u * 128 ^ (j + 1) = (u * 128) * 128 ^ j := by rw [hps, Int.mul_assoc]
    have key2 : (u * 128 + rd l (j : Int) % 128) * 128 ^ j = (u * 128) * 128 ^ j + (rd l (j : Int) % 128) * 128 ^ j := Int.add_mul _ _ _
    have h0 : 0 ≤ (rd l (j : Int) % 128) * 128 ^ j := Int.mul_nonneg (by omega) (by omega)
    have hge : (u * 128 + rd l (j : Int) % 128) * 1 ≤ (u * 128 + rd l (j : Int) % 128) * 128 ^ j := Int.mul_le_mul_of_nonneg_left (by omega) (by omega)
    rw [h2, u64in (u * 128) (by omega) (by omega), u64in (rd l (j : Int) % 128) (by omega) (by omega), u64in _ (by omega) (by omega), w64 _ (by omega) (by omega)]
    rw [ih k (u * 128 + rd l (j : Int) % 128) (by omega) (by omega) (by omega) (by omega) (by omega)]
    have : (u * 128 + rd l (j : Int) % 128) * 128 ^ j + lowv l j = u * 128 ^ (j + 1) + (lowv l j + rd l (j : Int) % 128 * 128 ^ j) := by omega
    rw [this]

theorem ref_j2 (l : List Int) (hb : Bytes l) (i : Nat) (k : Nat) (hi : i < l.length) (h10 : i < 10) (hx : rd l (i : Int) < 128) (h9 : ¬ (i = 9 ∧ 1 < rd l (i : Int))) (hk : i + 3 < k) :
    mapsheetsref02_Int.j2 k l (i : Int) false = some (unzz (lowv l i + rd l (i : Int) * 128 ^ i), (i : Int) + 1, 0) := by
  obtain ⟨k, rfl⟩ : ∃ m, k = m + 1 := ⟨k - 1, by omega⟩
  have hx0 : 0 ≤ rd l (i : Int) := by
    have : rd l (i : Int) = l[i] := by unfold rd; rw [Int.toNat_natCast, List.getD_eq_getElem?_getD, List.getElem?_eq_getElem hi]; rfl
    rw [this]
    exact (hb _ (List.getElem_mem hi)).1
  have hp := pow_pos128 i
  have hps : (128 : Int) ^ (i + 1) = 128 * 128 ^ i := pow7 i
  have hlb := lowv_bound l i
  have hm : rd l (i : Int) % 128 = rd l (i : Int) := by omega
  have hval : rd l (i : Int) * 128 ^ i + lowv l i < 18446744073709551616 := by
    by_cases hi9 : i = 9
    · have hx1 : rd l (i : Int) ≤ 1 := by omega
      have hm : rd l (i : Int) * 128 ^ i ≤ 1 * 128 ^ i := Int.mul_le_mul_of_nonneg_right hx1 (by omega)
      have h63 : (128 : Int) ^ i = 9223372036854775808 := by rw [hi9]; decide
      omega
    · have hm : rd l (i : Int) * 128 ^ i ≤ 127 * 128 ^ i := Int.mul_le_mul_of_nonneg_right (by omega) (by omega)
      have h128 : (128 : Int) ^ (i + 1) ≤ 128 ^ 9 := by
        rw [pow128, pow128]
        exact_mod_cast Nat.pow_le_pow_right (by decide) (by omega)
      have h63 : (128 : Int) ^ 9 = 9223372036854775808 := by decide
      omega
  have := ref_l1 l hb i h10 (i + 1) k 0 (by omega) (by omega) (by omega) (by omega) (by simp only [lowv]; rw [hm]; omega)
  have e : (((i + 1 : Nat) : Int) - 1) = (i : Int) := by omega
  rw [e] at this
  simp only [mapsheetsref02_Int.j2]
  rw [if_neg (by simp), this]
  simp only [lowv]
  rw [hm, Int.zero_mul, Int.zero_add]

theorem ref_scan (l : List Int) (hb : Bytes l) : ∀ (s : List Int) (i : Nat) (k : Nat), l.drop i = s → i ≤ l.length → i ≤ 10 → s.length + 20 < k →
    mapsheetsref02_Int.l0 k l (i : Int) = some (vdec s i (lowv l i)) := by
  intro s
  induction s with
  | nil =>
    intro i k hd hi h10 hk
    obtain ⟨k, rfl⟩ : ∃ m, k = m + 1 := ⟨k - 1, by omega⟩
    obtain ⟨k, rfl⟩ : ∃ m, k = m + 1 := ⟨k - 1, by omega⟩
    have := drop_nil hd hi
    simp only [mapsheetsref02_Int.l0, mapsheetsref02_Int.j1, vdec]
    rw [if_neg (by omega)]
    by_cases h : 10 ≤ i
    · rw [if_pos (by omega), if_pos h]
    · rw [if_neg (by omega), if_neg h, if_pos (by omega)]
  | cons x s ih =>
    intro i k hd hi h10 hk
    simp only [List.length_cons] at hk
    obtain ⟨k, rfl⟩ : ∃ m, k = m + 1 := ⟨k - 1, by omega⟩
    obtain ⟨h1, h2, h3⟩ := rd_drop hd
    have hx : 0 ≤ x ∧ x ≤ 255 := hb x (by rw [← List.take_append_drop i l, hd]; simp)
    simp only [mapsheetsref02_Int.l0, vdec]
    rw [if_pos (by omega)]
    by_cases e10 : i = 10
    · obtain ⟨k, rfl⟩ : ∃ m, k = m + 1 := ⟨k - 1, by omega⟩
      rw [if_neg (by omega), if_pos e10]
      simp only [mapsheetsref02_Int.j1]
      rw [if_pos (by omega)]
    · rw [if_pos (by omega), if_pos (by omega), h1, if_neg e10]
      by_cases hx8 : x ≥ 128
      · have hwi : wrap64 ((i : Int) + 1) = ((i + 1 : Nat) : Int) := by rw [w64 _ (by omega) (by omega)]; omega
        rw [if_pos hx8, if_pos (by omega), hwi, ih (i + 1) k h3 (by omega) (by omega) (by omega)]
        simp only [lowv]
        rw [h1, show x % 128 = x - 128 by omega]
      · rw [if_neg hx8, if_neg (show ¬ 128 ≤ x by omega)]
        obtain ⟨k, rfl⟩ : ∃ m, k = m + 1 := ⟨k - 1, by omega⟩
        obtain ⟨k', hk'⟩ : ∃ m, k = m + 1 := ⟨k - 1, by omega⟩
        have hf : ¬ (i = 9 ∧ 1 < x) → mapsheetsref02_Int.j2 k l (i : Int) false = some (unzz (lowv l i + x * 128 ^ i), (i : Int) + 1, 0) := by
          intro h
          have := ref_j2 l hb i k h2 (by omega) (by rw [h1]; omega) (by rw [h1]; exact h) (by omega)
          rw [h1] at this
          exact this
        have ht : mapsheetsref02_Int.j2 k l (i : Int) true = some (0, 0, 4) := by
          rw [hk']
          simp only [mapsheetsref02_Int.j2]
          rw [if_pos trivial]
        simp only [mapsheetsref02_Int.j1]
        rw [if_neg (by omega), if_neg (by omega), h1]
        by_cases hc : (0 < i ∧ x = 0) ∨ (i = 9 ∧ 1 < x)
        · rw [if_pos hc]
          have hi0 : 0 < i := by omega
          rw [if_pos (by omega), if_pos (by omega), if_pos (by omega)]
          by_cases hx0 : x = 0
          · rw [if_pos hx0, ht]
          · have h9 : i = 9 ∧ 1 < x := by omega
            rw [if_neg hx0, if_pos (by omega), decide_eq_true (show x > 1 from h9.2), ht]
        · rw [if_neg hc]
          have hc9 : ¬ (i = 9 ∧ 1 < x) := fun h => hc (.inr h)
          by_cases hi0 : 0 < i
          · rw [if_pos (by omega), if_pos (by omega), if_pos (by omega), if_neg (fun h => hc (.inl ⟨hi0, h⟩))]
            by_cases hi9 : i = 9
            · rw [if_pos (by omega), decide_eq_false (show ¬ x > 1 by omega), hf hc9]
            · rw [if_neg (by omega), hf hc9]
          · rw [if_neg (by omega), if_neg (by omega), hf hc9]

theorem ref_Int_is (l : List Int) (hb : Bytes l) (k : Nat) (hk : l.length + 20 < k) : mapsheetsref02_Int.f k l = some (vdec l 0 0) := by
  unfold mapsheetsref02_Int.f
  have := ref_scan l hb l 0 k rfl (by omega) (by omega) hk
  simpa [lowv] using this
end Go.Proofs.Ytaappifdpbgchaa.Wire
