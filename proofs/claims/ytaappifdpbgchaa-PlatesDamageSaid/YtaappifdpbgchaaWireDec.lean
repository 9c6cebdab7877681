/- What was written is read; a cut encoding is short; what was read is what is written. -/
import Derived.Test.YtaappifdpbgchaaWirePut
namespace Go.Proofs.Ytaappifdpbgchaa.Wire
set_option linter.unusedVariables false
set_option linter.unusedSimpArgs false
open Go.RowKit Go.Proofs.YtaappifdpbgchaaW.PrintWords Go.Proofs.YtaappifdpbgchaaW.PrintLast Go.Proofs.YtaappifdpbgchaaW.PrintMore Go.Proofs.Ytaappifdpbgchaa.PA

theorem unzz_zz (n : Int) : unzz (zz n) = n := by
  unfold zz unzz
  by_cases h : n < 0
  · rw [if_pos h, if_neg (by omega)]; omega
  · rw [if_neg h, if_pos (by omega)]; omega
theorem zz_unzz (u : Int) (h : 0 ≤ u) : zz (unzz u) = u := by
  unfold zz unzz
  by_cases h2 : u % 2 = 0
  · rw [if_pos h2, if_neg (by omega)]; omega
  · rw [if_neg h2, if_pos (by omega)]; omega
theorem unzz_i64 (u : Int) (h0 : 0 ≤ u) (h1 : u < 18446744073709551616) : I64 (unzz u) := by
  unfold I64 unzz
  split <;> omega

theorem venc_pos (m : Nat) (u : Int) : 1 ≤ (venc m u).length := by
  cases m with
  | zero => simp [venc]
  | succ m => unfold venc; split <;> simp
theorem venc_bytes (m : Nat) : ∀ u : Int, 0 ≤ u → Bytes (venc m u) := by
  induction m with
  | zero => intro u h x hx; simp [venc] at hx; omega
  | succ m ih =>
    intro u h x hx
    rw [venc] at hx
    by_cases hu : 128 ≤ u
    · rw [if_pos hu] at hx
      rcases List.mem_cons.1 hx with rfl | hx
      · omega
      · exact ih (u / 128) (by omega) x hx
    · rw [if_neg hu] at hx
      rw [List.mem_singleton.1 hx]; omega

theorem p9 : (128 : Int) ^ 9 = 9223372036854775808 := by decide
/-- What is read behind i bytes. -/
theorem vdec_venc : ∀ (m i : Nat) (u a : Int) (rest : List Int), i + m = 9 → 0 ≤ u → u * 128 ^ i < 18446744073709551616 → (0 < i → 0 < u) →
    vdec (venc m u ++ rest) i a = (unzz (a + u * 128 ^ i), ((i + (venc m u).length : Nat) : Int), 0) := by
  intro m
  induction m with
  | zero =>
    intro i u a rest hi h0 h1 h2
    have h9 : i = 9 := by omega
    subst h9
    rw [p9] at h1 ⊢
    have hm : u % 256 = u := by omega
    simp only [venc, List.singleton_append, List.length_singleton, vdec]
    rw [hm, if_neg (by omega), if_neg (by omega), if_neg (by omega), p9]
    rfl
  | succ m ih =>
    intro i u a rest hi h0 h1 h2
    have hp := pow_pos128 i
    have hps : (128 : Int) ^ (i + 1) = 128 * 128 ^ i := pow7 i
    rw [venc]
    by_cases hu : 128 ≤ u
    · rw [if_pos hu, List.cons_append, vdec, if_neg (by omega), if_pos (by omega)]
      have hq : u / 128 * (128 * 128 ^ i) = (u / 128 * 128) * 128 ^ i := by rw [Int.mul_assoc]
      have hle : (u / 128 * 128) * 128 ^ i ≤ u * 128 ^ i := Int.mul_le_mul_of_nonneg_right (by omega) (by omega)
      have hd : u = u / 128 * 128 + u % 128 := by omega
      have hs : u * 128 ^ i = (u / 128 * 128) * 128 ^ i + (u % 128) * 128 ^ i := by rw [← Int.add_mul, ← hd]
      rw [ih (i + 1) (u / 128) _ rest (by omega) (by omega) (by rw [hps, hq]; omega) (by omega), hps, hq, List.length_cons]
      have e1 : a + (u % 128 + 128 - 128) * 128 ^ i + u / 128 * 128 * 128 ^ i = a + u * 128 ^ i := by
        rw [show u % 128 + 128 - 128 = u % 128 by omega]; omega
      rw [e1]
      congr 2
      omega
    · rw [if_neg hu, List.singleton_append, List.length_singleton, vdec, if_neg (by omega), if_neg (by omega), if_neg (by omega)]
      rfl
theorem vdec_enc (n : Int) (h : I64 n) (rest : List Int) : vdec (enc n ++ rest) 0 0 = (n, ((enc n).length : Int), 0) := by
  obtain ⟨z0, z1⟩ := zz_bounds h
  unfold enc
  rw [vdec_venc 9 0 (zz n) 0 rest rfl z0 (by simpa using z1) (by omega)]
  simp [unzz_zz]

/-- A cut encoding is short. -/
theorem vdec_cut : ∀ (m i : Nat) (u a : Int) (t : Nat), i + m = 9 → 0 ≤ u → u < 128 ^ (m + 1) → t < (venc m u).length → vdec ((venc m u).take t) i a = (0, 0, 5) := by
  intro m
  induction m with
  | zero =>
    intro i u a t hi h0 h1 ht
    simp [venc] at ht
    subst ht
    simp only [List.take_zero, vdec]
    rw [if_neg (by omega)]
  | succ m ih =>
    intro i u a t hi h0 h1 ht
    rw [venc] at ht ⊢
    cases t with
    | zero =>
      simp only [List.take_zero, vdec]
      rw [if_neg (by omega)]
    | succ t =>
      by_cases hu : 128 ≤ u
      · rw [if_pos hu] at ht ⊢
        rw [pow7] at h1
        simp only [List.length_cons] at ht
        rw [List.take_succ_cons, vdec, if_neg (by omega), if_pos (by omega)]
        exact ih (i + 1) (u / 128) _ t (by omega) (by omega) (by omega) (by omega)
      · rw [if_neg hu] at ht
        simp at ht
theorem vdec_enc_cut (n : Int) (h : I64 n) (t : Nat) (ht : t < (enc n).length) : vdec ((enc n).take t) 0 0 = (0, 0, 5) := by
  obtain ⟨z0, z1⟩ := zz_bounds h
  have h10 : (128 : Int) ^ (9 + 1) = 1180591620717411303424 := by decide
  exact vdec_cut 9 0 (zz n) 0 t rfl z0 (by rw [h10]; omega) ht

/-- What is read, when it is read. -/
theorem vdec_ok : ∀ (s : List Int) (i : Nat) (a n used : Int), Bytes s → i ≤ 9 → vdec s i a = (n, used, 0) → ∃ u rest, s = venc (9 - i) u ++ rest ∧ 0 ≤ u ∧ u * 128 ^ i + 128 ^ i ≤ 18446744073709551616 ∧ (0 < i → 0 < u) ∧ n = unzz (a + u * 128 ^ i) ∧ used = ((i + (venc (9 - i) u).length : Nat) : Int) := by
  intro s
  induction s with
  | nil =>
    intro i a n used hb hi h
    simp only [vdec] at h
    rw [if_neg (by omega)] at h
    simp at h
  | cons x s ih =>
    intro i a n used hb hi h
    have hx := hb x List.mem_cons_self
    have hp := pow_pos128 i
    have hps : (128 : Int) ^ (i + 1) = 128 * 128 ^ i := pow7 i
    have h128 : i ≤ 8 → (128 : Int) ^ (i + 1) ≤ 128 ^ 9 := by
      intro hi
      rw [pow128, pow128]
      exact_mod_cast Nat.pow_le_pow_right (by decide) (by omega)
    have h63 := p9
    simp only [vdec] at h
    rw [if_neg (by omega)] at h
    by_cases hx8 : 128 ≤ x
    · rw [if_pos hx8] at h
      by_cases hi9 : i = 9
      · subst hi9
        exfalso
        cases s with
        | nil => simp [vdec] at h
        | cons y s => simp [vdec] at h
      · obtain ⟨u, rest, h1, h2, h3, h4, h5, h6⟩ := ih (i + 1) _ n used (fun y hy => hb y (List.mem_cons_of_mem _ hy)) (by omega) h
        have hu := h4 (by omega)
        obtain ⟨m, hm⟩ : ∃ m, 9 - i = m + 1 := ⟨8 - i, by omega⟩
        have hm' : 9 - (i + 1) = m := by omega
        rw [hm'] at h1 h6
        have hq : u * (128 * 128 ^ i) = (u * 128) * 128 ^ i := by rw [Int.mul_assoc]
        have hv : venc (9 - i) (u * 128 + (x - 128)) = x :: venc m u := by
          rw [hm, venc, if_pos (by omega)]
          congr 1
          · omega
          · congr 1; omega
        refine ⟨u * 128 + (x - 128), rest, ?_, by omega, ?_, by omega, ?_, ?_⟩
        · rw [hv, h1]; rfl
        · rw [hps, hq] at h3
          have e1 : (u * 128 + (x - 128)) * 128 ^ i = (u * 128) * 128 ^ i + (x - 128) * 128 ^ i := Int.add_mul _ _ _
          have e2 : (x - 128) * 128 ^ i ≤ 127 * 128 ^ i := Int.mul_le_mul_of_nonneg_right (by omega) (by omega)
          omega
        · rw [h5, hps, hq]
          have e1 : (u * 128 + (x - 128)) * 128 ^ i = (u * 128) * 128 ^ i + (x - 128) * 128 ^ i := Int.add_mul _ _ _
          rw [e1]; congr 1; omega
        · rw [h6, hv, List.length_cons]; omega
    · rw [if_neg hx8] at h
      by_cases hc : (0 < i ∧ x = 0) ∨ (i = 9 ∧ 1 < x)
      · rw [if_pos hc] at h
        simp at h
      · rw [if_neg hc] at h
        simp only [Prod.mk.injEq] at h
        obtain ⟨h1, h2, _⟩ := h
        have hv : venc (9 - i) x = [x] := by
          have := venc_small (9 - i) x hx.1 hx8
          rw [this, show x % 256 = x by omega]
        refine ⟨x, s, by rw [hv]; rfl, hx.1, ?_, by omega, h1.symm, by rw [hv, ← h2]; simp⟩
        by_cases hi9 : i = 9
        · have hx1 : x ≤ 1 := by omega
          have hm : x * 128 ^ i ≤ 1 * 128 ^ i := Int.mul_le_mul_of_nonneg_right hx1 (by omega)
          rw [hi9] at hm ⊢
          omega
        · have := h128 (by omega)
          have hm : x * 128 ^ i ≤ 127 * 128 ^ i := Int.mul_le_mul_of_nonneg_right (by omega) (by omega)
          omega
theorem vdec_unique {l : List Int} {n used : Int} (hb : Bytes l) (h : vdec l 0 0 = (n, used, 0)) : I64 n ∧ used = ((enc n).length : Int) ∧ ∃ rest, l = enc n ++ rest := by
  obtain ⟨u, rest, h1, h2, h3, _, h5, h6⟩ := vdec_ok l 0 0 n used hb (by omega) h
  simp only [Int.pow_zero, Int.mul_one, Int.zero_add, Nat.zero_add, Nat.sub_zero] at h1 h3 h5 h6
  have hz : zz n = u := by rw [h5, zz_unzz u h2]
  refine ⟨by rw [h5]; exact unzz_i64 u h2 (by omega), ?_, rest, ?_⟩
  · unfold enc; rw [hz]; exact h6
  · unfold enc; rw [hz]; exact h1
/-- Where it is not read, nothing was used, and the error is one of two. -/
theorem vdec_err : ∀ (s : List Int) (i : Nat) (a : Int), (vdec s i a).2.2 = 0 ∨ vdec s i a = (0, 0, 4) ∨ vdec s i a = (0, 0, 5) := by
  intro s
  induction s with
  | nil => intro i a; simp only [vdec]; split <;> simp
  | cons x s ih =>
    intro i a
    simp only [vdec]
    split
    · simp
    · split
      · exact ih _ _
      · split <;> simp
end Go.Proofs.Ytaappifdpbgchaa.Wire
