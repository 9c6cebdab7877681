/- For every integer: wire.PutInt writes as few bytes as its size permits. No condition. -/
import Derived.Test.YtkmgmiofmegjmaaWirePut
import Derived.Test.YtkmgmiofmegjmaaPAx7
namespace Go.Proofs.Ytkmgmiofmegjmaa.Pure
open Go.RowKit Go.Proofs.Ytkmgmiofmegjmaa.PA Go.Proofs.YtkmgmiofmegjmaaW.PrintWords Go.Proofs.YtkmgmiofmegjmaaW.PrintLast Go.Proofs.YtkmgmiofmegjmaaW.PrintMore Go.Proofs.Ytkmgmiofmegjmaa.Wire

theorem venc_ge1 (m : Nat) (u : Int) : 1 ≤ (venc m u).length := by
  cases m with
  | zero => simp [venc]
  | succ m => unfold venc; split <;> simp
theorem venc_len : ∀ (k m : Nat) (u : Int), 0 ≤ u → k + 1 ≤ m → ((venc m u).length ≤ k + 1 ↔ u < 128 ^ (k + 1)) := by
  intro k
  induction k with
  | zero =>
    intro m u h0 hm
    obtain ⟨m, rfl⟩ : ∃ j, m = j + 1 := ⟨m - 1, by omega⟩
    have h1 := venc_ge1 m (u / 128)
    have hp : (128 : Int) ^ (0 + 1) = 128 := by decide
    rw [venc, hp]
    by_cases hu : 128 ≤ u
    · rw [if_pos hu, List.length_cons]; omega
    · rw [if_neg hu, List.length_singleton]; omega
  | succ k ih =>
    intro m u h0 hm
    obtain ⟨m, rfl⟩ : ∃ j, m = j + 1 := ⟨m - 1, by omega⟩
    have hi := ih m (u / 128) (by omega) (by omega)
    have hp : (0 : Int) < 128 ^ (k + 1) := pow_pos128 _
    rw [venc, pow7 (k + 1)]
    by_cases hu : 128 ≤ u
    · rw [if_pos hu, List.length_cons, Nat.add_le_add_iff_right, hi]; omega
    · rw [if_neg hu, List.length_singleton]; omega
theorem two_pow (j : Nat) : (2 : Int) * 2 ^ j = 2 ^ (j + 1) := by rw [Int.pow_succ, Int.mul_comm]
theorem sizes_at (n : Int) (j : Nat) (h1 : 1 ≤ j) (h9 : j ≤ 9) : ((enc n).length ≤ j ↔ -(2 ^ (7 * j - 1) : Int) ≤ n ∧ n < 2 ^ (7 * j - 1)) := by
  obtain ⟨k, rfl⟩ : ∃ k, j = k + 1 := ⟨j - 1, by omega⟩
  have hz : 0 ≤ zz n := by unfold zz; split <;> omega
  have := venc_len k 9 (zz n) hz (by omega)
  have hp : (128 : Int) ^ (k + 1) = 2 * 2 ^ (7 * (k + 1) - 1) := by rw [pow128, two_pow]; congr 1
  have hpp : (0 : Int) < 2 ^ (7 * (k + 1) - 1) := Int.pow_pos (by decide)
  unfold enc
  rw [this, hp]
  unfold zz
  split <;> omega
theorem shl_bound (j : Nat) (h1 : 1 ≤ j) (h9 : j ≤ 9) : shl .i64 1 (wrap64 ((wrap64 (7 * (j : Int))) - 1)) = 2 ^ (7 * j - 1) ∧ (0 : Int) < 2 ^ (7 * j - 1) ∧ (2 : Int) ^ (7 * j - 1) ≤ 4611686018427387904 := by
  have hp : (0 : Int) < 2 ^ (7 * j - 1) := Int.pow_pos (by decide)
  have hle : (2 : Int) ^ (7 * j - 1) ≤ 2 ^ 62 := by exact_mod_cast Nat.pow_le_pow_right (by decide) (by omega)
  have h62 : (2 : Int) ^ 62 = 4611686018427387904 := by decide
  have hw : wrap64 ((wrap64 (7 * (j : Int))) - 1) = ((7 * j - 1 : Nat) : Int) := by rw [w64 (7 * (j : Int)) (by omega) (by omega), w64 _ (by omega) (by omega)]; omega
  refine ⟨?_, hp, by omega⟩
  unfold shl
  have hm : min (7 * j - 1) (IntKind.bits .i64) = 7 * j - 1 := by
    have : IntKind.bits .i64 = 64 := rfl
    omega
  rw [hw, Int.toNat_natCast, hm, i64w_, Int.one_mul, w64 _ (by omega) (by omega)]
where i64w_ {n : Int} : IntKind.i64.wrap n = wrap64 n := by rw [IntKind.wrap_i64]; unfold wrap64; omega

theorem sizes_loop (n : Int) : ∀ (d k j : Nat), 10 - j = d → 1 ≤ j → j ≤ 10 → d + 40 < k → mapsheetslaw02_WireSizes.l0 k n ((enc n).length : Int) (j : Int) = some true := by
  intro d
  induction d with
  | zero =>
    intro k j hd h1 h10 hk
    obtain ⟨k, rfl⟩ : ∃ m, k = m + 1 := ⟨k - 1, by omega⟩
    have hl := enc_length n
    have hl1 := venc_ge1 9 (zz n)
    have : (enc n).length = (venc 9 (zz n)).length := rfl
    simp only [mapsheetslaw02_WireSizes.l0]
    rw [if_neg (by omega), if_pos (by omega), if_pos (by omega), awake_is _ (by omega)]
    rfl
  | succ d ih =>
    intro k j hd h1 h10 hk
    obtain ⟨k, rfl⟩ : ∃ m, k = m + 1 := ⟨k - 1, by omega⟩
    obtain ⟨hs, hp, hle⟩ := shl_bound j h1 (by omega)
    have hb := sizes_at n j h1 (by omega)
    have hwi : wrap64 ((j : Int) + 1) = ((j + 1 : Nat) : Int) := by rw [w64 _ (by omega) (by omega)]; omega
    have hw0 : 0 ≤ wrap64 ((wrap64 (7 * (j : Int))) - 1) := by rw [w64 (7 * (j : Int)) (by omega) (by omega), w64 _ (by omega) (by omega)]; omega
    simp only [mapsheetslaw02_WireSizes.l0]
    rw [if_pos (by omega), if_pos hw0, hs, w64 (-(2 ^ (7 * j - 1))) (by omega) (by omega), hwi, ih k (j + 1) (by omega) (by omega) (by omega) (by omega)]
    have hcast : (((enc n).length : Int) ≤ (j : Int)) ↔ (enc n).length ≤ j := Int.ofNat_le
    by_cases hn : n ≥ -(2 ^ (7 * j - 1))
    · rw [if_pos hn]
      have : decide (((enc n).length : Int) ≤ (j : Int)) = decide (n < 2 ^ (7 * j - 1)) := by
        apply decide_eq_decide.2
        rw [hcast, hb]
        exact ⟨fun h => h.2, fun h => ⟨hn, h⟩⟩
      rw [this]
      simp
    · rw [if_neg hn]
      have : decide (((enc n).length : Int) ≤ (j : Int)) = false := by
        apply decide_eq_false
        rw [hcast, hb]
        exact fun h => hn h.1
      rw [this]
      simp

theorem WireSizes : mapsheetslaw02_WireSizes.Pure := by
  intro n hn
  have hI : I64 n := i64_of_wf hn
  refine ⟨100, ?_⟩
  unfold mapsheetslaw02_WireSizes.f
  rw [wput_is [] n hI (by simp), Option.bind_some, List.nil_append]
  exact sizes_loop n 9 100 1 rfl (by omega) (by omega) (by omega)
end Go.Proofs.Ytkmgmiofmegjmaa.Pure
