/- What is written: the reference's PutInt, Same and the examples of the chapter. -/
import Derived.Test.YtaappifdpbgchaaVarintRef
import Derived.Test.YtaappifdpbgchaaPAx1
import Derived.Test.YtaappifdpbgchaaPAx11
namespace Go.Proofs.Ytaappifdpbgchaa.Wire
set_option linter.unusedVariables false
set_option linter.unusedSimpArgs false
open Go.RowKit Go.Proofs.YtaappifdpbgchaaW.PrintWords Go.Proofs.YtaappifdpbgchaaW.PrintLast Go.Proofs.YtaappifdpbgchaaW.PrintMore Go.Proofs.Ytaappifdpbgchaa.PA

def I64 (n : Int) : Prop := -9223372036854775808 ≤ n ∧ n ≤ 9223372036854775807
def enc (n : Int) : List Int := venc 9 (zz n)
theorem enc_length (n : Int) : (enc n).length ≤ 10 := venc_length 9 _

theorem put_loop : ∀ (m k : Nat) (u : Int) (acc : List Int), 0 ≤ u → u < 128 ^ (m + 1) → u < 18446744073709551616 → m < k → acc.length + m < 140737488355328 → mapsheetsref02_PutInt.l0 k u acc = some (acc ++ venc m u) := by
  intro m
  induction m with
  | zero =>
    intro k u acc h0 h1 h64 hk hl
    obtain ⟨k, rfl⟩ : ∃ m, k = m + 1 := ⟨k - 1, by omega⟩
    have : u < 128 := by simpa using h1
    simp only [mapsheetsref02_PutInt.l0]
    rw [if_neg (by omega), if_pos (by omega)]
    rfl
  | succ m ih =>
    intro k u acc h0 h1 h64 hk hl
    obtain ⟨k, rfl⟩ : ∃ m, k = m + 1 := ⟨k - 1, by omega⟩
    simp only [mapsheetsref02_PutInt.l0]
    rw [pow7] at h1
    by_cases h : u ≥ 128
    · have h2 : Int.tmod u 128 = u % 128 := Int.tmod_eq_emod_of_nonneg h0
      have h3 : Int.tdiv u 128 = u / 128 := Int.tdiv_eq_ediv_of_nonneg h0
      rw [if_pos h, if_pos (by omega), h2, h3, u64in (u / 128) (by omega) (by omega), show (u % 128 + 128) % 256 = u % 128 + 128 by omega,
        ih k (u / 128) _ (by omega) (by omega) (by omega) (by omega) (by rw [List.length_append, List.length_singleton]; omega), venc, if_pos (by omega), List.append_assoc]
      rfl
    · rw [if_neg h, if_pos (by omega), venc, if_neg (by omega), show u % 256 = u by omega]

theorem zz_bounds {n : Int} (h : I64 n) : 0 ≤ zz n ∧ zz n < 18446744073709551616 := by
  unfold I64 at h
  unfold zz
  split <;> omega
theorem put_is (l : List Int) (n : Int) (hn : I64 n) (hl : l.length + 10 < 140737488355328) (k : Nat) (hk : 20 < k) : mapsheetsref02_PutInt.f k l n = some (l ++ enc n) := by
  obtain ⟨z0, z1⟩ := zz_bounds hn
  have h10 : (128 : Int) ^ (9 + 1) = 1180591620717411303424 := by decide
  have hj : mapsheetsref02_PutInt.j0 k l (zz n) = some (l ++ enc n) := by
    obtain ⟨k, rfl⟩ : ∃ m, k = m + 1 := ⟨k - 1, by omega⟩
    simp only [mapsheetsref02_PutInt.j0, Option.bind_some, List.nil_append, List.length_nil]
    rw [if_pos (by omega)]
    exact put_loop 9 k (zz n) l z0 (by rw [h10]; omega) z1 (by omega) (by omega)
  unfold I64 at hn
  unfold mapsheetsref02_PutInt.f
  by_cases h : n < 0
  · have hz : zz n = -2 * n - 1 := by unfold zz; rw [if_pos h]
    rw [if_pos h, w64 (n + 1) (by omega) (by omega), w64 _ (by omega) (by omega), u64in (-(n + 1)) (by omega) (by omega), u64in (2 * -(n + 1)) (by omega) (by omega), u64in (2 * -(n + 1) + 1) (by omega) (by omega),
      show 2 * -(n + 1) + 1 = zz n by omega]
    exact hj
  · have hz : zz n = 2 * n := by unfold zz; rw [if_neg h]
    rw [if_neg h, u64in n (by omega) (by omega), u64in _ (by omega) (by omega), show 2 * n = zz n by omega]
    exact hj
theorem wput_is (l : List Int) (n : Int) (hn : I64 n) (hl : l.length + 10 < 140737488355328) : wire_PutInt.f l n = some (l ++ enc n) := by
  unfold wire_PutInt.f
  rw [if_pos hn.1, if_pos hn.2, if_pos hl]
  rfl

end Go.Proofs.Ytaappifdpbgchaa.Wire
