/- The reading and the writing of integers of seven bits a byte, as plain Lean functions, and the arithmetic of bits that the Go text uses for them. -/
import Derived.Laws.BitsAllLaws
import Derived.Test.YtaappifdpbgchaaPAx0
import Derived.Test.YtaappifdpbgchaaPAx5
import Derived.Test.YtaappifdpbgchaaPAx1
namespace Go.Proofs.Ytaappifdpbgchaa.Wire
set_option linter.unusedVariables false
set_option linter.unusedSimpArgs false
open Go.RowKit Go.Proofs.YtaappifdpbgchaaW.PrintWords Go.Proofs.YtaappifdpbgchaaW.PrintLast Go.Proofs.YtaappifdpbgchaaW.PrintMore Go.Proofs.Ytaappifdpbgchaa.PA

def unzz (u : Int) : Int := if u % 2 = 0 then u / 2 else -(u / 2) - 1
/-- Reading: the bytes that are left, how many were read, the number so far. -/
def vdec : List Int → Nat → Int → Int × Int × Int
  | [], i, _ => if 10 ≤ i then (0, 0, 4) else (0, 0, 5)
  | x :: r, i, a => if i = 10 then (0, 0, 4) else if 128 ≤ x then vdec r (i + 1) (a + (x - 128) * 128 ^ i) else if (0 < i ∧ x = 0) ∨ (i = 9 ∧ 1 < x) then (0, 0, 4) else (unzz (a + x * 128 ^ i), (i : Int) + 1, 0)

def Bytes (l : List Int) : Prop := ∀ x ∈ l, 0 ≤ x ∧ x ≤ 255

theorem bytes_of_wf {l : List Int} (h : ∀ x ∈ l, (Lit.int .u8 x).wf = true) : Bytes l := by
  intro x hx
  simpa [Lit.wf, IntKind.min, IntKind.max, IntKind.signed, IntKind.bits] using h x hx
theorem i64_of_wf {n : Int} (h : (Lit.int .i64 n).wf = true) : -9223372036854775808 ≤ n ∧ n ≤ 9223372036854775807 := by
  simpa [Lit.wf, IntKind.min, IntKind.max, IntKind.signed, IntKind.bits] using h

theorem w64 (n : Int) (h0 : -9223372036854775808 ≤ n) (h1 : n ≤ 9223372036854775807) : wrap64 n = n := by unfold wrap64; omega
theorem u64in (n : Int) (h0 : 0 ≤ n) (h1 : n < 18446744073709551616) : IntKind.u64.wrap n = n := by rw [u64_w]; omega

theorem pow128 (i : Nat) : (128 : Int) ^ i = 2 ^ (7 * i) := by
  rw [Int.pow_mul]; rfl
theorem pow_pos128 (i : Nat) : (0 : Int) < 128 ^ i := Int.pow_pos (by decide)

theorem rd_drop {l s : List Int} {x : Int} {i : Nat} (h : l.drop i = x :: s) : rd l (i : Int) = x ∧ i < l.length ∧ l.drop (i + 1) = s := by
  have hl : i < l.length := by
    have : (l.drop i).length = l.length - i := List.length_drop
    rw [h, List.length_cons] at this
    omega
  rw [List.drop_eq_getElem_cons hl] at h
  injection h with h1 h2
  refine ⟨?_, hl, h2⟩
  unfold rd
  rw [Int.toNat_natCast, List.getD_eq_getElem?_getD, List.getElem?_eq_getElem hl]
  exact h1
theorem drop_nil {l : List Int} {i : Nat} (h : l.drop i = []) (hi : i ≤ l.length) : i = l.length := by
  have : (l.drop i).length = l.length - i := List.length_drop
  rw [h] at this
  simp at this
  omega

theorem shl_small (a : Int) (i : Nat) (hi : i ≤ 9) (h0 : 0 ≤ a) (h1 : a * 128 ^ i < 18446744073709551616) : shl .u64 (IntKind.u64.wrap a) (wrap64 (7 * (i : Int))) = a * 128 ^ i := by
  have hw : wrap64 (7 * (i : Int)) = ((7 * i : Nat) : Int) := by rw [w64 _ (by omega) (by omega)]; omega
  have hp := pow_pos128 i
  have ha : a < 18446744073709551616 := by
    have : a * 1 ≤ a * 128 ^ i := Int.mul_le_mul_of_nonneg_left (by omega) h0
    omega
  unfold shl
  rw [hw, Int.toNat_natCast, u64in a h0 ha]
  have hm : min (7 * i) (IntKind.bits .u64) = 7 * i := by
    have : IntKind.bits .u64 = 64 := rfl
    omega
  rw [hm, ← pow128, u64in _ (Int.mul_nonneg h0 (by omega)) h1]

theorem or_high (a b : Int) (i : Nat) (h0 : 0 ≤ a) (h1 : a < 128 ^ i) (hb : 0 ≤ b) (h2 : a + b * 128 ^ i < 18446744073709551616) : Go.bits .or .u64 a (b * 128 ^ i) = a + b * 128 ^ i := by
  obtain ⟨A, rfl⟩ := Int.eq_ofNat_of_zero_le h0
  obtain ⟨B, rfl⟩ := Int.eq_ofNat_of_zero_le hb
  rw [pow128] at h1 h2 ⊢
  have e : ((B : Int) * 2 ^ (7 * i)) = ((2 ^ (7 * i) * B : Nat) : Int) := by push_cast; exact Int.mul_comm _ _
  have hA : A < 2 ^ (7 * i) := by exact_mod_cast h1
  rw [e] at h2 ⊢
  have hs : A + 2 ^ (7 * i) * B < 18446744073709551616 := by
    generalize 2 ^ (7 * i) * B = C at h2 ⊢
    omega
  rw [u64_or_nat A _ (by omega) (by omega), Nat.or_comm, ← Nat.two_pow_add_eq_or_of_lt hA B]
  omega

theorem and127 (x : Int) (h0 : 0 ≤ x) (h1 : x ≤ 255) : Go.bits .and .u8 x 127 = x % 128 := by
  have key : ∀ n : Fin 256, Go.bits .and .u8 (n.val : Int) 127 = (n.val : Int) % 128 := by decide +kernel
  obtain ⟨n, rfl⟩ := Int.eq_ofNat_of_zero_le h0
  exact key ⟨n, by omega⟩
theorem and1 (u : Int) (h0 : 0 ≤ u) (h1 : u < 18446744073709551616) : Go.bits .and .u64 u 1 = u % 2 := by
  obtain ⟨n, rfl⟩ := Int.eq_ofNat_of_zero_le h0
  have := u64_and_nat n 1 (by omega) (by omega)
  rw [show ((1 : Nat) : Int) = 1 from rfl] at this
  rw [this, Nat.and_one_is_mod]
  omega
theorem i64w (n : Int) : IntKind.i64.wrap n = wrap64 n := by
  rw [IntKind.wrap_i64]; unfold wrap64; omega
theorem xor_i64_zero (X : Int) (h0 : 0 ≤ X) (h1 : X < 9223372036854775808) : Go.bits .xor .i64 X 0 = X := by
  obtain ⟨a, rfl⟩ := Int.eq_ofNat_of_zero_le h0
  show IntKind.i64.wrap ((BitVec.ofInt 64 (a : Int) ^^^ BitVec.ofInt 64 0).toNat : Int) = _
  have e : (BitVec.ofInt 64 (0 : Int)) = 0#64 := by decide
  rw [e, BitVec.xor_zero, i64w, BitVec.ofInt_natCast, BitVec.toNat_ofNat]
  unfold wrap64
  omega
theorem xor_i64_neg (X : Int) (h0 : 0 ≤ X) (h1 : X < 9223372036854775808) : Go.bits .xor .i64 X (-1) = -X - 1 := by
  obtain ⟨a, rfl⟩ := Int.eq_ofNat_of_zero_le h0
  show IntKind.i64.wrap ((BitVec.ofInt 64 (a : Int) ^^^ BitVec.ofInt 64 (-1)).toNat : Int) = _
  have e : (BitVec.ofInt 64 (-1 : Int)) = BitVec.allOnes 64 := by decide
  rw [e, BitVec.xor_allOnes, i64w, BitVec.toNat_not, BitVec.ofInt_natCast, BitVec.toNat_ofNat]
  unfold wrap64
  omega
/-- What the Go text makes of the number that was read. -/
theorem unzz_raw (u : Int) (h0 : 0 ≤ u) (h1 : u < 18446744073709551616) : Go.bits .xor .i64 (wrap64 (u / 2)) (wrap64 (-(wrap64 (Go.bits .and .u64 u 1)))) = unzz u := by
  rw [and1 u h0 h1, w64 (u / 2) (by omega) (by omega), w64 (u % 2) (by omega) (by omega), w64 _ (by omega) (by omega)]
  unfold unzz
  by_cases h : u % 2 = 0
  · rw [if_pos h, h, show (-(0 : Int)) = 0 from rfl, xor_i64_zero _ (by omega) (by omega)]
  · have h2 : u % 2 = 1 := by omega
    rw [if_neg h, h2, xor_i64_neg _ (by omega) (by omega)]

/-- Go's wire.Int reads as vdec says. -/
theorem int_loop (l : List Int) (hb : Bytes l) : ∀ (s : List Int) (i : Nat) (k : Nat) (a : Int) (b : Int), l.drop i = s → i ≤ l.length → i ≤ 10 → s.length < k → (i ≤ 9 → b = a ∧ 0 ≤ a ∧ a < 128 ^ i) →
    wire_Int.l0 k l b l (l.length : Int) (i : Int) = some (vdec s i a) := by
  intro s
  induction s with
  | nil =>
    intro i k a b hd hi h10 hk ha
    obtain ⟨k, rfl⟩ : ∃ m, k = m + 1 := ⟨k - 1, by omega⟩
    have := drop_nil hd hi
    simp only [wire_Int.l0, vdec]
    rw [if_neg (by omega)]
    by_cases h : 10 ≤ i
    · rw [if_pos (by omega), if_pos h]
    · rw [if_neg (by omega), if_neg h]
  | cons x s ih =>
    intro i k a b hd hi h10 hk ha
    obtain ⟨k, rfl⟩ : ∃ m, k = m + 1 := ⟨k - 1, by omega⟩
    obtain ⟨h1, h2, h3⟩ := rd_drop hd
    have hx : 0 ≤ x ∧ x ≤ 255 := hb x (by rw [← List.take_append_drop i l, hd]; simp)
    simp only [List.length_cons] at hk
    simp only [wire_Int.l0, vdec]
    rw [if_pos (by omega), if_pos (by omega), if_pos (by omega), h1]
    by_cases e10 : i = 10
    · rw [if_pos (by omega), if_pos e10]
    · have h9 : i ≤ 9 := by omega
      obtain ⟨rfl, ha0, ha1⟩ := ha h9
      rw [if_neg (by omega), if_neg e10]
      have hw : wrap64 (7 * (i : Int)) = 7 * (i : Int) := w64 _ (by omega) (by omega)
      have hp := pow_pos128 i
      have hwi : wrap64 ((i : Int) + 1) = ((i + 1 : Nat) : Int) := by rw [w64 _ (by omega) (by omega)]; omega
      have hps : (128 : Int) ^ (i + 1) = 128 * 128 ^ i := pow7 i
      by_cases hx8 : x ≥ 128
      · rw [if_pos hx8, if_pos (by omega), if_pos (by omega), hwi]
        refine ih (i + 1) k (b + (x - 128) * 128 ^ i) _ h3 (by omega) (by omega) (by omega) ?_
        intro hi9
        have h128 : (128 : Int) ^ (i + 1) ≤ 128 ^ 9 := by
          rw [pow128, pow128]
          exact_mod_cast Nat.pow_le_pow_right (by decide) (by omega)
        have h63 : (128 : Int) ^ 9 = 9223372036854775808 := by decide
        have hm : (x - 128) * 128 ^ i ≤ 127 * 128 ^ i := Int.mul_le_mul_of_nonneg_right (by omega) (by omega)
        have hm0 : 0 ≤ (x - 128) * 128 ^ i := Int.mul_nonneg (by omega) (by omega)
        have hmod : x % 128 = x - 128 := by omega
        refine ⟨?_, by omega, by omega⟩
        rw [and127 x hx.1 hx.2, hmod, shl_small _ i (by omega) (by omega) (by omega), or_high _ _ i ha0 ha1 (by omega) (by omega)]
      · rw [if_neg hx8, if_neg hx8]
        have hz : i ≤ 9 := h9
        -- the number that is read
        have hval : ¬ (i = 9 ∧ 1 < x) → 0 ≤ b + x * 128 ^ i ∧ b + x * 128 ^ i < 18446744073709551616 ∧ x * 128 ^ i < 18446744073709551616 := by
          intro h
          have hm0 : 0 ≤ x * 128 ^ i := Int.mul_nonneg (by omega) (by omega)
          by_cases hi9 : i = 9
          · have hx1 : x ≤ 1 := by omega
            have hm : x * 128 ^ i ≤ 1 * 128 ^ i := Int.mul_le_mul_of_nonneg_right hx1 (by omega)
            have h63 : (128 : Int) ^ i = 9223372036854775808 := by rw [hi9]; decide
            omega
          · have hm : x * 128 ^ i ≤ 127 * 128 ^ i := Int.mul_le_mul_of_nonneg_right (by omega) (by omega)
            have h128 : (128 : Int) ^ (i + 1) ≤ 128 ^ 9 := by
              rw [pow128, pow128]
              exact_mod_cast Nat.pow_le_pow_right (by decide) (by omega)
            have h63 : (128 : Int) ^ 9 = 9223372036854775808 := by decide
            omega
        have hdone : ¬ (i = 9 ∧ 1 < x) → (Go.bits .xor .i64 (wrap64 ((Go.bits .or .u64 b (shl .u64 (IntKind.u64.wrap x) (wrap64 (7 * (i : Int))))) / 2)) (wrap64 (-(wrap64 (Go.bits .and .u64 (Go.bits .or .u64 b (shl .u64 (IntKind.u64.wrap x) (wrap64 (7 * (i : Int))))) 1)))), wrap64 ((i : Int) + 1), (0 : Int)) = (unzz (b + x * 128 ^ i), (i : Int) + 1, 0) := by
          intro h
          obtain ⟨v0, v1, v2⟩ := hval h
          rw [shl_small x i h9 hx.1 v2, or_high _ _ i ha0 ha1 hx.1 v1, unzz_raw _ v0 v1, hwi]
          simp
        by_cases hc : (0 < i ∧ x = 0) ∨ (i = 9 ∧ 1 < x)
        · rw [if_pos hc]
          by_cases hi0 : 0 < i
          · rw [if_pos (by omega)]
            by_cases hx0 : x = 0
            · rw [if_pos hx0]
            · rw [if_neg hx0]
              have : i = 9 ∧ 1 < x := by omega
              rw [if_pos (by omega), if_pos this.2]
          · omega
        · rw [if_neg hc]
          have hc9 : ¬ (i = 9 ∧ 1 < x) := fun h => hc (.inr h)
          have hd := hdone hc9
          by_cases hi0 : 0 < i
          · rw [if_pos (by omega)]
            rw [if_neg (by intro h; exact hc (.inl ⟨hi0, h⟩))]
            by_cases hi9 : i = 9
            · rw [if_pos (by omega), if_neg (by omega), if_pos (by omega), hd]
            · rw [if_neg (by omega), if_pos (by omega), hd]
          · rw [if_neg (by omega), if_neg (by omega), if_pos (by omega), hd]

theorem wire_Int_is (l : List Int) (hb : Bytes l) (k : Nat) (hk : l.length < k) : wire_Int.f k l = some (vdec l 0 0) := by
  unfold wire_Int.f
  have := int_loop l hb l 0 k 0 0 rfl (by omega) (by omega) hk (by intro _; simp)
  simpa using this
end Go.Proofs.Ytaappifdpbgchaa.Wire
