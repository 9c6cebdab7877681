import Derived.Test.YtbogbpbapgjndaaFnv
namespace Go.Proofs.Ytbogbpbapgjndaa.Pure
open Go.RowKit Go.Proofs.Ytbogbpbapgjndaa.PA Go.Proofs.YtbogbpbapgjndaaW.PrintWords Go.Proofs.YtbogbpbapgjndaaW.PrintLast Go.Proofs.Ytbogbpbapgjndaa.Crc

/-- One digit. -/
def dig (v : Int) : Int := bt hexDigits (v % 16)
/-- The last digits. -/
def hx (d : Int) : Nat → List Int
  | 0 => []
  | j + 1 => dig (d / 16 ^ j) :: hx d j
theorem div_pow_range (d : Int) (h : 0 ≤ d ∧ d < 18446744073709551616) (p : Int) (hp : 0 < p) : 0 ≤ d / p ∧ d / p < 18446744073709551616 :=
  ⟨Int.ediv_nonneg h.1 (by omega), Int.lt_of_le_of_lt (Int.ediv_le_self p h.1) h.2⟩
theorem hexd_is (d : Int) (h : 0 ≤ d ∧ d < 18446744073709551616) (i : Nat) (hi : i < 16) : hexd d i = dig (d / 16 ^ (15 - i)) := by
  unfold hexd dig
  have e : (2 : Int) ^ (60 - 4 * i) = 16 ^ (15 - i) := by
    rw [show (16 : Int) = 2 ^ 4 by decide, ← Int.pow_mul]
    congr 1
    omega
  have hr := div_pow_range d h (16 ^ (15 - i)) (Int.pow_pos (by decide))
  rw [e, and15_u64 _ hr.1 hr.2]
theorem hexL_is (d : Int) (h : 0 ≤ d ∧ d < 18446744073709551616) : hexL d = hx d 16 := by
  have : hexL d = (List.range 16).map fun i => dig (d / 16 ^ (15 - i)) := by
    unfold hexL
    apply List.map_congr_left
    intro i hi
    exact hexd_is d h i (List.mem_range.1 hi)
  rw [this]
  rfl
theorem digit_str (m : Nat) (h : m < 16) : (⟨#[48, 49, 50, 51, 52, 53, 54, 55, 56, 57, 97, 98, 99, 100, 101, 102]⟩ : ByteArray).extract m (m + 1) = strOfNums [dig (m : Int)] := by
  rcases lt16 h with rfl | rfl | rfl | rfl | rfl | rfl | rfl | rfl | rfl | rfl | rfl | rfl | rfl | rfl | rfl | rfl <;> decide +kernel
theorem str_app (a b : List Int) : strOfNums a ++ strOfNums b = strOfNums (a ++ b) := by
  apply ByteArray.ext
  rw [ByteArray.data_append]
  simp [strOfNums]
theorem str_size (a : List Int) : (strOfNums a).size = a.length := by simp [strOfNums, ByteArray.size]
theorem hx_length (d : Int) : ∀ j, (hx d j).length = j
  | 0 => rfl
  | j + 1 => by show (hx d j).length + 1 = _; rw [hx_length d j]
theorem ref_hex (d : Int) (h : 0 ≤ d ∧ d < 18446744073709551616) : ∀ (r j k : Nat), r + j = 16 → mapsheetsref03_Hex.l0 (k + r + 1) (d / 16 ^ j) (strOfNums (hx d j)) (j : Int) = some (strOfNums (hx d 16)) := by
  intro r
  induction r with
  | zero =>
    intro j k hj
    obtain rfl : j = 16 := by omega
    rw [Nat.add_zero, mapsheetsref03_Hex.l0, if_neg (by decide)]
  | succ r ih =>
    intro j k hj
    have hr := div_pow_range d h (16 ^ j) (Int.pow_pos (by decide))
    have ih' := ih (j + 1) k (by omega)
    rw [Int.pow_succ, ← Int.ediv_ediv_of_nonneg (show (0 : Int) ≤ 16 ^ j from Int.le_of_lt (Int.pow_pos (by decide))), show hx d (j + 1) = dig (d / 16 ^ j) :: hx d j from rfl] at ih'
    have hxl := hx_length d j
    generalize hv : d / 16 ^ j = v at hr ih' ⊢
    have e1 : wrap64 (Int.tmod v 16) = v % 16 := by rw [Int.tmod_eq_emod_of_nonneg hr.1]; exact w64 _ (by omega) (by omega)
    have e2 : wrap64 (v % 16 + 1) = v % 16 + 1 := w64 _ (by omega) (by omega)
    have e3 : IntKind.u64.wrap (Int.tdiv v 16) = v / 16 := by
      rw [Int.tdiv_eq_ediv_of_nonneg hr.1]
      simp [IntKind.wrap, IntKind.bits, IntKind.signed]
      omega
    have e4 : (v % 16 + 1).toNat = (v % 16).toNat + 1 := by omega
    have e5 : dig ((v % 16).toNat : Int) = dig v := by unfold dig; congr 1; omega
    rw [show k + (r + 1) + 1 = (k + r + 1) + 1 by omega, mapsheetsref03_Hex.l0, e1, e2, e3, e4, digit_str _ (by omega), e5, if_pos (by omega), if_pos (by omega), if_pos (by omega), if_pos (by omega), if_pos (by rw [str_size, str_size, hxl]; simp; omega), str_app, w64 _ (by omega) (by omega)]
    exact ih'
theorem dig_val (v : Int) (h : 0 ≤ v) : (dig v ≥ 97 ∧ dig v - 97 + 10 = v % 16) ∨ (¬ dig v ≥ 97 ∧ 48 ≤ dig v ∧ dig v - 48 = v % 16) := by
  unfold dig
  obtain ⟨m, hm⟩ := Int.eq_ofNat_of_zero_le (show 0 ≤ v % 16 by omega)
  rw [hm]
  rcases lt16 (show m < 16 by omega) with rfl | rfl | rfl | rfl | rfl | rfl | rfl | rfl | rfl | rfl | rfl | rfl | rfl | rfl | rfl | rfl <;> decide +kernel
theorem dig_range (v : Int) : 0 ≤ dig v ∧ dig v ≤ 255 := bt_range _ _
theorem bt_str (l : List Int) (i : Nat) (x : Int) (h : l[i]? = some x) (hx : 0 ≤ x ∧ x ≤ 255) : bt (strOfNums l) (i : Int) = x := by
  obtain ⟨hi, he⟩ := List.getElem?_eq_some_iff.1 h
  unfold bt
  rw [dif_pos (by rw [str_size]; omega)]
  simp only [Int.toNat_natCast]
  show (((strOfNums l).data[i]'_).toNat : Int) = x
  unfold strOfNums
  simp only [List.getElem_toArray, List.getElem_map, he, UInt8.toNat_ofNat']
  omega
theorem hx_get (d : Int) : ∀ (n i : Nat), i < n → (hx d n)[i]? = some (dig (d / 16 ^ (n - 1 - i)))
  | 0, i, _h => by omega
  | n + 1, 0, _ => rfl
  | n + 1, i + 1, h => by
    show (hx d n)[i]? = _
    rw [hx_get d n i (by omega)]
    congr 4
    omega
theorem u64in (n : Int) (h0 : 0 ≤ n) (h1 : n < 18446744073709551616) : IntKind.u64.wrap n = n := by
  simp [IntKind.wrap, IntKind.bits, IntKind.signed]
  omega
theorem parse (d : Int) (h : 0 ≤ d ∧ d < 18446744073709551616) : ∀ (r i k : Nat), r + i = 16 → mapsheetslaw03_DigestHex.l0 (k + r + 1) d (strOfNums (hx d 16)) (d / 16 ^ r) (i : Int) = some true := by
  intro r
  induction r with
  | zero =>
    intro i k hi
    obtain rfl : i = 16 := by omega
    rw [Nat.add_zero, mapsheetslaw03_DigestHex.l0, if_neg (by rw [str_size, hx_length]; decide), if_pos (by rw [Int.pow_zero, Int.ediv_one]), awake_is]
    rfl
  | succ r ih =>
    intro i k hi
    have ih' := ih (i + 1) k (by omega)
    have hg : bt (strOfNums (hx d 16)) (i : Int) = dig (d / 16 ^ r) := bt_str _ _ _ (by rw [hx_get d 16 i (by omega), show 16 - 1 - i = r by omega]) (dig_range _)
    have hr := div_pow_range d h (16 ^ r) (Int.pow_pos (by decide))
    have hs : d / 16 ^ (r + 1) = (d / 16 ^ r) / 16 := by rw [Int.pow_succ, ← Int.ediv_ediv_of_nonneg (show (0 : Int) ≤ 16 ^ r from Int.le_of_lt (Int.pow_pos (by decide)))]
    rw [hs]
    generalize hv : d / 16 ^ r = v at hr ih' hg ⊢
    have hd := dig_val v hr.1
    have hdr := dig_range v
    rw [show k + (r + 1) + 1 = (k + r + 1) + 1 by omega, mapsheetslaw03_DigestHex.l0, if_pos (by rw [str_size, hx_length]; omega), if_pos (by omega), hg, u64in (dig v) (by omega) (by omega), u64in (v / 16 * 16) (by omega) (by omega), w64 (i + 1) (by omega) (by omega)]
    rcases hd with ⟨h1, h2⟩ | ⟨h1, h2, h3⟩
    · rw [if_pos h1, u64in (dig v - 97) (by omega) (by omega), u64in (dig v - 97 + 10) (by omega) (by omega), h2, u64in _ (by omega) (by omega), show v / 16 * 16 + v % 16 = v by omega]
      exact ih'
    · rw [if_neg h1, u64in (dig v - 48) (by omega) (by omega), h3, u64in _ (by omega) (by omega), show v / 16 * 16 + v % 16 = v by omega]
      exact ih'
theorem DigestHex : mapsheetslaw03_DigestHex.Pure := by
  intro d hw
  have h : 0 ≤ d ∧ d < 18446744073709551616 := by
    simp [Lit.wf, IntKind.min, IntKind.max, IntKind.bits, IntKind.signed] at hw
    omega
  refine ⟨18, ?_⟩
  unfold mapsheetslaw03_DigestHex.f digest_Hex.f mapsheetsref03_Hex.f
  have h1 := ref_hex d h 16 0 1 rfl
  rw [Int.pow_zero, Int.ediv_one] at h1
  have h2 := parse d h 16 0 0 rfl
  rw [show d / 16 ^ 16 = 0 by omega] at h2
  have h3 : mapsheetsref03_Hex.l0 18 d (⟨#[]⟩ : ByteArray) 0 = some (strOfNums (hx d 16)) := h1
  rw [if_pos h.1, if_pos h.2, hexL_is d h, Option.bind_some, h3, Option.bind_some, if_pos rfl, mapsheetslaw03_DigestHex.j0, if_neg (by rw [str_size, hx_length]; decide)]
  exact h2

end Go.Proofs.Ytbogbpbapgjndaa.Pure
