/- What Few, SameSectors and Same of the device's reference answer. -/
import Derived.Test.YtjicigagejihhaaDev
import Derived.Test.YtjicigagejihhaaPAx0
import Derived.Test.YtjicigagejihhaaPAx2
import Derived.Test.YtjicigagejihhaaPAx17
import Derived.Test.YtjicigagejihhaaPAx18
namespace Go.Proofs.Ytjicigagejihhaa.Dev
open Go.RowKit Go.Proofs.Ytjicigagejihhaa.PA Go.Proofs.YtjicigagejihhaaW.PrintWords Go.Proofs.YtjicigagejihhaaW.PrintLast Go.Proofs.YtjicigagejihhaaW.PrintMore
theorem sameSectors_l0 (a : List (List Int)) (hn : a.length ≤ 5000) (hx : ∀ x ∈ a, x.length ≤ 1000) : ∀ (d k i : Nat), a.length - i = d → i ≤ a.length → d + 1001 < k → mapsheetsref24_SameSectors.l0 k a a (i : Int) = some true := by
  intro d
  induction d with
  | zero =>
    intro k i hd hi hk
    obtain ⟨k, rfl⟩ : ∃ m, k = m + 1 := ⟨k - 1, by omega⟩
    simp only [mapsheetsref24_SameSectors.l0]; rw [if_neg (by omega)]
  | succ d ih =>
    intro k i hd hi hk
    obtain ⟨k, rfl⟩ : ∃ m, k = m + 1 := ⟨k - 1, by omega⟩
    have hb : mapsheetsref24_SameBytes.f k (rd_L1 a (i : Int)) (rd_L1 a (i : Int)) = some true := by
      rw [rdL_at a i (by omega)]
      exact sameBytes _ k (hx _ (List.getElem_mem _)) (by omega)
    simp only [mapsheetsref24_SameSectors.l0]; rw [if_pos (by omega), if_pos (by omega), if_pos (by omega), hb, w1 i (by omega)]
    simp only [Option.bind_some, if_true]
    exact ih k (i + 1) (by omega) (by omega) (by omega)

theorem sameSectors (a : List (List Int)) (k : Nat) (hn : a.length ≤ 5000) (hx : ∀ x ∈ a, x.length ≤ 1000) (hk : 7000 < k) : mapsheetsref24_SameSectors.f k a a = some true := by
  unfold mapsheetsref24_SameSectors.f; rw [if_pos rfl]
  exact sameSectors_l0 a hn hx _ k 0 rfl (Nat.zero_le _) (by omega)

theorem same_l0 (s : List (List Int)) (p : List S53) (l : Int) (dn : Bool) (hn : p.length ≤ 1000) (hx : ∀ x ∈ p, x.f1.length ≤ 1000) : ∀ (d k i : Nat), p.length - i = d → i ≤ p.length → d + 1001 < k → mapsheetsref24_Same.l0 k (i : Int) s p l dn s p l dn = some true := by
  intro d
  induction d with
  | zero =>
    intro k i hd hi hk
    obtain ⟨k, rfl⟩ : ∃ m, k = m + 1 := ⟨k - 1, by omega⟩
    simp only [mapsheetsref24_Same.l0]; rw [if_neg (by omega)]
  | succ d ih =>
    intro k i hd hi hk
    obtain ⟨k, rfl⟩ : ∃ m, k = m + 1 := ⟨k - 1, by omega⟩
    have hb : mapsheetsref24_SameBytes.f k (rd_T53 p (i : Int)).f1 (rd_T53 p (i : Int)).f1 = some true := by
      rw [rdT_at p i (by omega)]
      exact sameBytes _ k (hx _ (List.getElem_mem _)) (by omega)
    simp only [mapsheetsref24_Same.l0]; rw [if_pos (by omega), if_pos (by omega), if_pos (by omega), if_pos trivial, hb, w1 i (by omega)]
    simp only [Option.bind_some, if_true]
    exact ih k (i + 1) (by omega) (by omega) (by omega)

theorem same_gen (s : List (List Int)) (p : List S53) (l : Int) (dn : Bool) (k : Nat) (h1 : s.length ≤ 5000) (h2 : p.length ≤ 1000) (h3 : ∀ x ∈ s, x.length ≤ 200) (h4 : ∀ w ∈ p, w.f1.length ≤ 200) (hk : 8000 < k) : mapsheetsref24_Same.f k s p l dn s p l dn = some true := by
  unfold mapsheetsref24_Same.f
  have e1 : (dn != dn) = false := by simp
  have e2 : ((p.length : Int) != (p.length : Int)) = false := by simp
  rw [if_pos rfl, e1, if_neg (by decide), sameSectors s k h1 (fun x hx => by have := h3 x hx; omega) (by omega), Option.bind_some, if_pos rfl, e2]
  obtain ⟨k, rfl⟩ : ∃ m, k = m + 1 := ⟨k - 1, by omega⟩
  simp only [mapsheetsref24_Same.j0]; rw [if_neg (by decide)]
  exact same_l0 s p l dn h2 (fun x hx => by have := h4 x hx; omega) _ k 0 rfl (Nat.zero_le _) (by omega)

theorem same_ok (s : List (List Int)) (p : List S53) (l : Int) (dn : Bool) (k : Nat) (h : Sm s p) (hk : 8000 < k) : mapsheetsref24_Same.f k s p l dn s p l dn = some true :=
  same_gen s p l dn k (by have := h.1; omega) h.2.1 h.2.2.1 h.2.2.2 hk

def FewP (s : List (List Int)) (p : List S53) : Prop := s.length ≤ 100 ∧ p.length ≤ 100 ∧ (∀ x ∈ s, x.length ≤ 200) ∧ ∀ w ∈ p, w.f1.length ≤ 200

theorem FewP.sm {s : List (List Int)} {p : List S53} (h : FewP s p) : Sm s p := ⟨by have := h.1; omega, by have := h.2.1; omega, h.2.2.1, h.2.2.2⟩

theorem few_l1 (s : List (List Int)) (p : List S53) (l : Int) (dn : Bool) (hp : p.length ≤ 100) : ∀ (d k i : Nat), p.length - i = d → i ≤ p.length → d < k → (∃ b, mapsheetsref24_Few.l1 k (i : Int) s p l dn = some b ∧ (b = true → ∀ w ∈ p.drop i, w.f1.length ≤ 200)) := by
  intro d
  induction d with
  | zero =>
    intro k i hd hi hk
    obtain ⟨k, rfl⟩ : ∃ m, k = m + 1 := ⟨k - 1, by omega⟩
    refine ⟨true, by simp only [mapsheetsref24_Few.l1]; rw [if_neg (by omega)], fun _ w hw => ?_⟩
    rw [List.drop_of_length_le (by omega)] at hw; simp at hw
  | succ d ih =>
    intro k i hd hi hk
    obtain ⟨k, rfl⟩ : ∃ m, k = m + 1 := ⟨k - 1, by omega⟩
    simp only [mapsheetsref24_Few.l1]; rw [if_pos (by omega), if_pos (by omega), rdT_at p i (by omega)]
    by_cases h : ((p[i].f1.length : Int) > 200)
    · rw [if_pos h]; exact ⟨false, rfl, fun h => by cases h⟩
    · rw [if_neg h, w1 i (by omega)]
      obtain ⟨b, hb, h2⟩ := ih k (i + 1) (by omega) (by omega) (by omega)
      refine ⟨b, hb, fun hb w hw => ?_⟩
      rw [List.drop_eq_getElem_cons (show i < p.length by omega)] at hw
      rcases List.mem_cons.1 hw with rfl | hw
      · omega
      · exact h2 hb w hw

theorem few_l0 (s : List (List Int)) (p : List S53) (l : Int) (dn : Bool) (hs : s.length ≤ 100) (hp : p.length ≤ 100) : ∀ (d k i : Nat), s.length - i = d → i ≤ s.length → d + 101 < k → (∃ b, mapsheetsref24_Few.l0 k (i : Int) s p l dn = some b ∧ (b = true → (∀ x ∈ s.drop i, x.length ≤ 200) ∧ ∀ w ∈ p, w.f1.length ≤ 200)) := by
  intro d
  induction d with
  | zero =>
    intro k i hd hi hk
    obtain ⟨k, rfl⟩ : ∃ m, k = m + 1 := ⟨k - 1, by omega⟩
    obtain ⟨b, hb, h2⟩ := few_l1 s p l dn hp p.length k 0 (by omega) (by omega) (by omega)
    refine ⟨b, by simp only [mapsheetsref24_Few.l0]; rw [if_neg (by omega)]; exact hb, fun h => ⟨fun w hw => ?_, by simpa using h2 h⟩⟩
    rw [List.drop_of_length_le (by omega)] at hw; simp at hw
  | succ d ih =>
    intro k i hd hi hk
    obtain ⟨k, rfl⟩ : ∃ m, k = m + 1 := ⟨k - 1, by omega⟩
    simp only [mapsheetsref24_Few.l0]; rw [if_pos (by omega), if_pos (by omega), rdL_at s i (by omega)]
    by_cases h : ((s[i].length : Int) > 200)
    · rw [if_pos h]; exact ⟨false, rfl, fun h => by cases h⟩
    · rw [if_neg h, w1 i (by omega)]
      obtain ⟨b, hb, h2⟩ := ih k (i + 1) (by omega) (by omega) (by omega)
      refine ⟨b, hb, fun hb => ⟨fun w hw => ?_, (h2 hb).2⟩⟩
      rw [List.drop_eq_getElem_cons (show i < s.length by omega)] at hw
      rcases List.mem_cons.1 hw with rfl | hw
      · omega
      · exact (h2 hb).1 w hw

theorem few_ok (s : List (List Int)) (p : List S53) (l : Int) (dn : Bool) (k : Nat) (hk : 1000 < k) : ∃ b, mapsheetsref24_Few.f k s p l dn 100 = some b ∧ (b = true → FewP s p) := by
  obtain ⟨k, rfl⟩ : ∃ m, k = m + 1 := ⟨k - 1, by omega⟩
  unfold mapsheetsref24_Few.f
  by_cases h1 : (s.length : Int) > 100
  · rw [if_pos h1]; simp only [mapsheetsref24_Few.j0]; rw [if_pos trivial]; exact ⟨false, rfl, fun h => by cases h⟩
  rw [if_neg h1]
  by_cases h2 : (p.length : Int) > 100
  · simp only [mapsheetsref24_Few.j0]; rw [if_pos (by simpa using h2)]; exact ⟨false, rfl, fun h => by cases h⟩
  simp only [mapsheetsref24_Few.j0]; rw [if_neg (by simpa using h2)]
  obtain ⟨b, hb, h3⟩ := few_l0 s p l dn (by omega) (by omega) s.length k 0 (by omega) (by omega) (by omega)
  exact ⟨b, hb, fun h => ⟨by omega, by omega, by simpa using (h3 h).1, (h3 h).2⟩⟩
end Go.Proofs.Ytjicigagejihhaa.Dev
