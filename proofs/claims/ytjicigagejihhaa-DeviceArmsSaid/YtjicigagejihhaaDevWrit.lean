/- What the laws' own written of the device chapter answers. -/
import Derived.Test.YtjicigagejihhaaDev
import Derived.Test.YtjicigagejihhaaPAx0
import Derived.Test.YtjicigagejihhaaPAx29
namespace Go.Proofs.Ytjicigagejihhaa.Dev
open Go.RowKit Go.Proofs.Ytjicigagejihhaa.PA Go.Proofs.YtjicigagejihhaaW.PrintWords Go.Proofs.YtjicigagejihhaaW.PrintLast Go.Proofs.YtjicigagejihhaaW.PrintMore
/-- Writes of whole sectors in order, as long as the device does not crash. -/
def wrt : List S55 → Int → List (List Int) → List S53 → Int → Bool → List (List Int) × List S53 × Int × Bool × Int × Int
  | [], n, s, p, l, dn => (s, p, l, dn, n, 0)
  | o :: r, n, s, p, l, dn =>
    let x := wr s p l dn o.f0 (List.replicate 64 o.f1)
    if x.2.2.2.2 = 23 then (x.1, x.2.1, x.2.2.1, x.2.2.2.1, n, x.2.2.2.2) else if x.2.2.2.2 = 0 then wrt r (n + 1) x.1 x.2.1 x.2.2.1 x.2.2.2.1 else wrt r (n + 1) s p l dn

theorem written_l0 (ops : List S55) (ho : ops.length ≤ 100) : ∀ (d k i : Nat) (s : List (List Int)) (p : List S53) (l : Int) (dn : Bool), ops.length - i = d → i ≤ ops.length → d + 4000 < k → Sm s p → p.length + d < 1000 → l ≤ 9223372036854775807 →
    mapsheetslaw24_written.l0 k ops (i : Int) s p l dn = some (wrt (ops.drop i) (i : Int) s p l dn) := by
  intro d
  induction d with
  | zero =>
    intro k i s p l dn hd hi hk h hp hl
    obtain ⟨k, rfl⟩ : ∃ m, k = m + 1 := ⟨k - 1, by omega⟩
    obtain rfl : i = ops.length := by omega
    rw [mapsheetslaw24_written.l0, if_neg (by omega), List.drop_length]; rfl
  | succ d ih =>
    intro k i s p l dn hd hi hk h hp hl
    obtain ⟨k, rfl⟩ : ∃ m, k = m + 1 := ⟨k - 1, by omega⟩
    rw [mapsheetslaw24_written.l0, if_pos (by omega), if_pos (by omega), rd5_at ops i (by omega), block_ok _ k (by omega), Option.bind_some, write_ok s p h l hl dn _ _ k (by omega), Option.bind_some, w1 i (by omega), List.drop_eq_getElem_cons (show i < ops.length by omega), wrt]
    have h1 := wr_sm s p l dn ops[i].f0 (List.replicate 64 ops[i].f1) h (by omega) (by simp)
    have h2 := wr_left s p l dn ops[i].f0 (List.replicate 64 ops[i].f1) hl
    have h3 := wr_len s p l dn ops[i].f0 (List.replicate 64 ops[i].f1)
    generalize wr s p l dn ops[i].f0 (List.replicate 64 ops[i].f1) = x at h1 h2 h3 ⊢
    by_cases c1 : x.2.2.2.2 = 23
    · rw [if_pos c1, if_pos c1]
    · rw [if_neg c1, if_neg c1]
      by_cases c2 : x.2.2.2.2 = 0
      · rw [if_pos c2, if_pos c2]
        exact ih k (i + 1) _ _ _ _ (by omega) (by omega) (by omega) h1 (by omega) h2
      · rw [if_neg c2, if_neg c2]
        exact ih k (i + 1) _ _ _ _ (by omega) (by omega) (by omega) h (by omega) hl

theorem written_ok (ops : List S55) (ho : ops.length ≤ 100) (s : List (List Int)) (p : List S53) (l : Int) (dn : Bool) (h : Sm s p) (hp : p.length ≤ 800) (hl : l ≤ 9223372036854775807) (k : Nat) (hk : 5000 < k) : mapsheetslaw24_written.f k s p l dn ops = some (wrt ops 0 s p l dn) := by
  unfold mapsheetslaw24_written.f
  have := written_l0 ops ho ops.length k 0 s p l dn (by omega) (by omega) (by omega) h (by omega) hl
  rw [List.drop_zero] at this
  exact this

theorem wr_keeps (s : List (List Int)) (p : List S53) (l : Int) (dn : Bool) (i : Int) (b : List Int) (he : (wr s p l dn i b).2.2.2.2 = 23 ∨ (wr s p l dn i b).2.2.2.2 = 0) : (wr s p l dn i b).1 = s := by
  unfold wr at he ⊢
  repeat' split
  all_goals (first | rfl | skip)
  all_goals (exfalso; revert he; simp [*])

theorem wrt_keeps : ∀ (ops : List S55) (n : Int) (s : List (List Int)) (p : List S53) (l : Int) (dn : Bool), (wrt ops n s p l dn).1 = s := by
  intro ops
  induction ops with
  | nil => intro n s p l dn; rfl
  | cons o r ih =>
    intro n s p l dn
    rw [wrt]
    have hk := wr_keeps s p l dn o.f0 (List.replicate 64 o.f1)
    generalize wr s p l dn o.f0 (List.replicate 64 o.f1) = x at hk ⊢
    by_cases c1 : x.2.2.2.2 = 23
    · rw [if_pos c1]; exact hk (.inl c1)
    · rw [if_neg c1]
      by_cases c2 : x.2.2.2.2 = 0
      · rw [if_pos c2, ih]; exact hk (.inr c2)
      · rw [if_neg c2, ih]

theorem wrt_sm : ∀ (ops : List S55) (n : Int) (s : List (List Int)) (p : List S53) (l : Int) (dn : Bool), Sm s p → p.length + ops.length < 1000 → Sm (wrt ops n s p l dn).1 (wrt ops n s p l dn).2.1 := by
  intro ops
  induction ops with
  | nil => intro n s p l dn h _; exact h
  | cons o r ih =>
    intro n s p l dn h hp
    rw [List.length_cons] at hp
    rw [wrt]
    have h1 := wr_sm s p l dn o.f0 (List.replicate 64 o.f1) h (by omega) (by simp)
    have h3 := wr_len s p l dn o.f0 (List.replicate 64 o.f1)
    generalize wr s p l dn o.f0 (List.replicate 64 o.f1) = x at h1 h3 ⊢
    by_cases c1 : x.2.2.2.2 = 23
    · rw [if_pos c1]; exact h1
    · rw [if_neg c1]
      by_cases c2 : x.2.2.2.2 = 0
      · rw [if_pos c2]; exact ih _ _ _ _ _ h1 (by omega)
      · rw [if_neg c2]; exact ih _ _ _ _ _ h (by omega)

/-- Without an arm nothing crashes. -/
theorem wrt_free : ∀ (ops : List S55) (n : Int) (s : List (List Int)) (p : List S53), (wrt ops n s p (-1) false).2.2.1 = -1 ∧ (wrt ops n s p (-1) false).2.2.2.1 = false ∧ (wrt ops n s p (-1) false).2.2.2.2.2 = 0 := by
  intro ops
  induction ops with
  | nil => intro n s p; exact ⟨rfl, rfl, rfl⟩
  | cons o r ih =>
    intro n s p
    rw [wrt]
    have hw : wr s p (-1) false o.f0 (List.replicate 64 o.f1) = (s, p ++ [⟨o.f0, List.replicate 64 o.f1⟩], -1, false, 0) ∨ wr s p (-1) false o.f0 (List.replicate 64 o.f1) = ([], [], 0, false, 2) := by
      unfold wr
      rw [if_neg (by decide)]
      by_cases hi : 0 ≤ o.f0 ∧ o.f0 < (s.length : Int)
      · left; rw [if_pos hi, if_pos (by simp), if_neg (by decide), if_neg (by decide)]
      · right; rw [if_neg hi]
    rcases hw with hw | hw
    · rw [hw]; exact ih _ _ _
    · rw [hw]; exact ih _ _ _

theorem wrt_left : ∀ (ops : List S55) (n : Int) (s : List (List Int)) (p : List S53) (l : Int) (dn : Bool), l ≤ 9223372036854775807 → (wrt ops n s p l dn).2.2.1 ≤ 9223372036854775807 := by
  intro ops
  induction ops with
  | nil => intro n s p l dn h; exact h
  | cons o r ih =>
    intro n s p l dn hl
    rw [wrt]
    have h1 := wr_left s p l dn o.f0 (List.replicate 64 o.f1) hl
    generalize wr s p l dn o.f0 (List.replicate 64 o.f1) = x at h1 ⊢
    by_cases c1 : x.2.2.2.2 = 23
    · rw [if_pos c1]; exact h1
    · rw [if_neg c1]
      by_cases c2 : x.2.2.2.2 = 0
      · rw [if_pos c2]; exact ih _ _ _ _ _ h1
      · rw [if_neg c2]; exact ih _ _ _ _ _ hl
end Go.Proofs.Ytjicigagejihhaa.Dev
