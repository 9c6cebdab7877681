/- What the laws' own same of the device chapter answers. -/
import Derived.Test.YtjicigagejihhaaDev
import Derived.Test.YtjicigagejihhaaPAx0
import Derived.Test.YtjicigagejihhaaPAx26
namespace Go.Proofs.Ytjicigagejihhaa.Dev
open Go.RowKit Go.Proofs.Ytjicigagejihhaa.PA Go.Proofs.YtjicigagejihhaaW.PrintWords Go.Proofs.YtjicigagejihhaaW.PrintLast Go.Proofs.YtjicigagejihhaaW.PrintMore
theorem lsame_l0 (s s' : List (List Int)) (p p' : List S53) (h : Sm s p) (h' : Sm s' p') (l l' : Int) (dn dn' : Bool) (but : Int) (hl : s.length = s'.length)
    (he : ∀ j : Nat, j < s.length → (j : Int) ≠ but → rdd s p dn (j : Int) = rdd s' p' dn' (j : Int)) : ∀ (d k i : Nat), s.length - i = d → i ≤ s.length → d + 4000 < k → mapsheetslaw24_same.l0 k but (i : Int) s p l dn s' p' l' dn' = some true := by
  intro d
  induction d with
  | zero =>
    intro k i hd hi hk
    obtain ⟨k, rfl⟩ : ∃ m, k = m + 1 := ⟨k - 1, by omega⟩
    rw [mapsheetslaw24_same.l0, if_neg (by omega), hl]; simp
  | succ d ih =>
    intro k i hd hi hk
    obtain ⟨k, rfl⟩ : ∃ m, k = m + 1 := ⟨k - 1, by omega⟩
    have hs := h.1
    rw [mapsheetslaw24_same.l0, if_pos (by omega), read_ok s p h l dn (i : Int) k (by omega), read_ok s' p' h' l' dn' (i : Int) k (by omega), w1 i (by omega)]
    simp only [Option.bind_some]
    by_cases hb : (i : Int) = but
    · rw [if_pos hb]; exact ih k (i + 1) (by omega) (by omega) (by omega)
    · rw [if_neg hb, he i (by omega) hb, if_pos rfl, sameBytes _ k (by have := rdd_small s' p' h' dn' (i : Int); omega) (by omega)]
      simp only [Option.bind_some, if_true]
      exact ih k (i + 1) (by omega) (by omega) (by omega)

theorem lsame_ok (s s' : List (List Int)) (p p' : List S53) (h : Sm s p) (h' : Sm s' p') (l l' : Int) (dn dn' : Bool) (but : Int) (hl : s.length = s'.length)
    (he : ∀ j : Nat, j < s.length → (j : Int) ≠ but → rdd s p dn (j : Int) = rdd s' p' dn' (j : Int)) (k : Nat) (hk : 6000 < k) : mapsheetslaw24_same.f k s p l dn s' p' l' dn' but = some true := by
  unfold mapsheetslaw24_same.f
  exact lsame_l0 s s' p p' h h' l l' dn dn' but hl he s.length k 0 (by omega) (by omega) (by have := h.1; omega)
end Go.Proofs.Ytjicigagejihhaa.Dev
