/- Valid and Has of idset report what the reference does, on any list of at most 100 elements. -/
import Derived.Test.YtjdijlijojembaaIdsRef
import Derived.Test.YtjdijlijojembaaPAx7
import Derived.Test.YtjdijlijojembaaPAx6
namespace Go.Proofs.Ytjdijlijojembaa.Ids
open Go.RowKit Go.Proofs.Ytjdijlijojembaa.PA Go.Proofs.YtjdijlijojembaaW.PrintWords Go.Proofs.YtjdijlijojembaaW.PrintLast Go.Proofs.YtjdijlijojembaaW.PrintMore
theorem valids_l0 (l : List Int) (hl : l.length ≤ 1000) : ∀ (d k i : Nat), l.length - i = d → 1 ≤ i → d < k → ∃ b, idset_Valid.l0 k l (i : Int) = some b ∧ mapsheetsref04_Valid.l0 k l (i : Int) = some b := by
  intro d
  induction d with
  | zero =>
    intro k i hd hi hk
    obtain ⟨k, rfl⟩ : ∃ m, k = m + 1 := ⟨k - 1, by omega⟩
    exact ⟨true, by rw [idset_Valid.l0, if_neg (by omega)], by rw [mapsheetsref04_Valid.l0, if_neg (by omega)]⟩
  | succ d ih =>
    intro k i hd hi hk
    obtain ⟨k, rfl⟩ : ∃ m, k = m + 1 := ⟨k - 1, by omega⟩
    obtain ⟨j, rfl⟩ : ∃ j, i = j + 1 := ⟨i - 1, by omega⟩
    have e : wrap64 (((j + 1 : Nat) : Int) - 1) = (j : Int) := by unfold wrap64; omega
    have ea : idset_Valid.l0 (k + 1) l ((j + 1 : Nat) : Int) = if rd l (j : Int) ≥ rd l ((j + 1 : Nat) : Int) then some false else idset_Valid.l0 k l (wrap64 (((j + 1 : Nat) : Int) + 1)) := by
      rw [idset_Valid.l0, if_pos (by omega), e, if_pos (by omega), if_pos (by omega), if_pos (by omega)]
    have eb : mapsheetsref04_Valid.l0 (k + 1) l ((j + 1 : Nat) : Int) = if rd l ((j + 1 : Nat) : Int) ≤ rd l (j : Int) then some false else mapsheetsref04_Valid.l0 k l (wrap64 (((j + 1 : Nat) : Int) + 1)) := by
      rw [mapsheetsref04_Valid.l0, if_pos (by omega), if_pos (by omega), e, if_pos (by omega), if_pos (by omega)]
    rw [ea, eb, w1 (j + 1) (by omega)]
    by_cases h : rd l ((j + 1 : Nat) : Int) ≤ rd l (j : Int)
    · exact ⟨false, by rw [if_pos (show rd l (j : Int) ≥ rd l ((j + 1 : Nat) : Int) from h)], by rw [if_pos h]⟩
    · rw [if_neg (show ¬ rd l (j : Int) ≥ rd l ((j + 1 : Nat) : Int) from h), if_neg h]
      exact ih k (j + 1 + 1) (by omega) (by omega) (by omega)
end Go.Proofs.Ytjdijlijojembaa.Ids
namespace Go.Proofs.Ytjdijlijojembaa.Pure
open Go.RowKit Go.Proofs.Ytjdijlijojembaa.PA Go.Proofs.YtjdijlijojembaaW.PrintWords Go.Proofs.YtjdijlijojembaaW.PrintLast Go.Proofs.YtjdijlijojembaaW.PrintMore
theorem IdsetValid : mapsheetslaw04_IdsetValid.Pure := by
  intro l n _ _ _ _
  obtain ⟨k, hk⟩ : ∃ k : Nat, 300000 < k := ⟨300001, by omega⟩
  refine ⟨k, ?_⟩
  unfold mapsheetslaw04_IdsetValid.f
  obtain ⟨t, ht, h2⟩ := Ids.few_ok l [] []
  rw [ht, Option.bind_some, Ids.awake_ok k (by omega)]
  by_cases e : t = true
  · obtain ⟨h, _, _⟩ := h2 e
    obtain ⟨b, hb1, hb2⟩ := Ids.valids_l0 l (by omega) (l.length - 1) k 1 rfl (Nat.le_refl _) (by omega)
    have hb1 : idset_Valid.f k l = some b := hb1
    have hb2 : mapsheetsref04_Valid.f k l = some b := hb2
    rw [if_pos e, Option.bind_some, if_pos rfl, hb1, hb2, Ids.has_ok l n k (by omega) (by omega), Ids.rhas_ok l n k (by omega) (by omega)]
    simp
  · rw [if_neg e]; rfl
end Go.Proofs.Ytjdijlijojembaa.Pure
