/- Clocks are a lattice in vclock: Merge is the least upper bound in the order of Cmp, for any three clocks of at most 20 counts each. -/
import Derived.Test.YtoopfdamdghbmaaRd
import Derived.Test.YtoopfdamdghbmaaVckRef
import Derived.Test.YtoopfdamdghbmaaPAx25
namespace Go.Proofs.Ytoopfdamdghbmaa.Vck
set_option linter.unusedVariables false
set_option linter.unusedSimpArgs false
open Go.RowKit Go.Proofs.Ytoopfdamdghbmaa.PA Go.Proofs.YtoopfdamdghbmaaW.PrintWords Go.Proofs.YtoopfdamdghbmaaW.PrintLast Go.Proofs.YtoopfdamdghbmaaW.PrintMore
def mrg (a b : List Int) : List Int := trim (mxc (cnt a) (cnt b))
theorem mxc_pos (a b : List Int) (j : Nat) : 0 ≤ mxc (cnt a) (cnt b) j := by unfold mxc; have := cnt_pos a j; omega
theorem cnt_mrg (a b : List Int) (j : Nat) (hj : j < 8) : cnt (mrg a b) j = max (cnt a j) (cnt b j) := cnt_trim _ (mxc_pos a b) j hj
theorem mrg_comm (a b : List Int) : mrg a b = mrg b a := trim_congr fun j _ => by unfold mxc; omega
theorem mrg_assoc (a b c : List Int) : mrg (mrg a b) c = mrg a (mrg b c) := trim_congr fun j hj => by
  unfold mxc
  rw [cnt_mrg a b j hj, cnt_mrg b c j hj]
  omega
theorem mrg_self (a b : List Int) : mrg (mrg a b) (mrg a b) = mrg a b := trim_congr fun j hj => by
  unfold mxc
  rw [cnt_mrg a b j hj]
  omega
theorem mrg_len (a b : List Int) : (mrg a b).length ≤ 8 := trim_len _
theorem covers_eq (a b : List Int) {t : Bool} (h : t = true ↔ Le b a) : mapsheetslaw27_covers.f a b = some t := by
  obtain ⟨s, h1, h2⟩ := covers_ok a b
  rw [h1]
  congr 1
  rw [Bool.eq_iff_iff, h2, h]
open Classical in
noncomputable def leB (b a : List Int) : Bool := decide (Le b a)
theorem covers_b (a b : List Int) : mapsheetslaw27_covers.f a b = some (leB b a) := covers_eq a b (by unfold leB; simp)
theorem leB_iff (a b : List Int) : leB a b = true ↔ Le a b := by unfold leB; simp
theorem le_mrg (a b c : List Int) (h : Le a c) : leB b c = leB (mrg a b) c := by
  rw [Bool.eq_iff_iff, leB_iff, leB_iff]
  constructor
  · intro h2 j hj
    have h1 := h j hj
    have h2 := h2 j hj
    rw [cnt_mrg a b j hj]
    omega
  · intro h2 j hj
    have h2 := h2 j hj
    rw [cnt_mrg a b j hj] at h2
    omega
theorem cmp_turned (F G : Nat → Int) : (cmpOf F G).2 = (cmpOf G F).2 ∧ (cmpOf F G).1 = wrap64 (-(cmpOf G F).1) := by
  unfold cmpOf
  cases anyLt F G 8 <;> cases anyLt G F 8 <;> exact ⟨rfl, by simp [wrap64]⟩
theorem orders_j1 (a b c : List Int) (k : Nat) (hk : 10000 < k) : mapsheetslaw27_VclockOrders.j1 k false a b c = some true := by
  obtain ⟨k, rfl⟩ : ∃ m, k = m + 1 := ⟨k - 1, by omega⟩
  obtain ⟨h1, h2⟩ := cmp_turned (cnt a) (cnt b)
  rw [mapsheetslaw27_VclockOrders.j1, if_neg (by decide)]
  unfold vclock_Cmp.f
  rw [Option.bind_some, Option.bind_some, awake_ok k (by omega), Option.bind_some, if_pos rfl, if_pos (by rw [h1]; simp), if_pos h2, covers_b, Option.bind_some]
  by_cases e1 : leB b a = true
  · rw [if_pos e1, covers_b, Option.bind_some]
    by_cases e2 : leB c b = true
    · rw [if_pos e2, covers_b, Option.bind_some]
      congr 1
      rw [leB_iff] at e1 e2 ⊢
      intro j hj
      have := e1 j hj
      have := e2 j hj
      omega
    · rw [if_neg e2]
  · rw [if_neg e1]
theorem orders_j0 (a b c : List Int) (k : Nat) (hk : 20000 < k) : mapsheetslaw27_VclockOrders.j0 k false a b c (mrg a b) = some true := by
  obtain ⟨k, rfl⟩ : ∃ m, k = m + 1 := ⟨k - 1, by omega⟩
  rw [mapsheetslaw27_VclockOrders.j0, if_neg (by decide), covers_b, Option.bind_some]
  by_cases e1 : leB a c = true
  · rw [if_pos e1, covers_b, Option.bind_some, covers_b, Option.bind_some, ← le_mrg a b c ((leB_iff _ _).1 e1), show (leB b c != leB b c) = false by simp]
    exact orders_j1 a b c k (by omega)
  · rw [if_neg e1]
    exact orders_j1 a b c k (by omega)
end Go.Proofs.Ytoopfdamdghbmaa.Vck
namespace Go.Proofs.Ytoopfdamdghbmaa.Pure
open Go.RowKit Go.Proofs.Ytoopfdamdghbmaa.PA Go.Proofs.YtoopfdamdghbmaaW.PrintWords Go.Proofs.YtoopfdamdghbmaaW.PrintLast Go.Proofs.YtoopfdamdghbmaaW.PrintMore Go.Proofs.Ytoopfdamdghbmaa.Vck
theorem VclockOrders : ∀ (x0 : S27) (x1 : S27) (x2 : S27), PA.wfT27 x0 → PA.wfT27 x1 → PA.wfT27 x2 → ∃ k, PA.mapsheetslaw27_VclockOrders.f k x0.f0 x1.f0 x2.f0 = some true := by
  intro x0 x1 x2 _ _ _
  refine ⟨100000, ?_⟩
  unfold mapsheetslaw27_VclockOrders.f
  obtain ⟨t, ht, h2⟩ := small_ok x0.f0 x1.f0 x2.f0
  rw [ht, Option.bind_some]
  by_cases e : t = true
  · have hm : ∀ a b : List Int, vclock_Merge.f a b = some (mrg a b) := fun _ _ => rfl
    generalize x0.f0 = a
    generalize x1.f0 = b
    generalize x2.f0 = c
    have ha : leB a (mrg a b) = true := (leB_iff _ _).2 fun j hj => by rw [cnt_mrg a b j hj]; omega
    have hb : leB b (mrg a b) = true := (leB_iff _ _).2 fun j hj => by rw [cnt_mrg a b j hj]; omega
    have l1 := mrg_len a b
    have l2 := mrg_len (mrg a b) c
    rw [if_pos e, hm, Option.bind_some, covers_b, ha, Option.bind_some, if_pos rfl, covers_b, hb, Option.bind_some, if_pos rfl, hm, Option.bind_some, same_eq (mrg_comm a b) _ (by omega) (by omega), Option.bind_some, if_pos rfl, hm, Option.bind_some, hm, Option.bind_some, hm, Option.bind_some, same_eq (mrg_assoc a b c) _ (by omega) (by omega), Option.bind_some, if_pos rfl, hm, Option.bind_some, mrg_self, same_ok _ _ (by omega) (by omega), Option.bind_some]
    exact orders_j0 a b c 100000 (by omega)
  · rw [if_neg e, awake_ok _ (by omega)]; rfl
end Go.Proofs.Ytoopfdamdghbmaa.Pure
