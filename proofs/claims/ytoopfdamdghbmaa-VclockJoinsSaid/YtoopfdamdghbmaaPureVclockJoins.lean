/- The clock of two lists together covers what the clocks of both cover, and Missing returns just what Knows does not report, for any two lists of at most 60 transactions each. -/
import Derived.Test.YtoopfdamdghbmaaRd
import Derived.Test.YtoopfdamdghbmaaVckRef
import Derived.Test.YtoopfdamdghbmaaPAx25
namespace Go.Proofs.Ytoopfdamdghbmaa.Vck
set_option linter.unusedVariables false
set_option linter.unusedSimpArgs false
open Go.RowKit Go.Proofs.Ytoopfdamdghbmaa.PA Go.Proofs.YtoopfdamdghbmaaW.PrintWords Go.Proofs.YtoopfdamdghbmaaW.PrintLast Go.Proofs.YtoopfdamdghbmaaW.PrintMore Go.Proofs.Ytoopfdamdghbmaa.Vck
theorem joins_l0 (l : List S32) (c : List Int) (hc : c.length ≤ 1000) (hl : l.length ≤ 200) : ∀ (d k i : Nat), l.length - i = d → i ≤ l.length → d + 10000 < k → mapsheetslaw27_VclockJoins.l0 k l ((((txs l).take i).filter (missed c)).length : Int) (i : Int) c = some true := by
  intro d
  have hx := txs_len l
  induction d with
  | zero =>
    intro k i hd hi hk
    obtain ⟨k, rfl⟩ : ∃ m, k = m + 1 := ⟨k - 1, by omega⟩
    have hall : (txs l).filter (missed []) = txs l := by
      rw [List.filter_eq_self]
      intro x _
      simp [missed, cnt]
      omega
    rw [mapsheetslaw27_VclockJoins.l0, if_neg (by omega), awake_ok k (by omega), Option.bind_some, if_pos rfl, txns_ok l (by omega) k (by omega), Option.bind_some, missing_ok _ _ (by omega), Option.bind_some, List.take_of_length_le (by omega), if_pos rfl, Option.bind_some, missing_ok _ _ (by omega), hall, Option.bind_some, hx]
    simp
  | succ d ih =>
    intro k i hd hi hk
    obtain ⟨k, rfl⟩ : ∃ m, k = m + 1 := ⟨k - 1, by omega⟩
    have hlt : i < l.length := by omega
    have hf : (((txs l).take i).filter (missed c)).length ≤ l.length := by
      refine Nat.le_trans (List.length_filter_le _ _) ?_
      rw [List.length_take]; omega
    have := ih k (i + 1) (by omega) (by omega) (by omega)
    have hg : (txs l)[i]'(by omega) = tx l[i] (i : Int) := by
      unfold txs
      simp [rd32_at l i hlt]
    rw [List.take_succ_eq_append_getElem (by omega), List.filter_append, hg] at this
    rw [mapsheetslaw27_VclockJoins.l0, if_pos (by omega), if_pos (by omega), rd32_at l i hlt, w1 i (by omega)]
    unfold vclock_Knows.f
    rw [Option.bind_some]
    have hm : missed c (tx l[i] (i : Int)) = !(decide (1 ≤ l[i].f0) && decide (l[i].f0 ≤ 8) && decide (1 ≤ l[i].f1) && decide (l[i].f1 ≤ cnt c (l[i].f0 - 1).toNat)) := rfl
    cases e : (decide (1 ≤ l[i].f0) && decide (l[i].f0 ≤ 8) && decide (1 ≤ l[i].f1) && decide (l[i].f1 ≤ cnt c (l[i].f0 - 1).toNat))
    · rw [e] at hm
      rw [if_neg (by decide), show wrap64 (((((txs l).take i).filter (missed c)).length : Int) + 1) = ((((txs l).take i).filter (missed c)).length : Int) + 1 by unfold wrap64; omega]
      have e2 : List.filter (missed c) [tx l[i] (i : Int)] = [tx l[i] (i : Int)] := by simp [hm]
      rw [e2, List.length_append] at this
      exact this
    · rw [e] at hm
      rw [if_pos rfl]
      have e2 : List.filter (missed c) [tx l[i] (i : Int)] = [] := by simp [hm]
      rw [e2, List.append_nil] at this
      exact this
end Go.Proofs.Ytoopfdamdghbmaa.Vck
namespace Go.Proofs.Ytoopfdamdghbmaa.Pure
open Go.RowKit Go.Proofs.Ytoopfdamdghbmaa.PA Go.Proofs.YtoopfdamdghbmaaW.PrintWords Go.Proofs.YtoopfdamdghbmaaW.PrintLast Go.Proofs.YtoopfdamdghbmaaW.PrintMore Go.Proofs.Ytoopfdamdghbmaa.Vck
theorem VclockJoins : ∀ (x0 : List (S32)) (x1 : List (S32)), PA.wfT22 x0 → PA.wfT22 x1 → ∃ k, PA.mapsheetslaw27_VclockJoins.f k x0 x1 = some true := by
  intro x0 x1 _ _
  refine ⟨100000, ?_⟩
  unfold mapsheetslaw27_VclockJoins.f
  obtain ⟨t, ht, h2⟩ := few_ok x0 x1
  rw [ht, Option.bind_some]
  by_cases e : t = true
  · obtain ⟨h, h'⟩ := h2 e
    have hx := txs_len x0
    have hx' := txs_len x1
    have hx2 := txs_len (x0 ++ x1)
    rw [List.length_append] at hx2
    rw [if_pos e, Option.bind_some, if_pos (by simp only [List.length_nil]; omega), Option.bind_some, List.nil_append, if_pos (by omega), Option.bind_some, txns_ok _ (by rw [List.length_append]; omega) _ (by rw [List.length_append]; omega), Option.bind_some, of_ok _ (by omega), Option.bind_some, txns_ok _ (by omega) _ (by omega), Option.bind_some, of_ok _ (by omega), Option.bind_some, txns_ok _ (by omega) _ (by omega), Option.bind_some, of_ok _ (by omega), Option.bind_some]
    unfold vclock_Merge.f
    rw [Option.bind_some]
    obtain ⟨t3, h3, h4⟩ := covers_ok (trim (ofF (txs (x0 ++ x1)))) (trim (mxc (cnt (trim (ofF (txs x0)))) (cnt (trim (ofF (txs x1))))))
    have hle : Le (trim (mxc (cnt (trim (ofF (txs x0)))) (cnt (trim (ofF (txs x1)))))) (trim (ofF (txs (x0 ++ x1)))) := by
      intro j hj
      rw [cnt_trim _ (fun j => by unfold mxc; have := cnt_pos (trim (ofF (txs x0))) j; omega) j hj, cnt_trim _ (fun j => ofF_pos _ j) j hj]
      unfold mxc
      rw [cnt_trim _ (fun j => ofF_pos _ j) j hj, cnt_trim _ (fun j => ofF_pos _ j) j hj]
      have g1 := ofF_le (l := txs x0) (m := txs (x0 ++ x1)) j (fun z hz => by
        rw [has_txs] at hz ⊢
        obtain ⟨x, hx, hz⟩ := hz
        exact ⟨x, List.mem_append_left _ hx, hz⟩)
      have g2 := ofF_le (l := txs x1) (m := txs (x0 ++ x1)) j (fun z hz => by
        rw [has_txs] at hz ⊢
        obtain ⟨x, hx, hz⟩ := hz
        exact ⟨x, List.mem_append_right _ hx, hz⟩)
      omega
    rw [h3, Option.bind_some, if_pos (h4.2 hle)]
    have hfin := joins_l0 (x0 ++ x1) (trim (ofF (txs (x0 ++ x1)))) (by have := trim_len (ofF (txs (x0 ++ x1))); omega) (by rw [List.length_append]; omega) (x0 ++ x1).length 100000 0 (by omega) (by omega) (by rw [List.length_append]; omega)
    exact hfin
  · rw [if_neg e, awake_ok _ (by omega)]; rfl
end Go.Proofs.Ytoopfdamdghbmaa.Pure
