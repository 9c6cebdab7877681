/- What the printed functions of vclock's reference answer. -/
import Derived.Test.YtoopfdamdghbmaaVck
import Derived.Test.YtoopfdamdghbmaaPAx10
import Derived.Test.YtoopfdamdghbmaaPAx11
import Derived.Test.YtoopfdamdghbmaaPAx12
import Derived.Test.YtoopfdamdghbmaaPAx14
import Derived.Test.YtoopfdamdghbmaaPAx15
import Derived.Test.YtoopfdamdghbmaaPAx17
import Derived.Test.YtoopfdamdghbmaaPAx18
import Derived.Test.YtoopfdamdghbmaaPAx19
import Derived.Test.YtoopfdamdghbmaaPAx21
import Derived.Test.YtoopfdamdghbmaaPAx22
namespace Go.Proofs.Ytoopfdamdghbmaa.Vck
set_option linter.unusedVariables false
set_option linter.unusedSimpArgs false
open Go.RowKit Go.Proofs.Ytoopfdamdghbmaa.PA Go.Proofs.YtoopfdamdghbmaaW.PrintWords Go.Proofs.YtoopfdamdghbmaaW.PrintLast Go.Proofs.YtoopfdamdghbmaaW.PrintMore
theorem rcount_ok (l : List Int) (a : Int) (hl : l.length ≤ 100000) : mapsheetsref27_count.f l a = some (if 1 ≤ a ∧ a ≤ 8 then cnt l (a - 1).toNat else 0) := by
  unfold mapsheetsref27_count.f
  by_cases h1 : a < 1
  · rw [if_pos h1, if_neg (by omega)]
  · by_cases h2 : a > 8
    · rw [if_neg h1, if_pos h2, if_neg (by omega)]
    · have h8 : 1 ≤ a ∧ a ≤ 8 := by omega
      rw [if_neg h1, if_neg h2, if_pos h8]
      by_cases h3 : a > (l.length : Int)
      · rw [if_pos h3]
        unfold cnt
        rw [List.getD_eq_getElem?_getD, List.getElem?_eq_none (by omega)]
        rfl
      · have e : wrap64 (a - 1) = a - 1 := by unfold wrap64; omega
        rw [if_neg h3, e, if_pos (by omega), if_pos (by omega)]
        unfold cnt mx rd
        congr 1
        split <;> omega
theorem rcount_at (l : List Int) (j : Nat) (hj : j < 8) (hl : l.length ≤ 100000) : mapsheetsref27_count.f l ((j : Int) + 1) = some (cnt l j) := by
  rw [rcount_ok l _ hl, if_pos (by omega)]
  congr 2
  omega
theorem rknows_ok (l : List Int) (a n : Int) (hl : l.length ≤ 100000) : mapsheetsref27_Knows.f l a n = vclock_Knows.f l a n := by
  unfold mapsheetsref27_Knows.f vclock_Knows.f
  rw [rcount_ok l a hl]
  by_cases h1 : n ≥ 1
  · rw [if_pos h1, Option.bind_some]
    congr 1
    by_cases h2 : 1 ≤ a ∧ a ≤ 8
    · rw [if_pos h2]; simp [h1, h2.1, h2.2]
    · rw [if_neg h2]
      have h3 : ¬ (n ≤ 0) := by omega
      by_cases h4 : 1 ≤ a
      · have h5 : ¬ a ≤ 8 := fun h => h2 ⟨h4, h⟩
        simp [h3, h5]
      · simp [h3, h4]
  · rw [if_neg h1]
    simp [h1]
theorem rvalid_l0 (l : List Int) (hl : l.length ≤ 100000) : ∀ (d k i : Nat), l.length - i = d → i ≤ l.length → d < k → mapsheetsref27_Valid.l0 k (i : Int) l = some (decide (l.length ≤ 8) && decide (((l.drop i).filter badCount).length = 0)) := by
  intro d
  induction d with
  | zero =>
    intro k i hd hi hk
    obtain ⟨k, rfl⟩ : ∃ m, k = m + 1 := ⟨k - 1, by omega⟩
    rw [mapsheetsref27_Valid.l0, if_neg (by omega), List.drop_of_length_le (by omega)]
    congr 1
    simp only [List.filter_nil, List.length_nil, decide_true, Bool.and_true]
    rw [Bool.eq_iff_iff, decide_eq_true_eq, decide_eq_true_eq]
    omega
  | succ d ih =>
    intro k i hd hi hk
    obtain ⟨k, rfl⟩ : ∃ m, k = m + 1 := ⟨k - 1, by omega⟩
    rw [mapsheetsref27_Valid.l0, if_pos (by omega), if_pos (by omega), rd_at l i (by omega), w1 i (by omega), List.drop_eq_getElem_cons (show i < l.length by omega)]
    by_cases h1 : l[i] < 0
    · rw [if_pos h1, List.filter_cons_of_pos (by simp [badCount, h1])]
      simp
    · by_cases h2 : l[i] > 1073741824
      · rw [if_neg h1, if_pos h2, List.filter_cons_of_pos (by simp [badCount, h2])]
        simp
      · rw [if_neg h1, if_neg h2, ih k (i + 1) (by omega) (by omega) (by omega)]
        rw [List.filter_cons_of_neg (by simp [badCount]; omega)]
theorem rvalid_ok (l : List Int) (hl : l.length ≤ 1000) (k : Nat) (hk : 1000 < k) : mapsheetsref27_Valid.f k l = vclock_Valid.f l := by
  unfold mapsheetsref27_Valid.f vclock_Valid.f
  exact rvalid_l0 l (by omega) l.length k 0 (by omega) (by omega) (by omega)
theorem rcovers_l0 (a b : List Int) (ha : a.length ≤ 100000) (hb : b.length ≤ 100000) : ∀ (d k i : Nat), 8 - i = d → i ≤ 8 → d < k → ∃ t, mapsheetsref27_Covers.l0 k ((i : Int) + 1) a b = some t ∧ (t = true ↔ ∀ j, i ≤ j → j < 8 → cnt b j ≤ cnt a j) := by
  intro d
  induction d with
  | zero =>
    intro k i hd hi hk
    obtain ⟨k, rfl⟩ : ∃ m, k = m + 1 := ⟨k - 1, by omega⟩
    rw [mapsheetsref27_Covers.l0, if_neg (by omega)]
    exact ⟨_, rfl, by simp; intro j h1 h2; omega⟩
  | succ d ih =>
    intro k i hd hi hk
    obtain ⟨k, rfl⟩ : ∃ m, k = m + 1 := ⟨k - 1, by omega⟩
    rw [mapsheetsref27_Covers.l0, if_pos (by omega), rcount_at b i (by omega) hb, Option.bind_some, rcount_at a i (by omega) ha, Option.bind_some]
    by_cases h : cnt b i > cnt a i
    · rw [if_pos h]
      refine ⟨_, rfl, ?_⟩
      simp only [Bool.false_eq_true, false_iff]
      intro hh
      have := hh i (Nat.le_refl _) (by omega)
      omega
    · rw [if_neg h, show wrap64 ((i : Int) + 1 + 1) = ((i + 1 : Nat) : Int) + 1 by unfold wrap64; omega]
      obtain ⟨t, h1, h2⟩ := ih k (i + 1) (by omega) (by omega) (by omega)
      refine ⟨t, h1, h2.trans ⟨fun hh j hj1 hj2 => ?_, fun hh j hj1 hj2 => hh j (by omega) hj2⟩⟩
      by_cases e : j = i
      · subst e; omega
      · exact hh j (by omega) hj2
theorem rcovers_ok (a b : List Int) (ha : a.length ≤ 100000) (hb : b.length ≤ 100000) (k : Nat) (hk : 10 < k) : mapsheetsref27_Covers.f k a b = some (!(anyLt (cnt a) (cnt b) 8)) := by
  obtain ⟨t, h1, h2⟩ := rcovers_l0 a b ha hb 8 k 0 (by omega) (by omega) (by omega)
  unfold mapsheetsref27_Covers.f
  have h3 : mapsheetsref27_Covers.l0 k 1 a b = some t := h1
  rw [h3]
  have h4 := anyLt_false (cnt a) (cnt b) 8
  congr 1
  cases e : anyLt (cnt a) (cnt b) 8
  · rw [e] at h4
    exact h2.2 fun j _ hj => h4.1 rfl j hj
  · cases t
    · rfl
    · have := h4.2 fun j hj => h2.1 rfl j (Nat.zero_le _) hj
      rw [e] at this; cases this
theorem rcmp_ok (a b : List Int) (ha : a.length ≤ 100000) (hb : b.length ≤ 100000) (k : Nat) (hk : 10 < k) : mapsheetsref27_Cmp.f k a b = some (cmpOf (cnt a) (cnt b)) := by
  obtain ⟨k, rfl⟩ : ∃ m, k = m + 1 := ⟨k - 1, by omega⟩
  unfold mapsheetsref27_Cmp.f
  rw [rcovers_ok a b ha hb _ hk, Option.bind_some, rcovers_ok b a hb ha _ hk, Option.bind_some]
  unfold cmpOf
  cases e1 : anyLt (cnt a) (cnt b) 8 <;> cases e2 : anyLt (cnt b) (cnt a) 8 <;> rfl
theorem rshort_ok (F : Nat → Int) : ∀ (n k : Nat), n ≤ 1000 → n < k → mapsheetsref27_short.l0 k ((List.range n).map F) = some ((List.range (topN F n)).map F)
  | 0, k, _, hk => by
    obtain ⟨k, rfl⟩ : ∃ m, k = m + 1 := ⟨k - 1, by omega⟩
    rw [mapsheetsref27_short.l0, if_neg (by simp)]; rfl
  | n + 1, k, hn, hk => by
    obtain ⟨k, rfl⟩ : ∃ m, k = m + 1 := ⟨k - 1, by omega⟩
    have hl : ((List.range (n + 1)).map F).length = n + 1 := by simp
    have e : wrap64 (((((List.range (n + 1)).map F).length : Nat) : Int) - 1) = (n : Int) := by rw [hl]; unfold wrap64; omega
    have hr : rd ((List.range (n + 1)).map F) (n : Int) = F n := by rw [rd_at _ n (by omega)]; simp
    have ht : ((List.range (n + 1)).map F).take n = (List.range n).map F := by
      rw [List.range_succ, List.map_append, List.take_append_of_le_length (by simp), List.take_of_length_le (by simp)]
    rw [mapsheetsref27_short.l0, if_pos (by omega), e, if_pos (by omega), if_pos (by omega), hr, topN]
    by_cases h : F n = 0
    · rw [if_pos h, if_pos (by omega), Int.toNat_natCast, ht, if_pos h]
      exact rshort_ok F n k (by omega) (by omega)
    · rw [if_neg h, if_neg h]
theorem rmerge_l0 (a b : List Int) (ha : a.length ≤ 100000) (hb : b.length ≤ 100000) : ∀ (d k i : Nat), 8 - i = d → i ≤ 8 → d + 20 < k → mapsheetsref27_Merge.l0 k ((List.range i).map (mxc (cnt a) (cnt b))) ((i : Int) + 1) a b = some (trim (mxc (cnt a) (cnt b))) := by
  intro d
  induction d with
  | zero =>
    intro k i hd hi hk
    obtain ⟨k, rfl⟩ : ∃ m, k = m + 1 := ⟨k - 1, by omega⟩
    obtain rfl : i = 8 := by omega
    rw [mapsheetsref27_Merge.l0, if_neg (by omega)]
    unfold mapsheetsref27_short.f
    rw [rshort_ok _ 8 k (by omega) (by omega)]; rfl
  | succ d ih =>
    intro k i hd hi hk
    obtain ⟨k, rfl⟩ : ∃ m, k = m + 1 := ⟨k - 1, by omega⟩
    rw [mapsheetsref27_Merge.l0, if_pos (by omega), rcount_at a i (by omega) ha, Option.bind_some, rcount_at b i (by omega) hb, Option.bind_some, if_pos (by simp; omega), show wrap64 ((i : Int) + 1 + 1) = ((i + 1 : Nat) : Int) + 1 by unfold wrap64; omega]
    have := ih k (i + 1) (by omega) (by omega) (by omega)
    rw [List.range_succ, List.map_append] at this
    have e : mx (cnt a i) (cnt b i) = mxc (cnt a) (cnt b) i := by unfold mx mxc; split <;> omega
    rw [e]
    exact this
theorem rmerge_ok (a b : List Int) (ha : a.length ≤ 100000) (hb : b.length ≤ 100000) (k : Nat) (hk : 100 < k) : mapsheetsref27_Merge.f k a b = vclock_Merge.f a b :=
  rmerge_l0 a b ha hb 8 k 0 (by omega) (by omega) (by omega)
theorem rhas_l0 (l : List S46) (k0 : Nat) (n : Int) (hl : l.length ≤ 100000) : ∀ (d k i : Nat), l.length - i = d → i ≤ l.length → d < k → ∃ t, mapsheetsref27_has.l0 k l ((k0 : Int) + 1) n (i : Int) = some t ∧ (t = true ↔ Has (l.drop i) k0 n) := by
  intro d
  induction d with
  | zero =>
    intro k i hd hi hk
    obtain ⟨k, rfl⟩ : ∃ m, k = m + 1 := ⟨k - 1, by omega⟩
    rw [mapsheetsref27_has.l0, if_neg (by omega), List.drop_of_length_le (by omega)]
    exact ⟨_, rfl, by simp [Has]⟩
  | succ d ih =>
    intro k i hd hi hk
    obtain ⟨k, rfl⟩ : ∃ m, k = m + 1 := ⟨k - 1, by omega⟩
    obtain ⟨t, h1, h2⟩ := ih k (i + 1) (by omega) (by omega) (by omega)
    rw [mapsheetsref27_has.l0, if_pos (by omega), if_pos (by omega), rd46_at l i (by omega), w1 i (by omega), List.drop_eq_getElem_cons (show i < l.length by omega), h1]
    have hc : Has (l[i] :: l.drop (i + 1)) k0 n ↔ (l[i].f0 = (k0 : Int) + 1 ∧ l[i].f1 = n) ∨ Has (l.drop (i + 1)) k0 n := by
      unfold Has; simp only [List.mem_cons, exists_eq_or_imp]
    rw [hc]
    by_cases e1 : l[i].f0 = (k0 : Int) + 1
    · by_cases e2 : l[i].f1 = n
      · rw [if_pos e1, if_pos e2]; exact ⟨_, rfl, by simp [e1, e2]⟩
      · rw [if_pos e1, if_neg e2]; exact ⟨_, rfl, by simp [e2, h2]⟩
    · rw [if_neg e1]; exact ⟨_, rfl, by simp [e1, h2]⟩
theorem rhas_ok (l : List S46) (k0 : Nat) (n : Int) (hl : l.length ≤ 100000) (k : Nat) (hk : l.length < k) : ∃ t, mapsheetsref27_has.f k l ((k0 : Int) + 1) n = some t ∧ (t = true ↔ Has l k0 n) :=
  rhas_l0 l k0 n hl l.length k 0 (by omega) (by omega) (by omega)
theorem rof_l1 (l : List S46) (hl : l.length ≤ 1000) (i : Nat) (hi : i < 8) {k1 r} (n : Nat) (hn : n ≤ l.length) (ht : Top l i n)
    (hnext : ∀ k, k1 ≤ k → mapsheetsref27_Of.l0 k l ((List.range (i + 1)).map (ofF l)) (((i + 1 : Nat) : Int) + 1) = some r) : ∀ (d k j : Nat), n - j = d → j ≤ n → d + l.length + k1 + 5 < k → mapsheetsref27_Of.l1 k l ((List.range i).map (ofF l)) ((i : Int) + 1) (j : Int) = some r := by
  intro d
  induction d with
  | zero =>
    intro k j hd hj hk
    obtain ⟨k, rfl⟩ : ∃ m, k = m + 1 := ⟨k - 1, by omega⟩
    obtain rfl : j = n := by omega
    obtain ⟨t, h1, h2⟩ := rhas_ok l i ((j : Int) + 1) (by omega) k (by omega)
    rw [mapsheetsref27_Of.l1, show wrap64 ((j : Int) + 1) = (j : Int) + 1 by unfold wrap64; omega, h1, Option.bind_some, if_neg (fun e => ht.2 (h2.1 e)), if_pos (by simp; omega), show wrap64 ((i : Int) + 1 + 1) = ((i + 1 : Nat) : Int) + 1 by unfold wrap64; omega]
    have := hnext k (by omega)
    rw [List.range_succ, List.map_append] at this
    have e : ofF l i = (j : Int) := ofF_top ht
    rw [← e]
    exact this
  | succ d ih =>
    intro k j hd hj hk
    obtain ⟨k, rfl⟩ : ∃ m, k = m + 1 := ⟨k - 1, by omega⟩
    obtain ⟨t, h1, h2⟩ := rhas_ok l i ((j : Int) + 1) (by omega) k (by omega)
    rw [mapsheetsref27_Of.l1, show wrap64 ((j : Int) + 1) = (j : Int) + 1 by unfold wrap64; omega, h1, Option.bind_some, if_pos (h2.2 (ht.1 _ (by omega) (by omega)))]
    have := ih k (j + 1) (by omega) (by omega) (by omega)
    have e : ((j + 1 : Nat) : Int) = (j : Int) + 1 := by omega
    rwa [e] at this
theorem rof_l0 (l : List S46) (hl : l.length ≤ 1000) : ∀ (d i : Nat), 8 - i = d → i ≤ 8 → ∀ k, 3000 * d + 20 ≤ k → mapsheetsref27_Of.l0 k l ((List.range i).map (ofF l)) ((i : Int) + 1) = some (trim (ofF l)) := by
  intro d
  induction d with
  | zero =>
    intro i hd hi k hk
    obtain ⟨k, rfl⟩ : ∃ m, k = m + 1 := ⟨k - 1, by omega⟩
    obtain rfl : i = 8 := by omega
    rw [mapsheetsref27_Of.l0, if_neg (by omega)]
    unfold mapsheetsref27_short.f
    rw [rshort_ok _ 8 k (by omega) (by omega)]; rfl
  | succ d ih =>
    intro i hd hi k hk
    obtain ⟨k, rfl⟩ : ∃ m, k = m + 1 := ⟨k - 1, by omega⟩
    obtain ⟨n, hn, hnl, ht⟩ := ofF_spec l i
    rw [mapsheetsref27_Of.l0, if_pos (by omega)]
    exact rof_l1 l hl i (by omega) n hnl ht (ih (i + 1) (by omega) (by omega)) n k 0 (by omega) (by omega) (by omega)
theorem rof_ok (l : List S46) (hl : l.length ≤ 1000) (k : Nat) (hk : 30000 ≤ k) : mapsheetsref27_Of.f k l = some (trim (ofF l)) :=
  rof_l0 l hl 8 0 (by omega) (by omega) k (by omega)
theorem sameTxns_l0 (a : List S46) (hn : a.length ≤ 100000) : ∀ (d k i : Nat), a.length - i = d → i ≤ a.length → d < k → mapsheetslaw27_sameTxns.l0 k a a (i : Int) = some true := by
  intro d
  induction d with
  | zero =>
    intro k i hd hi hk
    obtain ⟨k, rfl⟩ : ∃ m, k = m + 1 := ⟨k - 1, by omega⟩
    rw [mapsheetslaw27_sameTxns.l0, if_neg (by omega)]
  | succ d ih =>
    intro k i hd hi hk
    obtain ⟨k, rfl⟩ : ∃ m, k = m + 1 := ⟨k - 1, by omega⟩
    rw [mapsheetslaw27_sameTxns.l0, if_pos (by omega), if_pos (by omega), if_pos (by omega), if_pos rfl, if_pos rfl, if_pos rfl, if_pos rfl, if_pos rfl, w1 i (by omega)]
    exact ih k (i + 1) (by omega) (by omega) (by omega)
theorem sameTxns_ok (a : List S46) (k : Nat) (hn : a.length ≤ 1000) (hk : 1000 < k) : mapsheetslaw27_sameTxns.f k a a = some true := by
  unfold mapsheetslaw27_sameTxns.f
  rw [if_pos rfl]
  exact sameTxns_l0 a (by omega) a.length k 0 rfl (Nat.zero_le _) (by omega)
theorem rmissing_l0 (c : List Int) (l : List S46) (hc : c.length ≤ 100000) (hn : l.length ≤ 100000) : ∀ (d k i : Nat), l.length - i = d → i ≤ l.length → d < k → mapsheetsref27_Missing.l0 k l ((l.take i).filter (missed c)) (i : Int) c = some (l.filter (missed c)) := by
  intro d
  induction d with
  | zero =>
    intro k i hd hi hk
    obtain ⟨k, rfl⟩ : ∃ m, k = m + 1 := ⟨k - 1, by omega⟩
    rw [mapsheetsref27_Missing.l0, if_neg (by omega), List.take_of_length_le (by omega)]
  | succ d ih =>
    intro k i hd hi hk
    obtain ⟨k, rfl⟩ : ∃ m, k = m + 1 := ⟨k - 1, by omega⟩
    have hlt : i < l.length := by omega
    have hf : ((l.take i).filter (missed c)).length ≤ l.length := by
      refine Nat.le_trans (List.length_filter_le _ _) ?_
      rw [List.length_take]; omega
    have := ih k (i + 1) (by omega) (by omega) (by omega)
    rw [List.take_succ_eq_append_getElem hlt, List.filter_append] at this
    rw [mapsheetsref27_Missing.l0, if_pos (by omega), if_pos (by omega), rd46_at l i hlt, w1 i (by omega), rknows_ok c _ _ hc]
    unfold vclock_Knows.f
    rw [Option.bind_some]
    have hm : missed c l[i] = !(decide (1 ≤ l[i].f0) && decide (l[i].f0 ≤ 8) && decide (1 ≤ l[i].f1) && decide (l[i].f1 ≤ cnt c (l[i].f0 - 1).toNat)) := rfl
    cases e : (decide (1 ≤ l[i].f0) && decide (l[i].f0 ≤ 8) && decide (1 ≤ l[i].f1) && decide (l[i].f1 ≤ cnt c (l[i].f0 - 1).toNat))
    · rw [e] at hm
      rw [if_neg (by decide), if_pos (by omega)]
      have e2 : List.filter (missed c) [l[i]] = [l[i]] := by simp [hm]
      rw [e2] at this
      exact this
    · rw [e] at hm
      rw [if_pos rfl]
      have e2 : List.filter (missed c) [l[i]] = [] := by simp [hm]
      rw [e2, List.append_nil] at this
      exact this
theorem rmissing_ok (c : List Int) (l : List S46) (hc : c.length ≤ 100000) (hn : l.length ≤ 1000) (k : Nat) (hk : 1000 < k) : mapsheetsref27_Missing.f k c l = some (l.filter (missed c)) :=
  rmissing_l0 c l hc (by omega) l.length k 0 (by omega) (by omega) (by omega)
theorem missing_ok (c : List Int) (l : List S46) (hn : l.length ≤ 100000) : vclock_Missing.f c l = some (l.filter (missed c)) := by unfold vclock_Missing.f; rw [if_pos (by omega)]
end Go.Proofs.Ytoopfdamdghbmaa.Vck
