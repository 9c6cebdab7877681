/- What the printed functions of idset answer: sets of whole numbers as sorted lists without repetitions. -/
import Derived.Test.YtjdijlijojembaaPAx0
import Derived.Test.YtjdijlijojembaaPAx3
import Derived.Test.YtjdijlijojembaaPAx4
import Derived.Test.YtjdijlijojembaaPAx5
import Derived.Test.YtjdijlijojembaaPAx1
import Derived.Test.YtjdijlijojembaaPAx2
namespace Go.Proofs.Ytjdijlijojembaa.Ids
open Go.RowKit Go.Proofs.Ytjdijlijojembaa.PA Go.Proofs.YtjdijlijojembaaW.PrintWords Go.Proofs.YtjdijlijojembaaW.PrintLast Go.Proofs.YtjdijlijojembaaW.PrintMore

theorem w1 (i : Nat) (h : i < 1000000) : wrap64 ((i : Int) + 1) = ((i + 1 : Nat) : Int) := by unfold wrap64; omega
theorem rd_at (xs : List Int) (i : Nat) (h : i < xs.length) : rd xs (i : Int) = xs[i] := by
  unfold rd; rw [Int.toNat_natCast, List.getD_eq_getElem?_getD, List.getElem?_eq_getElem h]; rfl
theorem mem_setOf (xs : List Int) (x : Int) : x ∈ setOf xs ↔ x ∈ xs := by
  unfold setOf
  have hm : x ∈ (xs.mergeSort fun x y => decide (x ≤ y)) ↔ x ∈ xs := List.mem_mergeSort
  rw [← hm]
  clear hm
  generalize (xs.mergeSort fun x y => decide (x ≤ y)) = ys
  unfold Go.Lib.compact Go.Lib.compactUpTo
  rw [List.mem_map]
  constructor
  · rintro ⟨j, hj, rfl⟩
    have hj := List.mem_range.1 (List.mem_filter.1 hj).1
    simp [hj]
  · intro hx
    obtain ⟨i, hi, rfl⟩ := List.mem_iff_getElem.1 hx
    clear hx
    induction i with
    | zero => exact ⟨0, List.mem_filter.2 ⟨List.mem_range.2 hi, Go.Lib.keeps_lt_one _ 0 (by omega)⟩, by simp [hi]⟩
    | succ i ih =>
      by_cases he : ys.toArray[i + 1]! = ys.toArray[i + 1 - 1]!
      · have e1 : ys[i + 1] = ys[i]'(by omega) := by
          simpa [hi, show i < ys.length by omega] using he
        obtain ⟨j, hj, hj2⟩ := ih (by omega)
        exact ⟨j, hj, by rw [hj2, e1]⟩
      · exact ⟨i + 1, List.mem_filter.2 ⟨List.mem_range.2 hi, Go.Lib.keeps_pos he⟩, by simp [hi]⟩
theorem len_setOf (xs : List Int) : (setOf xs).length ≤ xs.length := by
  unfold setOf Go.Lib.compact Go.Lib.compactUpTo
  rw [List.length_map]
  have := List.length_filter_le (Go.Lib.keeps (xs.mergeSort fun x y => decide (x ≤ y)).toArray) (List.range (xs.mergeSort fun x y => decide (x ≤ y)).length)
  simpa using this
/-- Two sets with the same elements are one. -/
theorem sorted_ext : ∀ {a b : List Int}, a.Pairwise (· < ·) → b.Pairwise (· < ·) → (∀ x, x ∈ a ↔ x ∈ b) → a = b := by
  intro a
  induction a with
  | nil =>
    intro b _ _ h
    cases b with
    | nil => rfl
    | cons y r => have := (h y).2 List.mem_cons_self; simp at this
  | cons x r ih =>
    intro b ha hb h
    cases b with
    | nil => have := (h x).1 List.mem_cons_self; simp at this
    | cons y s =>
      rw [List.pairwise_cons] at ha hb
      have hxy : x = y := by
        have h1 := (h x).1 List.mem_cons_self
        have h2 := (h y).2 List.mem_cons_self
        rcases List.mem_cons.1 h1 with h1 | h1
        · exact h1
        · rcases List.mem_cons.1 h2 with h2 | h2
          · exact h2.symm
          · have := hb.1 x h1; have := ha.1 y h2; omega
      subst hxy
      rw [ih ha.2 hb.2 (fun z => ?_)]
      constructor
      · intro hz
        rcases List.mem_cons.1 ((h z).1 (List.mem_cons_of_mem _ hz)) with e | e
        · have := ha.1 z hz; omega
        · exact e
      · intro hz
        rcases List.mem_cons.1 ((h z).2 (List.mem_cons_of_mem _ hz)) with e | e
        · have := hb.1 z hz; omega
        · exact e
theorem setOf_eq {xs ys : List Int} (h1 : ys.Pairwise (· < ·)) (h2 : ∀ x, x ∈ ys ↔ x ∈ xs) : setOf xs = ys :=
  sorted_ext (sorted_setOf xs) h1 fun x => (mem_setOf xs x).trans (h2 x).symm
theorem setOf_congr {xs ys : List Int} (h : ∀ x, x ∈ xs ↔ x ∈ ys) : setOf xs = setOf ys :=
  setOf_eq (sorted_setOf ys) fun x => (mem_setOf ys x).trans (h x).symm
theorem onlyOf_sorted (K : Bool → Bool) (a b : List Int) : (onlyOf K a b).Pairwise (· < ·) := (sorted_setOf a).filter _
theorem mem_inter (a b : List Int) (x : Int) : x ∈ onlyOf id a b ↔ x ∈ a ∧ x ∈ b := by
  unfold onlyOf
  rw [List.mem_filter, mem_setOf]
  simp [mem_setOf]
theorem mem_minus (a b : List Int) (x : Int) : x ∈ onlyOf not a b ↔ x ∈ a ∧ ¬ x ∈ b := by
  unfold onlyOf
  rw [List.mem_filter, mem_setOf]
  simp [mem_setOf]
theorem len_onlyOf (K : Bool → Bool) (a b : List Int) : (onlyOf K a b).length ≤ a.length := Nat.le_trans (List.length_filter_le _ _) (len_setOf a)
theorem normal_ok (l : List Int) (h : l.length ≤ 100000) : idset_Normal.f l = some (setOf l) := by
  unfold idset_Normal.f
  rw [set_one l (by omega)]; rfl
theorem union_ok (a b : List Int) (ha : a.length ≤ 100000) (hb : b.length ≤ 100000) : idset_Union.f a b = some (setOf (a ++ b)) := by
  unfold idset_Union.f idset_set.f slices_Concat_int_int.f
  have e : slices_Concat_int_int.total [a, b] = a.length + b.length := by simp [slices_Concat_int_int.total]
  rw [e, if_pos (by omega)]
  simp only [Option.bind_some, List.flatten_cons, List.flatten_nil, List.append_nil]
  rw [if_pos (by rw [List.length_append]; omega)]; rfl
theorem inter_ok (a b : List Int) (ha : a.length ≤ 100000) (hb : b.length ≤ 100000) : idset_Inter.f a b = some (onlyOf id a b) := by
  unfold idset_Inter.f; rw [if_pos (by omega), if_pos (by omega)]
theorem minus_ok (a b : List Int) (ha : a.length ≤ 100000) (hb : b.length ≤ 100000) : idset_Minus.f a b = some (onlyOf not a b) := by
  unfold idset_Minus.f; rw [if_pos (by omega), if_pos (by omega)]
theorem same_l0 (a : List Int) (hn : a.length ≤ 100000) : ∀ (d k i : Nat), a.length - i = d → i ≤ a.length → d < k → mapsheetsref04_Same.l0 k a a (i : Int) = some true := by
  intro d
  induction d with
  | zero =>
    intro k i hd hi hk
    obtain ⟨k, rfl⟩ : ∃ m, k = m + 1 := ⟨k - 1, by omega⟩
    rw [mapsheetsref04_Same.l0, if_neg (by omega)]
  | succ d ih =>
    intro k i hd hi hk
    obtain ⟨k, rfl⟩ : ∃ m, k = m + 1 := ⟨k - 1, by omega⟩
    rw [mapsheetsref04_Same.l0, if_pos (by omega), if_pos (by omega), if_pos (by omega), if_pos rfl, w1 i (by omega)]
    exact ih k (i + 1) (by omega) (by omega) (by omega)
theorem same_ok (a : List Int) (k : Nat) (hn : a.length ≤ 100000) (hk : 100000 < k) : mapsheetsref04_Same.f k a a = some true := by
  unfold mapsheetsref04_Same.f
  rw [if_pos rfl]
  exact same_l0 a hn a.length k 0 rfl (Nat.zero_le _) (by omega)
theorem same_eq (a b : List Int) (h : a = b) (k : Nat) (hn : a.length ≤ 100000) (hk : 100000 < k) : mapsheetsref04_Same.f k a b = some true := by subst h; exact same_ok a k hn hk
theorem index_loop (l : List Int) (v : Int) (hl : l.length ≤ 100000) : ∀ (d k i : Nat), l.length - i = d → i ≤ l.length → d < k → ∃ t, slices_Index_int_int.l0 k l v (l.length : Int) (i : Int) = some t ∧ decide (t ≥ 0) = (l.drop i).contains v := by
  intro d
  induction d with
  | zero =>
    intro k i hd hi hk
    obtain ⟨k, rfl⟩ : ∃ m, k = m + 1 := ⟨k - 1, by omega⟩
    exact ⟨-1, by rw [slices_Index_int_int.l0, if_neg (by omega)], by rw [List.drop_of_length_le (by omega)]; simp⟩
  | succ d ih =>
    intro k i hd hi hk
    obtain ⟨k, rfl⟩ : ∃ m, k = m + 1 := ⟨k - 1, by omega⟩
    rw [slices_Index_int_int.l0, if_pos (by omega), if_pos (by omega), if_pos (by omega), rd_at l i (by omega), w1 i (by omega), List.drop_eq_getElem_cons (show i < l.length by omega), List.contains_cons]
    by_cases e : v = l[i]
    · exact ⟨(i : Int), by rw [if_pos e], by rw [e]; simp⟩
    · obtain ⟨t, h1, h2⟩ := ih k (i + 1) (by omega) (by omega) (by omega)
      exact ⟨t, by rw [if_neg e, h1], by rw [h2, beq_eq_false_iff_ne.2 e, Bool.false_or]⟩
theorem has_ok (l : List Int) (v : Int) (k : Nat) (hl : l.length ≤ 100000) (hk : 100000 < k) : idset_Has.f k l v = some (l.contains v) := by
  obtain ⟨t, h1, h2⟩ := index_loop l v hl l.length k 0 (by omega) (by omega) (by omega)
  have h3 : slices_Index_int_int.l0 k l v (l.length : Int) 0 = some t := h1
  unfold idset_Has.f slices_Contains_int_int.f slices_Index_int_int.f
  rw [h3, Option.bind_some, h2, List.drop_zero]; rfl
theorem valid_l0 (l : List Int) (hl : l.length ≤ 100000) (hs : l.Pairwise (· < ·)) : ∀ (d k i : Nat), l.length - i = d → 1 ≤ i → d < k → idset_Valid.l0 k l (i : Int) = some true := by
  intro d
  induction d with
  | zero =>
    intro k i hd hi hk
    obtain ⟨k, rfl⟩ : ∃ m, k = m + 1 := ⟨k - 1, by omega⟩
    rw [idset_Valid.l0, if_neg (by omega)]
  | succ d ih =>
    intro k i hd hi hk
    obtain ⟨k, rfl⟩ : ∃ m, k = m + 1 := ⟨k - 1, by omega⟩
    obtain ⟨j, rfl⟩ : ∃ j, i = j + 1 := ⟨i - 1, by omega⟩
    have e : wrap64 (((j + 1 : Nat) : Int) - 1) = (j : Int) := by unfold wrap64; omega
    have hlt := List.pairwise_iff_getElem.1 hs j (j + 1) (by omega) (by omega) (by omega)
    rw [idset_Valid.l0, if_pos (by omega), e, if_pos (by omega), if_pos (by omega), if_pos (by omega), rd_at l j (by omega), rd_at l (j + 1) (by omega), if_neg (by omega), w1 (j + 1) (by omega)]
    exact ih k (j + 1 + 1) (by omega) (by omega) (by omega)
theorem valid_ok (l : List Int) (k : Nat) (hl : l.length ≤ 100000) (hs : l.Pairwise (· < ·)) (hk : 100000 < k) : idset_Valid.f k l = some true := valid_l0 l hl hs (l.length - 1) k 1 rfl (Nat.le_refl _) (by omega)
theorem few_ok (a b c : List Int) : ∃ t, mapsheetslaw04_few.f a b c = some t ∧ (t = true → a.length ≤ 100 ∧ b.length ≤ 100 ∧ c.length ≤ 100) := by
  unfold mapsheetslaw04_few.f
  by_cases h1 : (a.length : Int) ≤ 100
  · rw [if_pos h1]
    by_cases h2 : (b.length : Int) ≤ 100
    · rw [if_pos h2]
      exact ⟨_, rfl, fun h => ⟨by omega, by omega, by have := of_decide_eq_true h; omega⟩⟩
    · rw [if_neg h2]; exact ⟨_, rfl, fun h => by cases h⟩
  · rw [if_neg h1]; exact ⟨_, rfl, fun h => by cases h⟩
theorem awake_ok (k : Nat) (hk : 200000 < k) : mapsheetslaw04_awake.f k = some true := by
  have n1 : setOf [3, 1, 3, 2] = [1, 2, 3] := setOf_eq (by decide) (fun x => by simp; omega)
  have n2 : setOf ([1, 2, 3] ++ [2, 4]) = [1, 2, 3, 4] := setOf_eq (by decide) (fun x => by simp; omega)
  have n3 : onlyOf id [1, 2, 3] [2, 4] = [2] := sorted_ext (onlyOf_sorted _ _ _) (by decide) (fun x => by rw [mem_inter]; simp; omega)
  have n4 : onlyOf not [1, 2, 3] [2, 4] = [1, 3] := sorted_ext (onlyOf_sorted _ _ _) (by decide) (fun x => by rw [mem_minus]; simp; omega)
  have v1 : idset_Valid.f k [1, 1] = some false := by
    obtain ⟨k, rfl⟩ : ∃ m, k = m + 1 := ⟨k - 1, by omega⟩
    unfold idset_Valid.f
    rw [idset_Valid.l0]
    have e : wrap64 ((1 : Int) - 1) = 0 := by unfold wrap64; decide
    rw [e]; simp [rd]
  unfold mapsheetslaw04_awake.f
  simp only [Option.bind_some]
  rw [normal_ok _ (by decide), n1]
  simp only [Option.bind_some]
  rw [same_ok _ k (by decide) (by omega)]
  simp only [Option.bind_some, if_true]
  rw [v1]
  simp only [Option.bind_some]
  rw [if_neg (by decide), valid_ok [2, 4] k (by decide) (by decide) (by omega)]
  simp only [Option.bind_some, if_true]
  rw [union_ok _ _ (by decide) (by decide), n2]
  simp only [Option.bind_some]
  rw [same_ok _ k (by decide) (by omega)]
  simp only [Option.bind_some, if_true]
  rw [inter_ok _ _ (by decide) (by decide), n3]
  simp only [Option.bind_some]
  rw [same_ok _ k (by decide) (by omega)]
  simp only [Option.bind_some, if_true]
  rw [minus_ok _ _ (by decide) (by decide), n4]
  simp only [Option.bind_some]
  rw [same_ok _ k (by decide) (by omega)]
  simp only [Option.bind_some, if_true]
  rw [has_ok _ _ k (by decide) (by omega), has_ok _ _ k (by decide) (by omega)]
  rfl
end Go.Proofs.Ytjdijlijojembaa.Ids
