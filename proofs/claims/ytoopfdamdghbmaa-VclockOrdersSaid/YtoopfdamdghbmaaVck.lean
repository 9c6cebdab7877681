/- What the printed functions of vclock answer: clocks of transactions. -/
import Derived.Test.YtoopfdamdghbmaaPAx0
import Derived.Test.YtoopfdamdghbmaaPAx4
import Derived.Test.YtoopfdamdghbmaaPAx7
import Derived.Test.YtoopfdamdghbmaaPAx8
import Derived.Test.YtoopfdamdghbmaaPAx6
import Derived.Test.YtoopfdamdghbmaaPAx5
import Derived.Test.YtoopfdamdghbmaaPAx1
import Derived.Test.YtoopfdamdghbmaaPAx14
import Derived.Test.YtoopfdamdghbmaaPAx24
import Derived.Test.YtoopfdamdghbmaaPAx9
namespace Go.Proofs.Ytoopfdamdghbmaa.Vck
set_option linter.unusedVariables false
set_option linter.unusedSimpArgs false
open Go.RowKit Go.Proofs.Ytoopfdamdghbmaa.PA Go.Proofs.YtoopfdamdghbmaaW.PrintWords Go.Proofs.YtoopfdamdghbmaaW.PrintLast Go.Proofs.YtoopfdamdghbmaaW.PrintMore
/-- The set of some numbers: sorted, without repetitions. -/
def setOf (xs : List Int) : List Int := Go.Lib.compact (xs.mergeSort fun x y => decide (x ≤ y))
theorem mem_setOf (xs : List Int) (x : Int) : x ∈ setOf xs ↔ x ∈ xs := by
  unfold setOf
  have hm : x ∈ (xs.mergeSort fun x y => decide (x ≤ y)) ↔ x ∈ xs := List.mem_mergeSort
  rw [← hm]
  clear hm
  generalize (xs.mergeSort fun x y => decide (x ≤ y)) = ys
  unfold Go.Lib.compact Go.Lib.compactUpTo
  rw [List.mem_map]
  constructor
  · rintro ⟨j, hj, rfl⟩
    have hj := List.mem_range.1 (List.mem_filter.1 hj).1
    simp [hj]
  · intro hx
    obtain ⟨i, hi, rfl⟩ := List.mem_iff_getElem.1 hx
    clear hx
    induction i with
    | zero => exact ⟨0, List.mem_filter.2 ⟨List.mem_range.2 hi, Go.Lib.keeps_lt_one _ 0 (by omega)⟩, by simp [hi]⟩
    | succ i ih =>
      by_cases he : ys.toArray[i + 1]! = ys.toArray[i + 1 - 1]!
      · have e1 : ys[i + 1] = ys[i]'(by omega) := by
          simpa [hi, show i < ys.length by omega] using he
        obtain ⟨j, hj, hj2⟩ := ih (by omega)
        exact ⟨j, hj, by rw [hj2, e1]⟩
      · exact ⟨i + 1, List.mem_filter.2 ⟨List.mem_range.2 hi, Go.Lib.keeps_pos he⟩, by simp [hi]⟩
theorem sorted_setOf (xs : List Int) : (setOf xs).Pairwise (· < ·) := by
  unfold setOf
  have hs : (xs.mergeSort fun x y => decide (x ≤ y)).Pairwise (· ≤ ·) := by
    have := List.pairwise_mergeSort (le := fun x y : Int => decide (x ≤ y)) (fun a b c h1 h2 => by simp at *; omega) (fun a b => by simp; omega) xs
    exact this.imp (fun h => by simpa using h)
  generalize (xs.mergeSort fun x y => decide (x ≤ y)) = ys at hs
  unfold Go.Lib.compact Go.Lib.compactUpTo
  rw [List.pairwise_map]
  have hr : ((List.range ys.length).filter (Go.Lib.keeps ys.toArray)).Pairwise (· < ·) := List.Pairwise.filter _ List.pairwise_lt_range
  refine hr.imp_of_mem ?_
  intro i j hi hj hij
  have hj1 := (List.mem_filter.1 hj).1
  have hj2 := (List.mem_filter.1 hj).2
  rw [List.mem_range] at hj1
  have hk : ys.toArray[j]! ≠ ys.toArray[j - 1]! := by
    intro he
    rw [Go.Lib.keeps_neg (by omega) he] at hj2
    cases hj2
  have e1 : ys.toArray[j]! = ys[j] := by simp [hj1]
  have e2 : ys.toArray[j - 1]! = ys[j - 1]'(by omega) := by simp [show j - 1 < ys.length by omega]
  have e3 : ys.toArray[i]! = ys[i]'(by omega) := by simp [show i < ys.length by omega]
  rw [e1, e2] at hk
  rw [e1, e3]
  have h1 : ys[j - 1]'(by omega) ≤ ys[j] := List.pairwise_iff_getElem.1 hs (j - 1) j (by omega) hj1 (by omega)
  have h2 : ys[i]'(by omega) ≤ ys[j - 1]'(by omega) := by
    rcases Nat.lt_or_ge i (j - 1) with h | h
    · exact List.pairwise_iff_getElem.1 hs i (j - 1) (by omega) (by omega) h
    · have : i = j - 1 := by omega
      subst this; exact Int.le_refl _
  omega
theorem len_setOf (xs : List Int) : (setOf xs).length ≤ xs.length := by
  unfold setOf Go.Lib.compact Go.Lib.compactUpTo
  rw [List.length_map]
  have := List.length_filter_le (Go.Lib.keeps (xs.mergeSort fun x y => decide (x ≤ y)).toArray) (List.range (xs.mergeSort fun x y => decide (x ≤ y)).length)
  simpa using this
/-! ### How far the numbers of an office go -/
theorem upto_spec : ∀ (zs : List Int) (m : Int), zs.Pairwise (· < ·) → (∀ z ∈ zs, m < z) → ∃ d : Nat, upto m zs = m + d ∧ d ≤ zs.length ∧ (∀ z, m < z → z ≤ m + d → z ∈ zs) ∧ m + d + 1 ∉ zs := by
  intro zs
  induction zs with
  | nil => intro m _ _; exact ⟨0, by simp [upto], Nat.le_refl _, fun z h1 h2 => by omega, by simp⟩
  | cons x r ih =>
    intro m hp hm
    rw [List.pairwise_cons] at hp
    have hx := hm x List.mem_cons_self
    by_cases e : x = m + 1
    · obtain ⟨d, h1, h2, h3, h4⟩ := ih x hp.2 hp.1
      refine ⟨d + 1, by rw [upto, if_pos e, h1]; omega, by simp; omega, fun z hz1 hz2 => ?_, fun h => ?_⟩
      · by_cases ez : z = x
        · rw [ez]; exact List.mem_cons_self
        · exact List.mem_cons_of_mem _ (h3 z (by omega) (by omega))
      · rcases List.mem_cons.1 h with h | h
        · omega
        · apply h4
          have e2 : m + ((d + 1 : Nat) : Int) + 1 = x + (d : Int) + 1 := by omega
          rwa [e2] at h
    · refine ⟨0, by rw [upto, if_neg e]; simp, Nat.zero_le _, fun z h1 h2 => by omega, fun h => ?_⟩
      rcases List.mem_cons.1 h with h | h
      · omega
      · have := hp.1 _ h; omega
/-- Is there a transaction of the office k + 1 with the number n? -/
def Has (l : List S46) (k : Nat) (n : Int) : Prop := ∃ x ∈ l, x.f0 = (k : Int) + 1 ∧ x.f1 = n
theorem mem_ofSeqs (l : List S46) (k : Nat) (n : Int) : n ∈ ofSeqs l k ↔ 0 < n ∧ Has l k n := by
  have h := mem_setOf ((l.filter (ofOffice k)).map (·.f1)) n
  unfold ofSeqs
  unfold setOf at h
  rw [h]
  unfold Has
  simp only [List.mem_map, List.mem_filter, ofOffice, Bool.and_eq_true, decide_eq_true_eq]
  constructor
  · rintro ⟨x, ⟨hx, h1, h2⟩, rfl⟩; exact ⟨h2, x, hx, h1, rfl⟩
  · rintro ⟨h2, x, hx, h1, rfl⟩; exact ⟨x, ⟨hx, h1, h2⟩, rfl⟩
/-- The number that Of names for an office: all up to it are there, the next one is not. -/
def Top (l : List S46) (k : Nat) (n : Nat) : Prop := (∀ z : Int, 1 ≤ z → z ≤ n → Has l k z) ∧ ¬ Has l k ((n : Int) + 1)
theorem ofF_spec (l : List S46) (k : Nat) : ∃ n : Nat, ofF l k = n ∧ n ≤ l.length ∧ Top l k n := by
  have hs : (ofSeqs l k).Pairwise (· < ·) := sorted_setOf _
  obtain ⟨d, h1, h2, h3, h4⟩ := upto_spec (ofSeqs l k) 0 hs (fun z hz => ((mem_ofSeqs l k z).1 hz).1)
  have hl : (ofSeqs l k).length ≤ l.length := by
    have := len_setOf ((l.filter (ofOffice k)).map (·.f1))
    rw [List.length_map] at this
    exact Nat.le_trans this (List.length_filter_le _ _)
  refine ⟨d, by unfold ofF; rw [h1]; omega, by omega, fun z hz1 hz2 => ((mem_ofSeqs l k z).1 (h3 z (by omega) (by omega))).2, fun h => ?_⟩
  apply h4
  have e : (0 : Int) + (d : Int) + 1 = (d : Int) + 1 := by omega
  rw [e]
  exact (mem_ofSeqs l k _).2 ⟨by omega, h⟩
theorem top_le {l m : List S46} {k n p : Nat} (hn : Top l k n) (hp : Top m k p) (h : ∀ z, Has l k z → Has m k z) : n ≤ p := by
  rcases Nat.lt_or_ge p n with hlt | hge
  · exact absurd (h _ (hn.1 ((p : Int) + 1) (by omega) (by omega))) hp.2
  · exact hge
theorem ofF_top {l : List S46} {k n : Nat} (h : Top l k n) : ofF l k = n := by
  obtain ⟨p, e, _, hp⟩ := ofF_spec l k
  have h1 := top_le h hp fun _ h => h
  have h2 := top_le hp h fun _ h => h
  rw [e]; omega
theorem ofF_le {l m : List S46} (k : Nat) (h : ∀ z, Has l k z → Has m k z) : ofF l k ≤ ofF m k := by
  obtain ⟨n, e, _, hn⟩ := ofF_spec l k
  obtain ⟨p, e2, _, hp⟩ := ofF_spec m k
  have := top_le hn hp h
  omega
theorem ofF_congr {l m : List S46} (h : ∀ k z, Has l k z ↔ Has m k z) : ofF l = ofF m := by
  funext k
  have h1 := ofF_le k fun z => (h k z).1
  have h2 := ofF_le k fun z => (h k z).2
  omega
theorem ofF_pos (l : List S46) (k : Nat) : 0 ≤ ofF l k := by obtain ⟨n, e, _⟩ := ofF_spec l k; omega

/-! ### The law's own functions -/
theorem w1 (i : Nat) (h : i < 1000000) : wrap64 ((i : Int) + 1) = ((i + 1 : Nat) : Int) := by unfold wrap64; omega
theorem rd_at (xs : List Int) (i : Nat) (h : i < xs.length) : rd xs (i : Int) = xs[i] := by
  unfold rd; rw [Int.toNat_natCast, List.getD_eq_getElem?_getD, List.getElem?_eq_getElem h]; rfl
theorem rd32_at (xs : List S32) (i : Nat) (h : i < xs.length) : rd_T32 xs (i : Int) = xs[i] := by
  unfold rd_T32; rw [Int.toNat_natCast, List.getD_eq_getElem?_getD, List.getElem?_eq_getElem h]; rfl
theorem rd46_at (xs : List S46) (i : Nat) (h : i < xs.length) : rd_T46 xs (i : Int) = xs[i] := by
  unfold rd_T46; rw [Int.toNat_natCast, List.getD_eq_getElem?_getD, List.getElem?_eq_getElem h]; rfl
def tx (x : S32) (i : Int) : S46 := ⟨x.f0, x.f1, i, (⟨#[]⟩ : ByteArray), ([] : List S103)⟩
def txs (l : List S32) : List S46 := (List.range l.length).map fun i : Nat => tx (rd_T32 l (i : Int)) (i : Int)
theorem txs_len (l : List S32) : (txs l).length = l.length := by simp [txs]
theorem txns_l0 (l : List S32) (hl : l.length ≤ 100000) : ∀ (d k i : Nat), l.length - i = d → i ≤ l.length → d < k → mapsheetslaw27_txns.l0 k l ((List.range i).map fun i : Nat => tx (rd_T32 l (i : Int)) (i : Int)) (i : Int) = some (txs l) := by
  intro d
  induction d with
  | zero =>
    intro k i hd hi hk
    obtain ⟨k, rfl⟩ : ∃ m, k = m + 1 := ⟨k - 1, by omega⟩
    obtain rfl : i = l.length := by omega
    rw [mapsheetslaw27_txns.l0, if_neg (by omega)]; rfl
  | succ d ih =>
    intro k i hd hi hk
    obtain ⟨k, rfl⟩ : ∃ m, k = m + 1 := ⟨k - 1, by omega⟩
    rw [mapsheetslaw27_txns.l0, if_pos (by omega), if_pos (by omega), if_pos (by simp; omega), w1 i (by omega)]
    have := ih k (i + 1) (by omega) (by omega) (by omega)
    rw [List.range_succ, List.map_append] at this
    exact this
theorem txns_ok (l : List S32) (hl : l.length ≤ 100000) (k : Nat) (hk : l.length < k) : mapsheetslaw27_txns.f k l = some (txs l) := txns_l0 l hl l.length k 0 (by omega) (by omega) (by omega)
/-- The marks of an office. -/
theorem has_txs (l : List S32) (k : Nat) (n : Int) : Has (txs l) k n ↔ ∃ x ∈ l, x.f0 = (k : Int) + 1 ∧ x.f1 = n := by
  unfold Has txs
  constructor
  · rintro ⟨x, hx, h1, h2⟩
    obtain ⟨i, hi, rfl⟩ := List.mem_map.1 hx
    have hi := List.mem_range.1 hi
    rw [rd32_at l i hi] at h1 h2
    exact ⟨l[i], List.getElem_mem hi, h1, h2⟩
  · rintro ⟨x, hx, h1, h2⟩
    obtain ⟨i, hi, rfl⟩ := List.mem_iff_getElem.1 hx
    exact ⟨_, List.mem_map.2 ⟨i, List.mem_range.2 hi, rfl⟩, by rw [rd32_at l i hi]; exact h1, by rw [rd32_at l i hi]; exact h2⟩
theorem of_ok (l : List S46) (hl : l.length ≤ 100000) : vclock_Of.f l = some (trim (ofF l)) := by unfold vclock_Of.f; rw [if_pos (by omega)]
theorem topN_le (F : Nat → Int) : ∀ n, topN F n ≤ n
  | 0 => Nat.le_refl _
  | n + 1 => by
    unfold topN
    split
    · have := topN_le F n; omega
    · omega
theorem trim_len (F : Nat → Int) : (trim F).length ≤ 8 := by unfold trim; simp; exact topN_le F 8
theorem topN_zero (F : Nat → Int) : ∀ n j, topN F n ≤ j → j < n → F j = 0
  | 0, j, _, h => by omega
  | n + 1, j, h1, h2 => by
    unfold topN at h1
    split at h1
    · rename_i e
      by_cases ej : j = n
      · rw [ej]; exact e
      · exact topN_zero F n j h1 (by omega)
    · omega
theorem cnt_trim (F : Nat → Int) (h0 : ∀ j, 0 ≤ F j) (j : Nat) (hj : j < 8) : cnt (trim F) j = F j := by
  unfold cnt trim
  rcases Nat.lt_or_ge j (topN F 8) with h | h
  · have := h0 j
    simp [List.getD_eq_getElem?_getD, h]
    omega
  · rw [topN_zero F 8 j h hj]
    simp [List.getD_eq_getElem?_getD, h]
theorem topN_congr {F G : Nat → Int} : ∀ n, (∀ j, j < n → F j = G j) → topN F n = topN G n
  | 0, _ => rfl
  | n + 1, h => by
    unfold topN
    rw [h n (by omega), topN_congr n fun j hj => h j (by omega)]
theorem trim_congr {F G : Nat → Int} (h : ∀ j, j < 8 → F j = G j) : trim F = trim G := by
  unfold trim
  rw [topN_congr 8 h]
  apply List.map_congr_left
  intro j hj
  have := List.mem_range.1 hj
  have := topN_le G 8
  exact h j (by omega)
theorem cnt_pos (l : List Int) (j : Nat) : 0 ≤ cnt l j := by unfold cnt; omega
theorem same_l0 (a : List Int) (hn : a.length ≤ 100000) : ∀ (d k i : Nat), a.length - i = d → i ≤ a.length → d < k → mapsheetsref27_Same.l0 k (i : Int) a a = some true := by
  intro d
  induction d with
  | zero =>
    intro k i hd hi hk
    obtain ⟨k, rfl⟩ : ∃ m, k = m + 1 := ⟨k - 1, by omega⟩
    rw [mapsheetsref27_Same.l0, if_neg (by omega)]
  | succ d ih =>
    intro k i hd hi hk
    obtain ⟨k, rfl⟩ : ∃ m, k = m + 1 := ⟨k - 1, by omega⟩
    rw [mapsheetsref27_Same.l0, if_pos (by omega), if_pos (by omega), if_pos (by omega), if_pos rfl, w1 i (by omega)]
    exact ih k (i + 1) (by omega) (by omega) (by omega)
theorem same_ok (a : List Int) (k : Nat) (hn : a.length ≤ 1000) (hk : 1000 < k) : mapsheetsref27_Same.f k a a = some true := by
  unfold mapsheetsref27_Same.f
  rw [if_pos rfl]
  exact same_l0 a (by omega) a.length k 0 rfl (Nat.zero_le _) (by omega)
theorem same_eq {a b : List Int} (h : a = b) (k : Nat) (hn : a.length ≤ 1000) (hk : 1000 < k) : mapsheetsref27_Same.f k a b = some true := by subst h; exact same_ok a k hn hk
theorem few_ok (a b : List S32) : ∃ t, mapsheetslaw27_few.f a b = some t ∧ (t = true → a.length ≤ 60 ∧ b.length ≤ 60) := by
  unfold mapsheetslaw27_few.f
  by_cases h : (a.length : Int) ≤ 60
  · rw [if_pos h]; exact ⟨_, rfl, fun e => by simp at e; omega⟩
  · rw [if_neg h]; exact ⟨_, rfl, fun e => by cases e⟩
theorem small_ok (a b c : List Int) : ∃ t, mapsheetslaw27_small.f a b c = some t ∧ (t = true → a.length ≤ 20 ∧ b.length ≤ 20 ∧ c.length ≤ 20) := by
  unfold mapsheetslaw27_small.f
  by_cases h : (a.length : Int) ≤ 20
  · rw [if_pos h]
    by_cases h2 : (b.length : Int) ≤ 20
    · rw [if_pos h2]; exact ⟨_, rfl, fun e => by simp at e; omega⟩
    · rw [if_neg h2]; exact ⟨_, rfl, fun e => by cases e⟩
  · rw [if_neg h]; exact ⟨_, rfl, fun e => by cases e⟩

/-! ### Comparing -/
theorem anyLt_false (F G : Nat → Int) : ∀ n, anyLt F G n = false ↔ ∀ j, j < n → G j ≤ F j
  | 0 => by simp [anyLt]
  | n + 1 => by
    rw [anyLt, Bool.or_eq_false_iff, anyLt_false F G n, decide_eq_false_iff_not]
    constructor
    · rintro ⟨h1, h2⟩ j hj
      by_cases e : j = n
      · subst e; omega
      · exact h1 j (by omega)
    · intro h; exact ⟨fun j hj => h j (by omega), by have := h n (by omega); omega⟩
def Le (a b : List Int) : Prop := ∀ j, j < 8 → cnt a j ≤ cnt b j
theorem covers_ok (a b : List Int) : ∃ t, mapsheetslaw27_covers.f a b = some t ∧ (t = true ↔ Le b a) := by
  unfold mapsheetslaw27_covers.f vclock_Cmp.f
  rw [Option.bind_some]
  have h1 := anyLt_false (cnt a) (cnt b) 8
  have h2 := anyLt_false (cnt b) (cnt a) 8
  unfold cmpOf Le
  cases e1 : anyLt (cnt a) (cnt b) 8 <;> cases e2 : anyLt (cnt b) (cnt a) 8
  · exact ⟨_, rfl, by simpa using h1.1 e1⟩
  · exact ⟨_, rfl, by simpa using h1.1 e1⟩
  · refine ⟨_, rfl, ?_⟩
    rw [e1] at h1
    simp only [Bool.true_eq_false, false_iff] at h1
    constructor
    · intro h; exact absurd h (by decide)
    · intro h; exact absurd h h1
  · refine ⟨_, rfl, ?_⟩
    rw [e1] at h1
    simp only [Bool.true_eq_false, false_iff] at h1
    constructor
    · intro h; exact absurd h (by decide)
    · intro h; exact absurd h h1
/-! ### The chapter's examples -/
def four : List S32 := [⟨1, 1⟩, ⟨1, 2⟩, ⟨1, 4⟩, ⟨3, 1⟩]
theorem four_has (k : Nat) (n : Int) : Has (txs four) k n ↔ (k = 0 ∧ (n = 1 ∨ n = 2 ∨ n = 4)) ∨ (k = 2 ∧ n = 1) := by
  rw [has_txs]
  unfold four
  simp only [List.mem_cons, List.not_mem_nil, or_false, exists_eq_or_imp, exists_eq_left]
  omega
theorem four_of : trim (ofF (txs four)) = [2, 0, 1] := by
  have h : ∀ j, j < 8 → ofF (txs four) j = (fun j => if j = 0 then 2 else if j = 2 then 1 else (0 : Int)) j := by
    intro j _
    by_cases h0 : j = 0
    · subst h0
      exact ofF_top (n := 2) ⟨fun z h1 h2 => (four_has _ _).2 (by omega), fun h => by have := (four_has _ _).1 h; omega⟩
    · by_cases h2 : j = 2
      · subst h2
        exact ofF_top (n := 1) ⟨fun z h1 h2 => (four_has _ _).2 (by omega), fun h => by have := (four_has _ _).1 h; omega⟩
      · show ofF (txs four) j = if j = 0 then 2 else if j = 2 then 1 else 0
        rw [if_neg h0, if_neg h2]
        exact ofF_top (n := 0) ⟨fun z h1 h2 => by omega, fun h => by have := (four_has _ _).1 h; omega⟩
  rw [trim_congr h]; rfl
theorem four_missing : (txs four).filter (missed [2, 0, 1]) = [tx ⟨1, 4⟩ 2] := rfl
theorem awake_ok (k : Nat) (hk : 1000 < k) : mapsheetslaw27_awake.f k = some true := by
  unfold mapsheetslaw27_awake.f
  rw [show ([(⟨1, 1⟩ : S32), (⟨1, 2⟩ : S32), (⟨1, 4⟩ : S32), (⟨3, 1⟩ : S32)] : List S32) = four from rfl, txns_ok four (by decide) k (by simp [four]; omega), Option.bind_some, of_ok _ (by rw [txs_len]; decide), four_of, Option.bind_some, Option.bind_some]
  unfold vclock_Missing.f
  rw [if_pos (by rw [txs_len]; decide), four_missing, Option.bind_some]
  have c1 : vclock_Cmp.f [2, 0, 1] [1, 5] = some (0, false) := rfl
  have c2 : vclock_Cmp.f [1] [1, 5] = some (-1, true) := rfl
  have c3 : vclock_Knows.f [2, 0, 1] 1 4 = some false := rfl
  have c4 : vclock_Knows.f [2, 0, 1] 3 1 = some true := rfl
  have c5 : vclock_Merge.f [2, 0, 1] [1, 5] = some [2, 5, 1] := rfl
  have c6 : vclock_Valid.f [2, 0, 1] = some true := rfl
  have c7 : vclock_Valid.f [-1] = some false := rfl
  rw [c1, Option.bind_some, c2, Option.bind_some, same_ok _ k (by decide) hk, Option.bind_some, if_pos rfl, c3, Option.bind_some, if_neg (by decide), c4, Option.bind_some, if_pos rfl, if_pos (by rfl), if_pos (by decide), if_pos (by rfl), c5, Option.bind_some, same_ok _ k (by decide) hk, Option.bind_some, if_pos rfl, if_neg (by decide), if_pos rfl, if_pos rfl, c6, Option.bind_some, if_pos rfl, c7, Option.bind_some]
  rfl
end Go.Proofs.Ytoopfdamdghbmaa.Vck
