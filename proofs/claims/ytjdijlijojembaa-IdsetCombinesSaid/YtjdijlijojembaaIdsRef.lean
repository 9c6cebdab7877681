/- What the printed functions of idset's reference answer. -/
import Derived.Test.YtjdijlijojembaaIds
import Derived.Test.YtjdijlijojembaaPAx6
import Derived.Test.YtjdijlijojembaaPAx8
import Derived.Test.YtjdijlijojembaaPAx9
namespace Go.Proofs.Ytjdijlijojembaa.Ids
open Go.RowKit Go.Proofs.Ytjdijlijojembaa.PA Go.Proofs.YtjdijlijojembaaW.PrintWords Go.Proofs.YtjdijlijojembaaW.PrintLast Go.Proofs.YtjdijlijojembaaW.PrintMore

theorem rhas_l0 (l : List Int) (v : Int) (hl : l.length ≤ 100000) : ∀ (d k i : Nat), l.length - i = d → i ≤ l.length → d < k → mapsheetsref04_Has.l0 k l v (i : Int) = some ((l.drop i).contains v) := by
  intro d
  induction d with
  | zero =>
    intro k i hd hi hk
    obtain ⟨k, rfl⟩ : ∃ m, k = m + 1 := ⟨k - 1, by omega⟩
    rw [mapsheetsref04_Has.l0, if_neg (by omega), List.drop_of_length_le (by omega)]; simp
  | succ d ih =>
    intro k i hd hi hk
    obtain ⟨k, rfl⟩ : ∃ m, k = m + 1 := ⟨k - 1, by omega⟩
    rw [mapsheetsref04_Has.l0, if_pos (by omega), if_pos (by omega), rd_at l i (by omega), w1 i (by omega), List.drop_eq_getElem_cons (show i < l.length by omega), List.contains_cons]
    by_cases e : l[i] = v
    · rw [if_pos e, e]; simp
    · rw [if_neg e, ih k (i + 1) (by omega) (by omega) (by omega), beq_eq_false_iff_ne.2 (fun h => e h.symm), Bool.false_or]
theorem rhas_ok (l : List Int) (v : Int) (k : Nat) (hl : l.length ≤ 100000) (hk : 100000 < k) : mapsheetsref04_Has.f k l v = some (l.contains v) := by
  have := rhas_l0 l v hl l.length k 0 (by omega) (by omega) (by omega)
  rw [List.drop_zero] at this
  exact this
/-- A set with one more element. -/
def ins (s : List Int) (v : Int) : List Int := if s.contains v = true then s else s.takeWhile (· < v) ++ v :: s.dropWhile (· < v)
theorem with_l0 (s : List Int) (v : Int) (hl : s.length ≤ 100000) : ∀ (d k i : Nat), s.length - i = d → i ≤ s.length → d < k → (∀ j (h : j < s.length), j < i → s[j] < v) → mapsheetsref04_With.l0 k s v (i : Int) = some (s.takeWhile (· < v) ++ v :: s.dropWhile (· < v)) := by
  have split : ∀ i, i ≤ s.length → (∀ j (h : j < s.length), j < i → s[j] < v) → (∀ h : i < s.length, ¬ s[i] < v) → s.takeWhile (· < v) = s.take i ∧ s.dropWhile (· < v) = s.drop i := by
    intro i hi h1 h2
    have e : s = s.take i ++ s.drop i := (List.take_append_drop i s).symm
    have ha : ∀ x ∈ s.take i, decide (x < v) = true := by
      intro x hx
      obtain ⟨j, hj, rfl⟩ := List.mem_iff_getElem.1 hx
      rw [List.length_take] at hj
      rw [List.getElem_take]
      exact decide_eq_true (h1 j (by omega) (by omega))
    have hb : (s.drop i).takeWhile (· < v) = [] ∧ (s.drop i).dropWhile (· < v) = s.drop i := by
      rcases Nat.lt_or_ge i s.length with h | h
      · rw [List.drop_eq_getElem_cons h]
        have hn : decide (s[i] < v) = false := decide_eq_false (h2 h)
        exact ⟨by rw [List.takeWhile_cons, hn]; rfl, by rw [List.dropWhile_cons, hn]; rfl⟩
      · rw [List.drop_of_length_le h]; exact ⟨rfl, rfl⟩
    constructor
    · conv => lhs; rw [e]
      rw [List.takeWhile_append_of_pos ha, hb.1, List.append_nil]
    · conv => lhs; rw [e]
      rw [List.dropWhile_append_of_pos ha, hb.2]
  intro d
  induction d with
  | zero =>
    intro k i hd hi hk h1
    obtain ⟨k, rfl⟩ : ∃ m, k = m + 1 := ⟨k - 1, by omega⟩
    obtain ⟨e1, e2⟩ := split i hi h1 (fun h => by omega)
    rw [mapsheetsref04_With.l0, if_neg (by omega)]
    simp only [Option.bind_some, List.nil_append, List.length_nil, Int.toNat_natCast]
    have ht : (s.take i).length = i := by rw [List.length_take]; omega
    have hd2 : (s.drop i).length = s.length - i := List.length_drop
    rw [if_pos (by omega), if_pos (by omega), if_pos (by omega), if_pos (by omega), if_pos (by rw [List.length_append, List.length_singleton]; omega), e1, e2]
    simp
  | succ d ih =>
    intro k i hd hi hk h1
    obtain ⟨k, rfl⟩ : ∃ m, k = m + 1 := ⟨k - 1, by omega⟩
    rw [mapsheetsref04_With.l0, if_pos (by omega), if_pos (by omega), rd_at s i (by omega), w1 i (by omega)]
    by_cases e : s[i] < v
    · rw [if_pos e]
      exact ih k (i + 1) (by omega) (by omega) (by omega) (fun j h hj => by
        rcases Nat.lt_or_ge j i with h' | h'
        · exact h1 j h h'
        · have : j = i := by omega
          subst this; exact e)
    · obtain ⟨e1, e2⟩ := split i hi h1 (fun _ => e)
      rw [if_neg e]
      simp only [Option.bind_some, List.nil_append, List.length_nil, Int.toNat_natCast]
      have ht : (s.take i).length = i := by rw [List.length_take]; omega
      have hd2 : (s.drop i).length = s.length - i := List.length_drop
      rw [if_pos (by omega), if_pos (by omega), if_pos (by omega), if_pos (by rw [List.length_append, List.length_singleton]; omega), e1, e2]
      simp
theorem with_ok (s : List Int) (v : Int) (k : Nat) (hl : s.length ≤ 100000) (hk : 100000 < k) : mapsheetsref04_With.f k s v = some (ins s v) := by
  unfold mapsheetsref04_With.f ins
  rw [rhas_ok s v k hl hk, Option.bind_some]
  by_cases h : s.contains v = true
  · rw [if_pos h, if_pos h]
  · rw [if_neg h, if_neg h]
    exact with_l0 s v hl s.length k 0 (by omega) (by omega) (by omega) (fun j _ h => by omega)
theorem mem_ins (s : List Int) (v x : Int) : x ∈ ins s v ↔ x ∈ s ∨ x = v := by
  unfold ins
  by_cases h : s.contains v = true
  · rw [if_pos h]
    have hv : v ∈ s := by simpa using h
    exact ⟨.inl, fun h => h.elim id (fun e => e ▸ hv)⟩
  · rw [if_neg h]
    have e : s.takeWhile (· < v) ++ s.dropWhile (· < v) = s := List.takeWhile_append_dropWhile
    have : x ∈ s ↔ x ∈ s.takeWhile (· < v) ∨ x ∈ s.dropWhile (· < v) := by
      conv => lhs; rw [← e]
      exact List.mem_append
    rw [this, List.mem_append, List.mem_cons]
    constructor
    · rintro (h | h | h)
      · exact .inl (.inl h)
      · exact .inr h
      · exact .inl (.inr h)
    · rintro ((h | h) | h)
      · exact .inl h
      · exact .inr (.inr h)
      · exact .inr (.inl h)
theorem tw_lt (v : Int) : ∀ (l : List Int) (x : Int), x ∈ l.takeWhile (· < v) → x < v := by
  intro l
  induction l with
  | nil => intro x h; simp at h
  | cons y r ih =>
    intro x h
    rw [List.takeWhile_cons] at h
    by_cases hy : y < v
    · rw [decide_eq_true hy] at h
      rcases List.mem_cons.1 h with rfl | h
      · exact hy
      · exact ih x h
    · rw [decide_eq_false hy] at h
      simp at h
theorem ins_sorted (s : List Int) (v : Int) (hs : s.Pairwise (· < ·)) : (ins s v).Pairwise (· < ·) := by
  unfold ins
  by_cases h : s.contains v = true
  · rw [if_pos h]; exact hs
  · rw [if_neg h]
    have hv : v ∉ s := by simpa using h
    have e : s.takeWhile (· < v) ++ s.dropWhile (· < v) = s := List.takeWhile_append_dropWhile
    rw [← e] at hs
    rw [List.pairwise_append] at hs
    obtain ⟨p1, p2, p3⟩ := hs
    have h1 : ∀ x ∈ s.takeWhile (· < v), x < v := fun x hx => tw_lt v s x hx
    have h2 : ∀ x ∈ s.dropWhile (· < v), v < x := by
      intro x hx
      cases hd : s.dropWhile (· < v) with
      | nil => rw [hd] at hx; cases hx
      | cons y r =>
        have hy : ¬ y < v := by
          have := List.head?_dropWhile_not (fun y => decide (y < v)) s
          rw [hd] at this
          simpa using this
        have hne : y ≠ v := fun h0 => hv (by rw [← e, hd, ← h0]; simp)
        rw [hd] at hx p2
        rcases List.mem_cons.1 hx with rfl | hx
        · omega
        · have := (List.pairwise_cons.1 p2).1 x hx; omega
    rw [List.pairwise_append]
    refine ⟨p1, List.pairwise_cons.2 ⟨h2, p2⟩, fun x hx y hy => ?_⟩
    rcases List.mem_cons.1 hy with rfl | hy
    · exact h1 x hx
    · exact p3 x hx y hy
theorem ins_len (s : List Int) (v : Int) : (ins s v).length ≤ s.length + 1 := by
  unfold ins
  split
  · omega
  · have e : s.takeWhile (· < v) ++ s.dropWhile (· < v) = s := List.takeWhile_append_dropWhile
    have := congrArg List.length e
    rw [List.length_append] at this
    rw [List.length_append, List.length_cons]
    omega
/-- A set with the elements of a list besides. -/
def inss (s : List Int) (l : List Int) : List Int := l.foldl ins s
theorem inss_sorted : ∀ (l s : List Int), s.Pairwise (· < ·) → (inss s l).Pairwise (· < ·) := by
  intro l
  induction l with
  | nil => intro s h; exact h
  | cons v r ih => intro s h; exact ih (ins s v) (ins_sorted s v h)
theorem mem_inss : ∀ (l s : List Int) (x : Int), x ∈ inss s l ↔ x ∈ s ∨ x ∈ l := by
  intro l
  induction l with
  | nil => intro s x; show x ∈ s ↔ _; simp
  | cons v r ih =>
    intro s x
    show x ∈ inss (ins s v) r ↔ _
    rw [ih, mem_ins, List.mem_cons, or_assoc]
theorem inss_len : ∀ (l s : List Int), (inss s l).length ≤ s.length + l.length := by
  intro l
  induction l with
  | nil => intro s; exact Nat.le_refl _
  | cons v r ih =>
    intro s
    have h1 := ih (ins s v)
    have h2 := ins_len s v
    show (inss (ins s v) r).length ≤ _
    rw [List.length_cons]; omega
theorem inss_setOf (a b : List Int) : inss (setOf a) b = setOf (a ++ b) :=
  (setOf_eq (inss_sorted b _ (sorted_setOf a)) fun x => by rw [mem_inss, mem_setOf, List.mem_append]).symm
theorem inss_nil (a : List Int) : inss [] a = setOf a := (setOf_eq (inss_sorted a [] List.Pairwise.nil) fun x => by rw [mem_inss]; simp).symm
theorem rnormal_l0 (l : List Int) (hl : l.length ≤ 1000) : ∀ (d k i : Nat) (s : List Int), l.length - i = d → i ≤ l.length → d + 100001 < k → s.length ≤ 2000 + i → mapsheetsref04_Normal.l0 k l s (i : Int) = some (inss s (l.drop i)) := by
  intro d
  induction d with
  | zero =>
    intro k i s hd hi hk hs
    obtain ⟨k, rfl⟩ : ∃ m, k = m + 1 := ⟨k - 1, by omega⟩
    rw [mapsheetsref04_Normal.l0, if_neg (by omega), List.drop_of_length_le (by omega)]; rfl
  | succ d ih =>
    intro k i s hd hi hk hs
    obtain ⟨k, rfl⟩ : ∃ m, k = m + 1 := ⟨k - 1, by omega⟩
    have := ins_len s l[i]
    rw [mapsheetsref04_Normal.l0, if_pos (by omega), if_pos (by omega), rd_at l i (by omega), w1 i (by omega), with_ok s _ k (by omega) (by omega), Option.bind_some, List.drop_eq_getElem_cons (show i < l.length by omega)]
    exact ih k (i + 1) _ (by omega) (by omega) (by omega) (by omega)
theorem rnormal_ok (l : List Int) (k : Nat) (hl : l.length ≤ 1000) (hk : 200000 < k) : mapsheetsref04_Normal.f k l = some (setOf l) := by
  have := rnormal_l0 l hl l.length k 0 [] (by omega) (by omega) (by omega) (by simp)
  rw [List.drop_zero, inss_nil] at this
  exact this
end Go.Proofs.Ytjdijlijojembaa.Ids
