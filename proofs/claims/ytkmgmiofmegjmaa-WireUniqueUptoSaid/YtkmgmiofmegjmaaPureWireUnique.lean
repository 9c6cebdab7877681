/- For every byte slice and limit: whatever wire.Int, Text or List decodes has as its encoding the bytes that were used. No condition. -/
import Derived.Test.YtkmgmiofmegjmaaWireUniq
import Derived.Test.YtkmgmiofmegjmaaPAx9
import Derived.Test.YtkmgmiofmegjmaaRd
namespace Go.Proofs.Ytkmgmiofmegjmaa.Pure
open Go.RowKit Go.Proofs.Ytkmgmiofmegjmaa.PA Go.Proofs.YtkmgmiofmegjmaaW.PrintWords Go.Proofs.YtkmgmiofmegjmaaW.PrintLast Go.Proofs.Ytkmgmiofmegjmaa.Wire

/-- What one of the three readings gives: nothing, or so many bytes. -/
theorem uniq_j0 (l : List Int) (n i e : Int) (s : ByteArray) (j f : Int) (xs : List Int) (u g : Int) (k : Nat)
    (hi : (¬ e = 0 ∧ i = 0) ∨ (e = 0 ∧ 0 < i ∧ i ≤ (l.length : Int) ∧ ∃ A, wire_PutInt.f [] n = some A ∧ mapsheetsref02_Same.f k A (l.take i.toNat) = some true))
    (hj : (¬ f = 0 ∧ j = 0) ∨ (f = 0 ∧ 0 < j ∧ j ≤ (l.length : Int) ∧ ∃ A, wire_PutText.f [] s = some A ∧ mapsheetsref02_Same.f k A (l.take j.toNat) = some true))
    (hu : (¬ g = 0 ∧ u = 0) ∨ (g = 0 ∧ 0 < u ∧ u ≤ (l.length : Int) ∧ ∃ A, wire_PutList.f k [] xs = some A ∧ mapsheetsref02_Same.f k A (l.take u.toNat) = some true))
    (ha : mapsheetslaw02_awake.f k = some true) :
    mapsheetslaw02_WireUnique.j0 (k + 1) l n i e s j f xs u g false = some true := by
  have z : ∀ {x : Int}, 0 < x → decide (x > 0) = true := fun h => decide_eq_true h
  have ne : ∀ {x : Int}, ¬ x = 0 → (x == 0) = false := fun h => beq_eq_false_iff_ne.2 h
  simp only [mapsheetslaw02_WireUnique.j0]
  rw [if_neg (by decide)]
  rcases hi with ⟨e0, rfl⟩ | ⟨rfl, i0, i1, A, a1, a2⟩ <;> rcases hj with ⟨f0, rfl⟩ | ⟨rfl, j0, j1, B, b1, b2⟩ <;> rcases hu with ⟨g0, rfl⟩ | ⟨rfl, u0, u1, C, c1, c2⟩
  · rw [if_neg e0, if_neg f0, if_neg g0, ne e0, ne f0, ne g0]
    simp [ha]
  · rw [if_neg e0, if_neg f0, if_pos rfl, c1, Option.bind_some, if_pos (by omega), if_pos u1, c2, Option.bind_some, if_pos rfl, ne e0, ne f0, z u0]
    simp [ha]
  · rw [if_neg e0, if_pos rfl, b1, Option.bind_some, if_pos (by omega), if_pos j1, b2, Option.bind_some, if_pos rfl, if_neg g0, ne e0, ne g0, z j0]
    simp [ha]
  · rw [if_neg e0, if_pos rfl, b1, Option.bind_some, if_pos (by omega), if_pos j1, b2, Option.bind_some, if_pos rfl, if_pos rfl, c1, Option.bind_some, if_pos (by omega), if_pos u1, c2, Option.bind_some, if_pos rfl, ne e0, z j0, z u0]
    simp [ha]
  · rw [if_pos rfl, a1, Option.bind_some, if_pos (by omega), if_pos i1, a2, Option.bind_some, if_pos rfl, if_neg f0, if_neg g0, ne f0, ne g0, z i0]
    simp [ha]
  · rw [if_pos rfl, a1, Option.bind_some, if_pos (by omega), if_pos i1, a2, Option.bind_some, if_pos rfl, if_neg f0, if_pos rfl, c1, Option.bind_some, if_pos (by omega), if_pos u1, c2, Option.bind_some, if_pos rfl, ne f0, z i0, z u0]
    simp [ha]
  · rw [if_pos rfl, a1, Option.bind_some, if_pos (by omega), if_pos i1, a2, Option.bind_some, if_pos rfl, if_pos rfl, b1, Option.bind_some, if_pos (by omega), if_pos j1, b2, Option.bind_some, if_pos rfl, if_neg g0, ne g0, z i0, z j0]
    simp [ha]
  · rw [if_pos rfl, a1, Option.bind_some, if_pos (by omega), if_pos i1, a2, Option.bind_some, if_pos rfl, if_pos rfl, b1, Option.bind_some, if_pos (by omega), if_pos j1, b2, Option.bind_some, if_pos rfl, if_pos rfl, c1, Option.bind_some, if_pos (by omega), if_pos u1, c2, Option.bind_some, if_pos rfl, z i0, z j0, z u0]
    simp [ha]

theorem encs_length_ge (a : List Int) : a.length ≤ (encs_ a).length := by
  induction a with
  | nil => exact Nat.zero_le _
  | cons x r ih =>
    have h := enc_pos x
    rw [encs_, List.length_append, List.length_cons]
    omega
theorem WireUnique : ∀ (x0 : List Int) (x1 : Int), PA.wfT22 x0 → PA.wfT3 x1 → PA.bkT22 x0 + PA.bkT3 x1 ≤ 1048576 → ∃ k, PA.mapsheetslaw02_WireUnique.f k x0 x1 = some true := by
  intro l m hw _ hbk
  have hb := bytes_of_wf hw.2.2
  have hl : l.length ≤ 1048576 := by
    have h1 : l.length ≤ Reads.sumBk PA.bkT5 l := Reads.sumBk_length (fun _ => Nat.le_refl 1) l
    simp only [PA.bkT22, PA.bkT3] at hbk
    omega
  clear hw hbk
  refine ⟨2 * l.length + 42, ?_⟩
  have hi : (¬ (vdec l 0 0).2.2 = 0 ∧ (vdec l 0 0).2.1 = 0) ∨ ((vdec l 0 0).2.2 = 0 ∧ 0 < (vdec l 0 0).2.1 ∧ (vdec l 0 0).2.1 ≤ (l.length : Int) ∧ ∃ A, wire_PutInt.f [] (vdec l 0 0).1 = some A ∧ mapsheetsref02_Same.f (2 * l.length + 41) A (l.take (vdec l 0 0).2.1.toNat) = some true) := by
    by_cases h : (vdec l 0 0).2.2 = 0
    · obtain ⟨j, hj, h0, h1, h2, h3⟩ := vdec_ok2 hb h
      refine .inr ⟨h, by omega, by omega, _, wput_is [] _ h2 (by simp), ?_⟩
      have hlen : (l.take j).length ≤ l.length := by rw [List.length_take]; omega
      rw [List.nil_append, h3, hj, Int.toNat_natCast]
      exact same_refl _ (by omega) _ (by omega)
    · exact .inl ⟨h, vdec_bad h⟩
  have hj : (¬ (textS l m).2.2 = 0 ∧ (textS l m).2.1 = 0) ∨ ((textS l m).2.2 = 0 ∧ 0 < (textS l m).2.1 ∧ (textS l m).2.1 ≤ (l.length : Int) ∧ ∃ A, wire_PutText.f [] (textS l m).1 = some A ∧ mapsheetsref02_Same.f (2 * l.length + 41) A (l.take (textS l m).2.1.toNat) = some true) := by
    by_cases h : (textS l m).2.2 = 0
    · obtain ⟨j, hj, h0, h1, h2, h3⟩ := textS_ok hb h
      refine .inr ⟨h, by omega, by omega, _, wputtext_is [] _ (by simp; omega), ?_⟩
      have hlen : (l.take j).length ≤ l.length := by rw [List.length_take]; omega
      rw [List.nil_append, h3, hj, Int.toNat_natCast]
      exact same_refl _ (by omega) _ (by omega)
    · exact .inl ⟨h, textS_bad h⟩
  have hu : (¬ (listS l m).2.2 = 0 ∧ (listS l m).2.1 = 0) ∨ ((listS l m).2.2 = 0 ∧ 0 < (listS l m).2.1 ∧ (listS l m).2.1 ≤ (l.length : Int) ∧ ∃ A, wire_PutList.f (2 * l.length + 41) [] (listS l m).1 = some A ∧ mapsheetsref02_Same.f (2 * l.length + 41) A (l.take (listS l m).2.1.toNat) = some true) := by
    by_cases h : (listS l m).2.2 = 0
    · obtain ⟨j, hj, h0, h1, h2, h3⟩ := listS_ok hb h
      have hlen : (l.take j).length ≤ l.length := by rw [List.length_take]; omega
      have hle : (listS l m).1.length ≤ l.length := by
        have h4 := congrArg List.length h3
        have h5 := encs_length_ge (listS l m).1
        rw [List.length_append] at h4
        omega
      refine .inr ⟨h, by omega, by omega, _, wputlist_is [] _ h2 (by omega) (by simp; omega) _ (by omega), ?_⟩
      rw [List.nil_append, h3, hj, Int.toNat_natCast]
      exact same_refl _ (by omega) _ (by omega)
    · exact .inl ⟨h, listS_bad h⟩
  have i1 : 0 ≤ (vdec l 0 0).2.1 ∧ (vdec l 0 0).2.1 ≤ (l.length : Int) := by rcases hi with h | h <;> omega
  have j1 : 0 ≤ (textS l m).2.1 ∧ (textS l m).2.1 ≤ (l.length : Int) := by rcases hj with h | h <;> omega
  have u1 : 0 ≤ (listS l m).2.1 ∧ (listS l m).2.1 ≤ (l.length : Int) := by rcases hu with h | h <;> omega
  unfold mapsheetslaw02_WireUnique.f
  rw [wire_Int_is l hb _ (by omega), Option.bind_some, wtext_is l m hb (by omega) _ (by omega), Option.bind_some, wlist_is l m hb (by omega) _ (by omega), Option.bind_some]
  rw [if_neg (by omega), if_neg (by omega), if_neg (by omega), if_neg (by omega), if_neg (by omega), decide_eq_false (show ¬ (listS l m).2.1 > (l.length : Int) by omega)]
  exact uniq_j0 l _ _ _ _ _ _ _ _ _ (2 * l.length + 41) hi hj hu (awake_is _ (by omega))
end Go.Proofs.Ytkmgmiofmegjmaa.Pure
