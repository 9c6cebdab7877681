/- What Text and List have read is what they write. -/
import Derived.Test.YtkmgmiofmegjmaaWireShort
namespace Go.Proofs.Ytkmgmiofmegjmaa.Wire
open Go.RowKit Go.Proofs.YtkmgmiofmegjmaaW.PrintWords Go.Proofs.YtkmgmiofmegjmaaW.PrintLast Go.Proofs.YtkmgmiofmegjmaaW.PrintMore Go.Proofs.Ytkmgmiofmegjmaa.PA

theorem bytesOf_str : ∀ (xs : List Int), Bytes xs → bytesOf (strOfNums xs) = xs := by
  intro xs hb
  unfold bytesOf strOfNums
  simp only [List.map_map]
  have : ∀ x ∈ xs, ((fun b : UInt8 => (b.toNat : Int)) ∘ fun n : Int => UInt8.ofNat n.toNat) x = x := by
    intro x hx
    have h := hb x hx
    simp only [Function.comp, UInt8.toNat_ofNat']
    omega
  rw [List.map_congr_left this, List.map_id']
theorem size_str (xs : List Int) : (strOfNums xs).size = xs.length := by
  simp [strOfNums, ByteArray.size]

theorem take_enc_append (a b : List Int) (n : Nat) : (a ++ b).take (a.length + n) = a ++ b.take n := by
  rw [List.take_append, List.take_of_length_le (by omega), Nat.add_sub_cancel_left]

theorem textS_ok {l : List Int} {m : Int} (hb : Bytes l) (h : (textS l m).2.2 = 0) : ∃ (j : Nat), (textS l m).2.1 = (j : Int) ∧ 0 < j ∧ j ≤ l.length ∧ (textS l m).1.size ≤ l.length ∧ enc ((textS l m).1.size : Int) ++ bytesOf (textS l m).1 = l.take j := by
  unfold textS at h ⊢
  by_cases h0 : (lenS l m).2.2 = 0
  · obtain ⟨n, rest, hn1, hn2, he, hv⟩ := lenS_ok hb h0
    have hp := enc_pos (n : Int)
    rw [if_pos h0] at h ⊢
    rw [hv] at h ⊢
    simp only at h ⊢
    have hlen : l.length = (enc (n : Int)).length + rest.length := by rw [he, List.length_append]
    by_cases h2 : (l.length : Int) - ((enc (n : Int)).length : Int) < (n : Int)
    · rw [if_pos h2] at h; simp at h
    · rw [if_neg h2]
      have hnr : n ≤ rest.length := by omega
      have hbr : Bytes (rest.take n) := by
        intro x hx
        exact hb x (by rw [he]; exact List.mem_append_right _ (List.mem_of_mem_take hx))
      have e1 : (l.take (((enc (n : Int)).length : Int) + (n : Int)).toNat).drop (((enc (n : Int)).length : Int)).toNat = rest.take n := by
        have : (((enc (n : Int)).length : Int) + (n : Int)).toNat = (enc (n : Int)).length + n := by omega
        rw [this, he, take_enc_append, Int.toNat_natCast, List.drop_append_of_le_length (Nat.le_refl _), List.drop_length, List.nil_append]
      have e2 : (rest.take n).length = n := by rw [List.length_take]; omega
      refine ⟨(enc (n : Int)).length + n, by simp, by omega, by omega, ?_, ?_⟩
      · simp only [e1, size_str, e2]; omega
      · simp only [e1, size_str, e2, bytesOf_str _ hbr]
        rw [he, take_enc_append]
  · rw [if_neg h0] at h
    exact absurd h h0
theorem textS_bad {l : List Int} {m : Int} (h : ¬ (textS l m).2.2 = 0) : (textS l m).2.1 = 0 := by
  unfold textS at h ⊢
  split
  · split
    · rfl
    · rename_i h0 h1
      rw [if_pos h0, if_neg h1] at h
      exact absurd rfl h
  · rfl

theorem listL_ok : ∀ (c : Nat) (s acc : List Int) (u : Nat), Bytes s → (listL c s (u : Int) acc).2.2 = 0 → ∃ (xs rest : List Int), xs.length = c ∧ (∀ x ∈ xs, I64 x) ∧ s = encs_ xs ++ rest ∧ listL c s (u : Int) acc = (acc ++ xs, ((u + (encs_ xs).length : Nat) : Int), 0) := by
  intro c
  induction c with
  | zero => intro s acc u _ _; exact ⟨[], s, rfl, (fun x hx => by cases hx), rfl, by simp [listL, encs_]⟩
  | succ c ih =>
    intro s acc u hb h
    simp only [listL] at h ⊢
    by_cases h0 : (vdec s 0 0).2.2 = 0
    · obtain ⟨x, rest, hx, he, hv⟩ := vdec_parts hb h0
      rw [if_pos h0] at h ⊢
      rw [hv] at h ⊢
      simp only at h ⊢
      clear h0 hv
      rw [Int.toNat_natCast, he, List.drop_append_of_le_length (Nat.le_refl _), List.drop_length, List.nil_append, ← Int.natCast_add] at h ⊢
      obtain ⟨xs, rest', h1, h2, h3, h4⟩ := ih rest (acc ++ [x]) (u + (enc x).length) (fun y hy => hb y (by rw [he]; exact List.mem_append_right _ hy)) h
      refine ⟨x :: xs, rest', by simp [h1], fun y hy => ?_, by rw [h3, encs_, List.append_assoc], ?_⟩
      · rcases List.mem_cons.1 hy with rfl | hy
        · exact hx
        · exact h2 y hy
      · rw [h4, encs_, List.append_assoc, List.length_append, Nat.add_assoc]
        rfl
    · rw [if_neg h0] at h
      exact absurd h h0
theorem listL_bad : ∀ (c : Nat) (s acc : List Int) (u : Int), ¬ (listL c s u acc).2.2 = 0 → (listL c s u acc).2.1 = 0 := by
  intro c
  induction c with
  | zero => intro s acc u h; simp [listL] at h
  | succ c ih =>
    intro s acc u h
    simp only [listL] at h ⊢
    by_cases h0 : (vdec s 0 0).2.2 = 0
    · rw [if_pos h0] at h ⊢
      exact ih _ _ _ h
    · rw [if_neg h0]
theorem listS_ok {l : List Int} {m : Int} (hb : Bytes l) (h : (listS l m).2.2 = 0) : ∃ (j : Nat), (listS l m).2.1 = (j : Int) ∧ 0 < j ∧ j ≤ l.length ∧ (∀ x ∈ (listS l m).1, I64 x) ∧ enc ((listS l m).1.length : Int) ++ encs_ (listS l m).1 = l.take j := by
  unfold listS at h ⊢
  by_cases h0 : (lenS l m).2.2 = 0
  · obtain ⟨n, rest, hn1, hn2, he, hv⟩ := lenS_ok hb h0
    have hp := enc_pos (n : Int)
    rw [if_pos h0] at h ⊢
    rw [hv] at h ⊢
    simp only at h ⊢
    have hd : l.drop (enc (n : Int)).length = rest := by rw [he, List.drop_append_of_le_length (Nat.le_refl _), List.drop_length, List.nil_append]
    rw [Int.toNat_natCast, Int.toNat_natCast, hd] at h ⊢
    obtain ⟨xs, rest', h1, h2, h3, h4⟩ := listL_ok n rest [] (enc (n : Int)).length (fun y hy => hb y (by rw [he]; exact List.mem_append_right _ hy)) h
    rw [h4]
    simp only [List.nil_append, h1]
    have hlen : l.length = (enc (n : Int)).length + ((encs_ xs).length + rest'.length) := by rw [he, h3, List.length_append, List.length_append]
    refine ⟨_, rfl, by omega, by omega, h2, ?_⟩
    rw [he, take_enc_append, h3, List.take_append_of_le_length (Nat.le_refl _), List.take_length]
  · rw [if_neg h0] at h
    exact absurd h h0
theorem listS_bad {l : List Int} {m : Int} (h : ¬ (listS l m).2.2 = 0) : (listS l m).2.1 = 0 := by
  unfold listS at h ⊢
  by_cases h0 : (lenS l m).2.2 = 0
  · rw [if_pos h0] at h ⊢
    exact listL_bad _ _ _ _ h
  · rw [if_neg h0]
theorem vdec_ok2 {l : List Int} (hb : Bytes l) (h : (vdec l 0 0).2.2 = 0) : ∃ (j : Nat), (vdec l 0 0).2.1 = (j : Int) ∧ 0 < j ∧ j ≤ l.length ∧ I64 (vdec l 0 0).1 ∧ enc (vdec l 0 0).1 = l.take j := by
  obtain ⟨n, rest, hn, he, hv⟩ := vdec_parts hb h
  rw [hv]
  have hp := enc_pos n
  have hlen : l.length = (enc n).length + rest.length := by rw [he, List.length_append]
  refine ⟨(enc n).length, rfl, by omega, by omega, hn, ?_⟩
  rw [he, List.take_append_of_le_length (Nat.le_refl _), List.take_length]
theorem vdec_bad {l : List Int} (h : ¬ (vdec l 0 0).2.2 = 0) : (vdec l 0 0).2.1 = 0 := by
  rcases vdec_err l 0 0 with h1 | h1 | h1
  · exact absurd h1 h
  · rw [h1]
  · rw [h1]
end Go.Proofs.Ytkmgmiofmegjmaa.Wire
