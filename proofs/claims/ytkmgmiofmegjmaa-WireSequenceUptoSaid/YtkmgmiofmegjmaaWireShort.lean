/- Cut encodings are short; whole ones are read. -/
import Derived.Test.YtkmgmiofmegjmaaWireText
namespace Go.Proofs.Ytkmgmiofmegjmaa.Wire
open Go.RowKit Go.Proofs.YtkmgmiofmegjmaaW.PrintWords Go.Proofs.YtkmgmiofmegjmaaW.PrintLast Go.Proofs.YtkmgmiofmegjmaaW.PrintMore Go.Proofs.Ytkmgmiofmegjmaa.PA

theorem mx_nat (n : Nat) : mx (n : Int) 0 = (n : Int) := by unfold mx; split <;> omega
theorem lenS_enc (n : Nat) (m : Int) (rest : List Int) (h : (n : Int) ≤ 9223372036854775807) (hm : (n : Int) ≤ mx m 0) : lenS (enc n ++ rest) m = ((n : Int), ((enc n).length : Int), 0) := by
  unfold lenS
  rw [vdec_enc n (i64_nat h) rest]
  simp only
  rw [if_pos trivial, if_neg (by omega), if_neg (by omega)]
theorem lenS_cut (n : Nat) (m : Int) (t : Nat) (h : (n : Int) ≤ 9223372036854775807) (ht : t < (enc n).length) : lenS ((enc n).take t) m = (0, 0, 5) := by
  unfold lenS
  rw [vdec_enc_cut n (i64_nat h) t ht]
  simp
theorem take_left {a b : List Int} {t : Nat} (h : t < a.length) : (a ++ b).take t = a.take t := List.take_append_of_le_length (by omega)
theorem take_right {a b : List Int} {t : Nat} (h : ¬ t < a.length) : (a ++ b).take t = a ++ b.take (t - a.length) := by
  rw [List.take_append, List.take_of_length_le (by omega)]

theorem textS_cut (s : ByteArray) (t : Nat) (h : s.size ≤ 140737488355328) (ht : t < (enc (s.size : Int) ++ bytesOf s).length) : textS ((enc (s.size : Int) ++ bytesOf s).take t) (s.size : Int) = ((⟨#[]⟩ : ByteArray), 0, 5) := by
  rw [List.length_append, bytesOf_length] at ht
  unfold textS
  by_cases hc : t < (enc (s.size : Int)).length
  · rw [take_left hc, lenS_cut s.size _ t (by omega) hc]
    simp
  · rw [take_right hc, lenS_enc s.size _ _ (by omega) (by rw [mx_nat]; omega)]
    simp only
    rw [if_pos trivial, if_pos]
    rw [List.length_append, List.length_take, bytesOf_length]
    omega
theorem textS_whole (s : ByteArray) (rest : List Int) (m : Int) (hm : (s.size : Int) ≤ mx m 0) (h : s.size ≤ 140737488355328) :
    textS (enc (s.size : Int) ++ bytesOf s ++ rest) m = (strOfNums (bytesOf s), (((enc (s.size : Int)) ++ bytesOf s).length : Int), 0) := by
  unfold textS
  rw [List.append_assoc, lenS_enc s.size _ _ (by omega) hm]
  simp only
  rw [if_pos trivial, if_neg (by rw [List.length_append, List.length_append, bytesOf_length]; omega)]
  have e1 : (((enc (s.size : Int)).length : Int) + (s.size : Int)).toNat = (enc (s.size : Int)).length + (bytesOf s).length := by rw [bytesOf_length]; omega
  rw [e1, Int.toNat_natCast, List.take_append, List.take_of_length_le (by omega), Nat.add_sub_cancel_left, List.take_append_of_le_length (Nat.le_refl _), List.take_length, List.drop_append_of_le_length (Nat.le_refl _), List.drop_length, List.nil_append, List.length_append, bytesOf_length]
  congr 2

theorem listL_cut : ∀ (xs : List Int), (∀ x ∈ xs, I64 x) → ∀ (t : Nat) (u : Int) (acc : List Int), t < (encs_ xs).length → listL xs.length ((encs_ xs).take t) u acc = ([], 0, 5) := by
  intro xs
  induction xs with
  | nil => intro _ t u acc h; simp [encs_] at h
  | cons x r ih =>
    intro hI t u acc ht
    have hx := hI x List.mem_cons_self
    simp only [encs_, List.length_append] at ht ⊢
    rw [List.length_cons, listL]
    by_cases hc : t < (enc x).length
    · rw [take_left hc, vdec_enc_cut x hx t hc]
      simp
    · rw [take_right hc, vdec_enc x hx]
      simp only
      rw [if_pos trivial, Int.toNat_natCast, List.drop_append_of_le_length (Nat.le_refl _), List.drop_length, List.nil_append]
      exact ih (fun y hy => hI y (List.mem_cons_of_mem _ hy)) _ _ _ (by omega)
theorem listL_whole : ∀ (xs : List Int), (∀ x ∈ xs, I64 x) → ∀ (rest : List Int) (u : Int) (acc : List Int), listL xs.length (encs_ xs ++ rest) u acc = (acc ++ xs, u + ((encs_ xs).length : Int), 0) := by
  intro xs
  induction xs with
  | nil => intro _ rest u acc; simp [encs_, listL]
  | cons x r ih =>
    intro hI rest u acc
    have hx := hI x List.mem_cons_self
    rw [List.length_cons, listL, encs_, List.append_assoc, vdec_enc x hx]
    simp only
    rw [if_pos trivial, Int.toNat_natCast, List.drop_append_of_le_length (Nat.le_refl _), List.drop_length, List.nil_append, ih (fun y hy => hI y (List.mem_cons_of_mem _ hy)), List.append_assoc, List.length_append]
    simp only [List.singleton_append, Int.natCast_add, Int.add_assoc]
theorem listS_cut (xs : List Int) (hI : ∀ x ∈ xs, I64 x) (t : Nat) (h : xs.length ≤ 140737488355328) (ht : t < (enc (xs.length : Int) ++ encs_ xs).length) : listS ((enc (xs.length : Int) ++ encs_ xs).take t) (xs.length : Int) = ([], 0, 5) := by
  rw [List.length_append] at ht
  unfold listS
  by_cases hc : t < (enc (xs.length : Int)).length
  · rw [take_left hc, lenS_cut xs.length _ t (by omega) hc]
    simp
  · rw [take_right hc, lenS_enc xs.length _ _ (by omega) (by rw [mx_nat]; omega)]
    simp only
    rw [if_pos trivial, Int.toNat_natCast, Int.toNat_natCast, List.drop_append_of_le_length (Nat.le_refl _), List.drop_length, List.nil_append]
    exact listL_cut xs hI _ _ _ (by omega)
theorem listS_whole (xs : List Int) (hI : ∀ x ∈ xs, I64 x) (rest : List Int) (m : Int) (hm : (xs.length : Int) ≤ mx m 0) (h : xs.length ≤ 140737488355328) : listS (enc (xs.length : Int) ++ encs_ xs ++ rest) m = (xs, ((enc (xs.length : Int) ++ encs_ xs).length : Int), 0) := by
  unfold listS
  rw [List.append_assoc, lenS_enc xs.length _ _ (by omega) hm]
  simp only
  rw [if_pos trivial, Int.toNat_natCast, Int.toNat_natCast, List.drop_append_of_le_length (Nat.le_refl _), List.drop_length, List.nil_append, listL_whole xs hI, List.nil_append, List.length_append]
  simp
theorem bytes_append {a b : List Int} (ha : Bytes a) (hb : Bytes b) : Bytes (a ++ b) := by
  intro x hx
  rcases List.mem_append.1 hx with h | h
  · exact ha x h
  · exact hb x h
theorem bytes_enc (n : Int) (h : I64 n) : Bytes (enc n) := venc_bytes 9 _ (zz_bounds h).1
theorem bytes_encs (xs : List Int) (hI : ∀ x ∈ xs, I64 x) : Bytes (encs_ xs) := by
  induction xs with
  | nil => intro x hx; cases hx
  | cons x r ih => exact bytes_append (bytes_enc x (hI x List.mem_cons_self)) (ih fun y hy => hI y (List.mem_cons_of_mem _ hy))
theorem bytes_str (s : ByteArray) : Bytes (bytesOf s) := by
  intro x hx
  unfold bytesOf at hx
  obtain ⟨b, _, rfl⟩ := List.mem_map.1 hx
  have := b.toNat_lt
  omega
theorem bytes_take {l : List Int} (h : Bytes l) (n : Nat) : Bytes (l.take n) := fun x hx => h x (List.mem_of_mem_take hx)
end Go.Proofs.Ytkmgmiofmegjmaa.Wire
