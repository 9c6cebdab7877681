/- For every list of at most 100 items and every tail: what is written one after the other is read one after the other. -/
import Derived.Test.YtkmgmiofmegjmaaRd
import Derived.Test.YtkmgmiofmegjmaaPAx6
import Derived.Test.YtkmgmiofmegjmaaWireShort
namespace Go.Proofs.Ytkmgmiofmegjmaa.Pure
open Go.RowKit Go.Proofs.Ytkmgmiofmegjmaa.PA Go.Proofs.YtkmgmiofmegjmaaW.PrintWords Go.Proofs.YtkmgmiofmegjmaaW.PrintLast Go.Proofs.Ytkmgmiofmegjmaa.Wire

theorem str_of_bytes (s : ByteArray) : strOfNums (bytesOf s) = s := by
  apply ByteArray.ext
  unfold strOfNums bytesOf
  simp only [List.map_map]
  have : ((fun n : Int => UInt8.ofNat n.toNat) ∘ fun b : UInt8 => (b.toNat : Int)) = id := by
    funext b
    simp
  rw [this, List.map_id]
/-- One item. -/
def encI (x : S42) : List Int := if x.f0 = 0 then enc x.f1 else if x.f0 = 1 then enc (x.f2.size : Int) ++ bytesOf x.f2 else enc (x.f3.length : Int) ++ encs_ x.f3
def encA : List S42 → List Int
  | [] => []
  | x :: r => encI x ++ encA r
def Fine (x : S42) : Prop := I64 x.f1 ∧ x.f2.size ≤ 1048576 ∧ x.f3.length ≤ 1048576 ∧ ∀ y ∈ x.f3, I64 y
theorem encI_bytes {x : S42} (h : Fine x) : Bytes (encI x) := by
  obtain ⟨h1, h2, h3, h4⟩ := h
  unfold encI
  split
  · exact bytes_enc _ h1
  · split
    · exact bytes_append (bytes_enc _ (i64_nat (by omega))) (bytes_str _)
    · exact bytes_append (bytes_enc _ (i64_nat (by omega))) (bytes_encs _ h4)
theorem encA_bytes : ∀ (l : List S42), (∀ x ∈ l, Fine x) → Bytes (encA l) := by
  intro l
  induction l with
  | nil => intro _ x hx; cases hx
  | cons x r ih => intro h; exact bytes_append (encI_bytes (h x List.mem_cons_self)) (ih fun y hy => h y (List.mem_cons_of_mem _ hy))
theorem encI_length (x : S42) : (encI x).length ≤ 10 * PA.bkT42 x := by
  have h1 := enc_length x.f1
  have h2 := enc_length (x.f2.size : Int)
  have h3 := enc_length (x.f3.length : Int)
  have h4 := encs_length_le x.f3
  have h5 : x.f3.length ≤ Reads.sumBk PA.bkT3 x.f3 := Reads.sumBk_length (fun _ => Nat.le_refl 1) x.f3
  unfold encI
  simp only [PA.bkT42, PA.bkT3, PA.bkT9, PA.bkT34] at h5 ⊢
  split
  · omega
  · split
    · rw [List.length_append, bytesOf_length]; omega
    · rw [List.length_append]; omega
theorem encA_length : ∀ (l : List S42), (encA l).length ≤ 10 * Reads.sumBk PA.bkT42 l := by
  intro l
  induction l with
  | nil => exact Nat.zero_le _
  | cons x r ih =>
    have := encI_length x
    rw [encA, List.length_append, Reads.sumBk]
    omega
theorem at_drop {l s : List S42} {x : S42} {i : Nat} (h : l.drop i = x :: s) : rd_T42 l (i : Int) = x ∧ i < l.length ∧ l.drop (i + 1) = s := by
  have hl : i < l.length := by
    have := congrArg List.length h
    rw [List.length_drop, List.length_cons] at this
    omega
  have h2 := List.drop_eq_getElem_cons hl
  rw [h] at h2
  injection h2 with h3 h4
  refine ⟨?_, hl, h4.symm⟩
  unfold rd_T42
  rw [Int.toNat_natCast, List.getD_eq_getElem?_getD, List.getElem?_eq_getElem hl]
  exact h3.symm
theorem all_read {l s : List S42} {i : Nat} (h : l.drop i = s) (hs : s = []) (hi : i ≤ l.length) : i = l.length := by
  have := congrArg List.length h
  rw [List.length_drop, hs, List.length_nil] at this
  omega
theorem whole_drop (a b : List Int) : (a ++ b).drop ((a.length : Int)).toNat = b := by rw [Int.toNat_natCast, List.drop_left]

theorem dec_loop (l : List S42) (m : List Int) (hl : l.length ≤ 100) (_hf : ∀ x ∈ l, Fine x) (hm : Bytes m) (T : Nat) (hT : T ≤ 1099511627776) : ∀ (s : List S42) (i k : Nat), l.drop i = s → i ≤ l.length → (∀ x ∈ s, Fine x) → (encA s ++ m).length ≤ T → s.length + 2 * T + 1048576 + 100 < k → mapsheetslaw02_WireSequence.l1 k l m (encA s ++ m) (i : Int) = some true := by
  intro s
  induction s with
  | nil =>
    intro i k hd hi _ ht hk
    have := all_read hd rfl hi
    obtain ⟨k, rfl⟩ : ∃ n, k = n + 1 := ⟨k - 1, by omega⟩
    rw [encA, List.nil_append] at ht ⊢
    rw [mapsheetslaw02_WireSequence.l1, if_neg (by omega), same_refl _ (by omega) _ (by omega), Option.bind_some, if_pos rfl, awake_is _ (by omega)]
    rfl
  | cons x r ih =>
    intro i k hd hi hs ht hk
    obtain ⟨hrd, hil, hd'⟩ := at_drop hd
    obtain ⟨k, rfl⟩ : ∃ n, k = n + 1 := ⟨k - 1, by omega⟩
    rw [List.length_cons] at hk
    have hx := hs x List.mem_cons_self
    have hr : ∀ y ∈ r, Fine y := fun y hy => hs y (List.mem_cons_of_mem _ hy)
    have hB : Bytes (encA (x :: r) ++ m) := bytes_append (encA_bytes _ hs) hm
    have e : encA (x :: r) ++ m = encI x ++ (encA r ++ m) := by rw [encA, List.append_assoc]
    have ht2 : (encA r ++ m).length ≤ T := by rw [e, List.length_append] at ht; omega
    have ih' := ih (i + 1) k hd' (by omega) hr ht2 (by omega)
    obtain ⟨f1, f2, f3, f4⟩ := hx
    have hw : wrap64 ((i : Int) + 1) = ((i + 1 : Nat) : Int) := by rw [w64 _ (by omega) (by omega)]; omega
    have hsm : mapsheetsref02_SameInts.f k x.f3 x.f3 = some true := sameints_refl _ (by omega) _ (by omega)
    rw [e] at hB ht ⊢
    rw [mapsheetslaw02_WireSequence.l1, if_pos (by omega), if_pos (by omega), hrd, hw]
    by_cases k0 : x.f0 = 0
    · have hE : encI x = enc x.f1 := by unfold encI; rw [if_pos k0]
      have hp := enc_pos x.f1
      rw [hE] at hB ht ⊢
      rw [if_pos k0, wire_Int_is _ hB _ (by omega), Option.bind_some, vdec_enc _ f1]
      rw [List.length_append] at ht
      rw [if_pos (by rfl), if_neg (by show ¬ ((enc x.f1).length : Int) < 1; omega), if_neg (by show ¬ ((enc x.f1).length : Int) > _; rw [List.length_append]; omega), if_pos (by rfl), hsm, Option.bind_some, if_pos rfl, if_pos (by show 0 ≤ ((enc x.f1).length : Int); omega), if_pos (by show ((enc x.f1).length : Int) ≤ _; rw [List.length_append]; omega), whole_drop]
      exact ih'
    · rw [if_neg k0]
      by_cases k1 : x.f0 = 1
      · have hE : encI x = enc (x.f2.size : Int) ++ bytesOf x.f2 := by unfold encI; rw [if_neg k0, if_pos k1]
        have hp := enc_pos (x.f2.size : Int)
        have hq : 0 < (enc (x.f2.size : Int) ++ bytesOf x.f2).length := by rw [List.length_append]; omega
        have hmx : (x.f2.size : Int) ≤ mx (x.f2.size : Int) 0 := by rw [mx_nat]; omega
        rw [hE] at hB ht ⊢
        rw [if_pos k1, wtext_is _ _ hB (by omega) _ (by omega), Option.bind_some, textS_whole _ _ _ hmx (by omega)]
        rw [List.length_append] at ht
        generalize hG : enc (x.f2.size : Int) ++ bytesOf x.f2 = G at *
        rw [if_pos (by rfl), if_neg (by show ¬ (G.length : Int) < 1; omega), if_neg (by show ¬ (G.length : Int) > _; rw [List.length_append]; omega), if_pos (by show (strOfNums (bytesOf x.f2)).toList = _; rw [str_of_bytes]), hsm, Option.bind_some, if_pos rfl, if_pos (by show 0 ≤ (G.length : Int); omega), if_pos (by show (G.length : Int) ≤ _; rw [List.length_append]; omega), whole_drop]
        exact ih'
      · have hE : encI x = enc (x.f3.length : Int) ++ encs_ x.f3 := by unfold encI; rw [if_neg k0, if_neg k1]
        have hp := enc_pos (x.f3.length : Int)
        have hq : 0 < (enc (x.f3.length : Int) ++ encs_ x.f3).length := by rw [List.length_append]; omega
        have hmx : (x.f3.length : Int) ≤ mx (x.f3.length : Int) 0 := by rw [mx_nat]; omega
        rw [hE] at hB ht ⊢
        rw [if_neg k1, wlist_is _ _ hB (by omega) _ (by omega), Option.bind_some, listS_whole _ f4 _ _ hmx (by omega)]
        rw [List.length_append] at ht
        generalize hG : enc (x.f3.length : Int) ++ encs_ x.f3 = G at *
        rw [if_pos (by rfl), if_neg (by show ¬ (G.length : Int) < 1; omega), if_neg (by show ¬ (G.length : Int) > _; rw [List.length_append]; omega), hsm, Option.bind_some, if_pos rfl, if_pos (by show 0 ≤ (G.length : Int); omega), if_pos (by show (G.length : Int) ≤ _; rw [List.length_append]; omega), whole_drop]
        exact ih'

theorem enc_loop (l : List S42) (m : List Int) (hl : l.length ≤ 100) (hf : ∀ x ∈ l, Fine x) (hm : Bytes m) (T : Nat) (hT : T ≤ 20000000) (hA : (encA l ++ m).length ≤ T) : ∀ (s : List S42) (i k : Nat) (acc : List Int), l.drop i = s → i ≤ l.length → (∀ x ∈ s, Fine x) → acc ++ encA s = encA l → s.length + l.length + 2 * T + 1048576 + 200 < k → mapsheetslaw02_WireSequence.l0 k l m acc (i : Int) = some true := by
  intro s
  induction s with
  | nil =>
    intro i k acc hd hi _ he hk
    have := all_read hd rfl hi
    obtain ⟨k, rfl⟩ : ∃ n, k = n + 1 := ⟨k - 1, by omega⟩
    rw [encA, List.append_nil] at he
    subst he
    have hA' := hA
    rw [List.length_append] at hA'
    rw [mapsheetslaw02_WireSequence.l0, if_neg (by omega), Option.bind_some, if_pos (by rw [List.length_nil]; omega), Option.bind_some, List.nil_append, if_pos (by omega)]
    exact dec_loop l m hl hf hm T (by omega) l 0 k rfl (Nat.zero_le _) hf hA (by omega)
  | cons x r ih =>
    intro i k acc hd hi hs he hk
    obtain ⟨hrd, hil, hd'⟩ := at_drop hd
    obtain ⟨k, rfl⟩ : ∃ n, k = n + 1 := ⟨k - 1, by omega⟩
    rw [List.length_cons] at hk
    have hx := hs x List.mem_cons_self
    have hr : ∀ y ∈ r, Fine y := fun y hy => hs y (List.mem_cons_of_mem _ hy)
    have hac : acc.length ≤ T := by
      have h1 := congrArg List.length he
      rw [List.length_append] at h1
      rw [List.length_append] at hA
      omega
    have ih' := ih (i + 1) k (acc ++ encI x) hd' (by omega) hr (by rw [List.append_assoc]; exact he) (by omega)
    obtain ⟨f1, f2, f3, f4⟩ := hx
    have hw : wrap64 ((i : Int) + 1) = ((i + 1 : Nat) : Int) := by rw [w64 _ (by omega) (by omega)]; omega
    rw [mapsheetslaw02_WireSequence.l0, if_pos (by omega), if_pos (by omega), hrd, hw]
    by_cases k0 : x.f0 = 0
    · have hE : encI x = enc x.f1 := by unfold encI; rw [if_pos k0]
      rw [hE] at ih'
      rw [if_pos k0, wput_is _ _ f1 (by omega), Option.bind_some]
      exact ih'
    · rw [if_neg k0]
      by_cases k1 : x.f0 = 1
      · have hE : encI x = enc (x.f2.size : Int) ++ bytesOf x.f2 := by unfold encI; rw [if_neg k0, if_pos k1]
        rw [hE, ← List.append_assoc] at ih'
        rw [if_pos k1, wputtext_is _ _ (by omega), Option.bind_some]
        exact ih'
      · have hE : encI x = enc (x.f3.length : Int) ++ encs_ x.f3 := by unfold encI; rw [if_neg k0, if_neg k1]
        rw [hE, ← List.append_assoc] at ih'
        rw [if_neg k1, wputlist_is _ _ f4 (by omega) (by omega) _ (by omega), Option.bind_some]
        exact ih'

theorem WireSequence : ∀ (x0 : List (S42)) (x1 : List Int), PA.wfT40 x0 → PA.wfT22 x1 → PA.bkT40 x0 + PA.bkT22 x1 ≤ 1048576 → ∃ k, PA.mapsheetslaw02_WireSequence.f k x0 x1 = some true := by
  intro l m h0 h1 hbk
  have hm : Bytes m := bytes_of_wf h1.2.2
  have hml : m.length ≤ Reads.sumBk PA.bkT5 m := Reads.sumBk_length (fun _ => Nat.le_refl 1) m
  have hA := encA_length l
  have hf : ∀ x ∈ l, Fine x := by
    intro x hx
    obtain ⟨w0, w1, w2, w3⟩ := h0.2.2 x hx
    have hb := Reads.sumBk_mem (bk := PA.bkT42) hx
    have h5 : x.f3.length ≤ Reads.sumBk PA.bkT3 x.f3 := Reads.sumBk_length (fun _ => Nat.le_refl 1) x.f3
    simp only [PA.bkT42, PA.bkT3, PA.bkT9, PA.bkT34, PA.bkT40, PA.bkT22] at hb h5 hbk
    exact ⟨i64_of_wf w1, by omega, by omega, fun y hy => i64_of_wf (w3.2.2 y hy)⟩
  simp only [PA.bkT40, PA.bkT22] at hbk
  refine ⟨50000000, ?_⟩
  unfold mapsheetslaw02_WireSequence.f
  by_cases h : (l.length : Int) > 100
  · rw [if_pos h, awake_is _ (by omega)]
    rfl
  · rw [if_neg h]
    exact enc_loop l m (by omega) hf hm 20000000 (by omega) (by rw [List.length_append]; omega) l 0 _ [] rfl (Nat.zero_le _) hf rfl (by omega)
end Go.Proofs.Ytkmgmiofmegjmaa.Pure
