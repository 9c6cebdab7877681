-- Written by wip/pp.py of this repository, on the kit's print program. Not trusted: Lean checks it.
import Derived.Test.YtjdijlijojembaaPAx0
import Derived.Test.YtjdijlijojembaaPAx1
namespace Go.Proofs.Ytjdijlijojembaa.PA
open Go.RowKit Go.Proofs.YtjdijlijojembaaW.PrintWords Go.Proofs.YtjdijlijojembaaW.PrintLast Go.Proofs.YtjdijlijojembaaW.PrintMore
attribute [local go_sem] max2_int min2_int max_two min_two max_three min_three max_four min_four   -- for this text's walks alone
set_option linter.unusedVariables false
set_option linter.unusedSimpArgs false

/-! ### slices_Contains_int_int: function 24 -/
def slices_Contains_int_int.f (k : Nat) (l0 : List Int) (a1 : Int) : Option (Bool) := (slices_Index_int_int.f k l0 a1).bind fun t104 => (some (decide (t104 ≥ 0)))
theorem slices_Contains_int_int.mono : ∀ a0 a1 k, LeO (slices_Contains_int_int.f k a0 a1) (slices_Contains_int_int.f (k + 1) a0 a1) := by
  intro a0 a1 k
  unfold slices_Contains_int_int.f
  repeat' first
      | (with_reducible exact slices_Index_int_int.mono _ _ _)
      | (with_reducible exact LeO.refl _)
      | (with_reducible exact LeO.none _)
      | (with_reducible refine LeO.ite ?_ ?_)
      | (with_reducible refine LeO.bind ?_ (fun _ => ?_))
      | exact slices_Index_int_int.mono _ _ _
      | exact LeO.none _
      | refine LeO.ite ?_ ?_
      | refine LeO.bind ?_ (fun _ => ?_)
set_option maxHeartbeats 8000000 in
set_option maxRecDepth 100000 in
theorem slices_Contains_int_int.calls (k : Nat) (A0 : Option Addr) (c0 : Nat) (l0 : List Int) (a1 : Int) (r : Bool) (w : World) (hr0 : Kd.C (Kd.int .i64) w A0 l0.length l0) (hc0 : l0.length ≤ c0) (h : slices_Contains_int_int.f k l0 a1 = some r) :
    Calls Try.prog 24 #[.slice A0 l0.length c0, .int .i64 a1] w fun e w' => e = .returned (.bool r) ∧ Drawn0 w w' := by
  have HR0 := Aside0.mk hr0
  have HC0 := Aside0.mk hc0
  clear hr0 hc0
  have H : ((slices_Index_int_int.f k l0 a1).bind fun t104 => (some (decide (t104 ≥ 0)))) = some r := h
  clear h
  replace H := Option.bind_eq_some_iff.mp H
  obtain ⟨t104, A30, H⟩ := H
  replace H : (some (decide (t104 ≥ 0))) = some r := H
  have A3 := Aside0.mk A30
  clear A30
  obtain rfl := Option.some.inj H
  go_enter Try.func24, Try.ntmps24
  go_wp2_with (first | ((with_reducible refine gate_callee (f := 30) rfl ?_); refine goesL_ (some 7) rfl rfl Try.func30 (by kernel_rfl) rfl #[.slice A0 l0.length c0, .int .i64 a1] rfl (by (try simp only [List.map_toArray, List.map_cons, List.map_nil]); first | done | rfl | (simp only [List.length_drop, List.length_take]; rfl)) ?_; (with_reducible refine (slices_Index_int_int.calls k _ _ l0 a1 t104 _ ?side1 ?side2 A3.out).mono ?_); (case side1 => repeat (first | exact HR0.out | (with_reducible refine Kd.C_alloc ?_ _) | (with_reducible refine Kd.C_drewN ?_ _) | (with_reducible refine Kd.C_drew ?_))); (case side2 => exact HC0.out); rintro e w' ⟨rfl, ⟨nd, rfl⟩⟩; refine ⟨_, rfl, ?_⟩))
  go_ret
  exact ⟨by first | rfl | (simp; done) | (simp [*]; done), by repeat (first | exact Drawn0.refl _ | apply Drawn0.step)⟩

/-! ### idset_Has: function 13 -/
def idset_Has.f (k : Nat) (l0 : List Int) (a1 : Int) : Option (Bool) := (slices_Contains_int_int.f k l0 a1).bind fun t105 => (some t105)
theorem idset_Has.mono : ∀ a0 a1 k, LeO (idset_Has.f k a0 a1) (idset_Has.f (k + 1) a0 a1) := by
  intro a0 a1 k
  unfold idset_Has.f
  repeat' first
      | (with_reducible exact slices_Contains_int_int.mono _ _ _)
      | (with_reducible exact LeO.refl _)
      | (with_reducible exact LeO.none _)
      | (with_reducible refine LeO.ite ?_ ?_)
      | (with_reducible refine LeO.bind ?_ (fun _ => ?_))
      | exact slices_Contains_int_int.mono _ _ _
      | exact LeO.none _
      | refine LeO.ite ?_ ?_
      | refine LeO.bind ?_ (fun _ => ?_)
set_option maxHeartbeats 8000000 in
set_option maxRecDepth 100000 in
theorem idset_Has.calls (k : Nat) (A0 : Option Addr) (c0 : Nat) (l0 : List Int) (a1 : Int) (r : Bool) (w : World) (hr0 : Kd.C (Kd.int .i64) w A0 l0.length l0) (hc0 : l0.length ≤ c0) (h : idset_Has.f k l0 a1 = some r) :
    Calls Try.prog 13 #[.slice A0 l0.length c0, .int .i64 a1] w fun e w' => e = .returned (.bool r) ∧ Drawn0 w w' := by
  have HR0 := Aside0.mk hr0
  have HC0 := Aside0.mk hc0
  clear hr0 hc0
  have H : ((slices_Contains_int_int.f k l0 a1).bind fun t105 => (some t105)) = some r := h
  clear h
  replace H := Option.bind_eq_some_iff.mp H
  obtain ⟨t105, A30, H⟩ := H
  replace H : (some t105) = some r := H
  have A3 := Aside0.mk A30
  clear A30
  obtain rfl := Option.some.inj H
  go_enter Try.func13, Try.ntmps13
  go_wp2_with (first | ((with_reducible refine gate_callee (f := 24) rfl ?_); refine goesL_ (some 7) rfl rfl Try.func24 (by kernel_rfl) rfl #[.slice A0 l0.length c0, .int .i64 a1] rfl (by (try simp only [List.map_toArray, List.map_cons, List.map_nil]); first | done | rfl | (simp only [List.length_drop, List.length_take]; rfl)) ?_; (with_reducible refine (slices_Contains_int_int.calls k _ _ l0 a1 t105 _ ?side1 ?side2 A3.out).mono ?_); (case side1 => repeat (first | exact HR0.out | (with_reducible refine Kd.C_alloc ?_ _) | (with_reducible refine Kd.C_drewN ?_ _) | (with_reducible refine Kd.C_drew ?_))); (case side2 => exact HC0.out); rintro e w' ⟨rfl, ⟨nd, rfl⟩⟩; refine ⟨_, rfl, ?_⟩))
  go_ret
  exact ⟨by first | rfl | (simp; done) | (simp [*]; done), by repeat (first | exact Drawn0.refl _ | apply Drawn0.step)⟩

/-! ### slices_Concat_int_int: function 31 -/
set_option maxHeartbeats 1000000 in
/-- slices.Grow of nil. -/
theorem slices_Concat_int_int.grow (n : Int) (h0 : 0 ≤ n) (hn : n * 8 ≤ 140737488355328) (w : World) :
    Calls Try.prog 37 #[.slice none 0 0, .int .i64 n] w fun e w' => ∃ v0_ : Value, e = .returned (v0_) ∧ Kd.R (Kd.int .i64) 3 w' w.heap.size (fun _ => True) v0_ [] ∧ Below w.heap.size w w' := by
  have hneg : decide (n < 0) = false := by simp; omega
  have HN : Aside0 (0 ≤ n ∧ n * 8 ≤ 140737488355328) := ⟨h0, hn⟩
  have HB := Aside0.mk (Below.refl w.heap.size w)
  have HR := Aside0.mk (Kd.R_nil (Kd.int .i64) 3 w w.heap.size (fun _ => True))
  have h9 : n ≤ 140737488355328 := by omega
  clear hn
  by_cases hp : 0 < n
  · have hpb : decide (0 < n) = true := by simp; omega
    go_enter Try.func37, Try.ntmps37
    go_wp2_with (first | ((with_reducible refine gate_builtin (b := .append) (xs := #[.tmp 20, .tmp 21]) rfl ?_); refine Kd.R_append_zeros (Kd.int .i64) (w0 := w) w.heap.size rfl (.tmp 20) (.tmp 21) 22 3 3 (.int .i64 0) 8 rfl Try.underlying22 Try.underlying3 info3 rfl (by decide) (by omega) (.slice none 0 0) [] (0 : Int) n (fun _ => True) rfl rfl rfl (fun _ _ => trivial) HR.out h0 HB.out (Nat.le_refl _) (by have := HN.out.2; simp; omega) ?_; intro v1 w1 ho hb _ _; have HO1 := Aside0.mk ho; have HB1 := Aside0.mk hb; clear ho hb; obtain ⟨A1, c1, rfl⟩ := Kd.R_slice HO1.out))
    go_ret
    exact ⟨_, rfl, by have := Kd.R_take HO1.out (m := 0) (Nat.zero_le _); exact this, HB1.out⟩
  · have hpb : decide (0 < n) = false := by simp; omega
    go_enter Try.func37, Try.ntmps37
    go_wp2
    go_ret
    exact ⟨_, rfl, HR.out, HB.out⟩

def slices_Concat_int_int.total : List (List Int) → Nat
  | [] => 0
  | x :: r => x.length + slices_Concat_int_int.total r
theorem slices_Concat_int_int.total_take (l : List (List Int)) (k : Nat) (h : k < l.length) : slices_Concat_int_int.total (l.take (k + 1)) = slices_Concat_int_int.total (l.take k) + (l.getD k []).length := by
  induction l generalizing k with
  | nil => simp at h
  | cons x r ih =>
    cases k with
    | zero => simp [slices_Concat_int_int.total]
    | succ k => simp only [List.take_succ_cons, slices_Concat_int_int.total, List.getD_cons_succ]; rw [ih k (by simpa using h)]; omega
theorem slices_Concat_int_int.total_le (l : List (List Int)) (k : Nat) : slices_Concat_int_int.total (l.take k) ≤ slices_Concat_int_int.total l := by
  induction l generalizing k with
  | nil => simp [slices_Concat_int_int.total]
  | cons x r ih =>
    cases k with
    | zero => simp [slices_Concat_int_int.total]
    | succ k => have := ih k; simp only [List.take_succ_cons, slices_Concat_int_int.total]; omega
theorem slices_Concat_int_int.flat_take (l : List (List Int)) (k : Nat) (h : k < l.length) : (l.take (k + 1)).flatten = (l.take k).flatten ++ l.getD k [] := by
  rw [List.take_succ_eq_append_getElem h, List.flatten_append, List.getD_eq_getElem?_getD, List.getElem?_eq_getElem h]
  simp
theorem slices_Concat_int_int.flat_len (l : List (List Int)) : l.flatten.length = slices_Concat_int_int.total l := by
  induction l with
  | nil => rfl
  | cons x r ih => simp [slices_Concat_int_int.total, ih]
def slices_Concat_int_int.f (l0 : List (List Int)) : Option (List Int) := if slices_Concat_int_int.total l0 * 8 ≤ 140737488355328 then some l0.flatten else none
set_option maxHeartbeats 1000000 in
theorem slices_Concat_int_int.calls (A0 : Option Addr) (c0 : Nat) (l0 : List (List Int)) (r : List Int) (w : World) (hr0 : Kd.C (Kd.slice 3 (Kd.int .i64)) w A0 l0.length l0) (hc0 : l0.length ≤ c0) (h : slices_Concat_int_int.f l0 = some r) :
    Calls Try.prog 31 #[.slice A0 l0.length c0] w fun e w' => ∃ v0_ : Value, e = .returned (v0_) ∧ Kd.R (Kd.int .i64) 3 w' w.heap.size (fun _ => True) v0_ r ∧ Below w.heap.size w w' := by
  unfold slices_Concat_int_int.f at h
  by_cases g : slices_Concat_int_int.total l0 * 8 ≤ 140737488355328
  case neg => rw [if_neg g] at h; cases h
  rw [if_pos g] at h
  injection h with h
  have HG := Aside0.mk g
  have HH := Aside0.mk h
  have HR := Aside0.mk hr0
  have HL : l0.length ≤ 9223372036854775807 := hr0.2.1
  have HB := Aside0.mk (Below.refl w.heap.size w)
  clear h g hr0
  go_enter Try.func31, Try.ntmps31
  go_wp2
  go_loop [3, 11] (fun s i => ∃ k : Nat, k ≤ l0.length ∧ i = .int .i64 k ∧ s = .int .i64 (slices_Concat_int_int.total (l0.take k) : Nat)) (fun _ i => l0.length - (intOf i).toNat)
  case atStart => exact ⟨0, Nat.zero_le _, rfl, rfl⟩
  case round =>
    obtain ⟨k, hk, rfl, rfl⟩ := hrel
    by_cases hlt : k < l0.length
    · have hb : decide ((k : Int) < (l0.length : Int)) = true := by simp; omega
      obtain ⟨ad, cc, e, _, ⟨A1, c1, rfl, h2, h3⟩, hc0⟩ := Kd.C_get HR.out ([] : List Int) (k : Int) (by omega) (by omega)
      cases e
      have hx := hc0 0 _ rfl
      have hsz : (Kd.slice 3 (Kd.int .i64)).sz = 1 := rfl
      rw [hsz, Nat.mul_one, Nat.add_zero, Int.toNat_natCast] at hx
      have HT := Aside0.mk (slices_Concat_int_int.total_take l0 k hlt)
      have ht1 := slices_Concat_int_int.total_le l0 (k + 1)
      rw [HT.out] at ht1
      have hg := HG.out
      clear h2 h3 hc0 hsz
      generalize (l0.getD k []).length = n at HT ht1 hx
      generalize slices_Concat_int_int.total (l0.take k) = tk at HT ht1 ⊢
      have hsm : tk + n ≤ 140737488355328 := by omega
      clear ht1 hg
      have hge : decide (((tk + n : Nat) : Int) < 0) = false := by simp; omega
      go_wp2
      go_round
      case rel => exact ⟨k + 1, by omega, by go_num, by rw [HT.out]; go_num⟩
      case measure => simp [intOf]; omega
    · have hb : decide ((k : Int) < (l0.length : Int)) = false := by simp; omega
      have hkl : l0.take k = l0 := List.take_of_length_le (by omega)
      rw [hkl]
      have hg := HG.out
      have HGr : Aside0 ((0 : Int) ≤ (slices_Concat_int_int.total l0 : Nat) ∧ ((slices_Concat_int_int.total l0 : Nat) : Int) * 8 ≤ 140737488355328) := ⟨by omega⟩
      clear hkl hg
      go_wp2_with (go_at_call 37; refine (slices_Concat_int_int.grow _ HGr.out.1 HGr.out.2 _).mono ?_; rintro e w1 ⟨v0, rfl, ho, hb1⟩; have HO := Aside0.mk ho; have HB1 := Aside0.mk hb1; clear ho hb1)
      go_loopw [6, 27] (fun v i wr => ∃ j : Nat, j ≤ l0.length ∧ i = .int .i64 j ∧ Aside0 (Kd.R (Kd.int .i64) 3 wr w.heap.size (fun _ => True) v (l0.take j).flatten) ∧ Aside0 (Below w.heap.size w wr)) (fun _ i _ => l0.length - (intOf i).toNat)
      case atStart => exact ⟨0, Nat.zero_le _, rfl, HO, HB1⟩
      case round =>
        obtain ⟨j, hj, rfl, HV, HW⟩ := hrel
        by_cases hlj : j < l0.length
        · have hbj : decide ((j : Int) < (l0.length : Int)) = true := by simp; omega
          obtain ⟨ad, cc, e, _, ⟨A1, c1, rfl, h2, h3⟩, hc0⟩ := Kd.C_get (Kd.C_below HR.out HW.out) ([] : List Int) (j : Int) (by omega) (by omega)
          cases e
          have hx := hc0 0 _ rfl
          have hsz : (Kd.slice 3 (Kd.int .i64)).sz = 1 := rfl
          rw [hsz, Nat.mul_one, Nat.add_zero, Int.toNat_natCast] at hx
          rw [Int.toNat_natCast] at h3
          have H3 := Aside0.mk h3
          have HF := Aside0.mk (slices_Concat_int_int.flat_take l0 j hlj)
          have HT : Aside0 (((l0.take j).flatten.length + (l0.getD j []).length) * 8 ≤ 140737488355328) := ⟨by have h1 := slices_Concat_int_int.total_le l0 (j + 1); have h2 := slices_Concat_int_int.total_take l0 j hlj; have h3 := HG.out; rw [slices_Concat_int_int.flat_len]; omega⟩
          clear h2 h3 hc0 hsz
          generalize l0.getD j [] = ys at HF HT H3 hx
          go_wp2_with (first | ((with_reducible refine gate_builtin (b := .append) (xs := #[.tmp 31, .tmp 32]) rfl ?_); at_builtin; refine Kd.R_append_rows (Kd.int .i64) (w0 := w) w.heap.size rfl (.tmp 31) (.tmp 32) 22 3 (.int .i64 0) 8 rfl Try.underlying22 info3 rfl (by decide) (by omega) u6 (l0.take j).flatten ys _ _ _ (fun _ => True) (fun _ => False) rfl rfl HV.out H3.out (fun _ _ h => h) (fun _ h => h.elim) (fun _ _ => trivial) HW.out (below_size HW.out) HT.out ?_; intro v113 w8 ho hb _ _; have HO6 := Aside0.mk ho; have HB2 := Aside0.mk hb; clear ho hb))
          go_roundw
          case rel => exact ⟨j + 1, by omega, by go_num, ⟨by rw [HF.out]; exact HO6.out⟩, HB2⟩
          case measure => simp [intOf]; omega
        · have hbj : decide ((j : Int) < (l0.length : Int)) = false := by simp; omega
          have hkl : l0.take j = l0 := List.take_of_length_le (by omega)
          have HV2 : Aside0 (Kd.R (Kd.int .i64) 3 wr w.heap.size (fun _ => True) u6 r) := ⟨by rw [← HH.out]; have := HV.out; rw [hkl] at this; exact this⟩
          clear hkl
          go_wp2
          go_ret
          exact ⟨_, rfl, HV2.out, HW.out⟩

end Go.Proofs.Ytjdijlijojembaa.PA
