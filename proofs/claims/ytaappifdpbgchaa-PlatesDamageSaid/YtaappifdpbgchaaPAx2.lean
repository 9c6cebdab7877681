-- Written by wip/pp.py of this repository, on the kit's print program. Not trusted: Lean checks it.
import Derived.Test.YtaappifdpbgchaaPAx0
import Derived.Test.YtaappifdpbgchaaPAx1
namespace Go.Proofs.Ytaappifdpbgchaa.PA
open Go.RowKit Go.Proofs.YtaappifdpbgchaaW.PrintWords Go.Proofs.YtaappifdpbgchaaW.PrintLast Go.Proofs.YtaappifdpbgchaaW.PrintMore
attribute [local go_sem] max2_int min2_int max_two min_two max_three min_three max_four min_four   -- for this text's walks alone
set_option linter.unusedVariables false
set_option linter.unusedSimpArgs false

/-! ### slices_Concat_byte_byte: function 43 -/
set_option maxHeartbeats 1000000 in
/-- slices.Grow of nil. -/
theorem slices_Concat_byte_byte.grow (n : Int) (h0 : 0 ≤ n) (hn : n * 1 ≤ 140737488355328) (w : World) :
    Calls Try.prog 48 #[.slice none 0 0, .int .i64 n] w fun e w' => ∃ v0_ : Value, e = .returned (v0_) ∧ Kd.R (Kd.int .u8) 5 w' w.heap.size (fun _ => True) v0_ [] ∧ Below w.heap.size w w' := by
  have hneg : decide (n < 0) = false := by simp; omega
  have HN : Aside0 (0 ≤ n ∧ n * 1 ≤ 140737488355328) := ⟨h0, hn⟩
  have HB := Aside0.mk (Below.refl w.heap.size w)
  have HR := Aside0.mk (Kd.R_nil (Kd.int .u8) 5 w w.heap.size (fun _ => True))
  have h9 : n ≤ 140737488355328 := by omega
  clear hn
  by_cases hp : 0 < n
  · have hpb : decide (0 < n) = true := by simp; omega
    go_enter Try.func48, Try.ntmps48
    go_wp2_with (first | ((with_reducible refine gate_builtin (b := .append) (xs := #[.tmp 20, .tmp 21]) rfl ?_); refine Kd.R_append_zeros (Kd.int .u8) (w0 := w) w.heap.size rfl (.tmp 20) (.tmp 21) 30 3 5 (.int .u8 0) 1 rfl Try.underlying30 Try.underlying3 info5 rfl (by decide) (by omega) (.slice none 0 0) [] (0 : Int) n (fun _ => True) rfl rfl rfl (fun _ _ => trivial) HR.out h0 HB.out (Nat.le_refl _) (by have := HN.out.2; simp; omega) ?_; intro v1 w1 ho hb _ _; have HO1 := Aside0.mk ho; have HB1 := Aside0.mk hb; clear ho hb; obtain ⟨A1, c1, rfl⟩ := Kd.R_slice HO1.out))
    go_ret
    exact ⟨_, rfl, by have := Kd.R_take HO1.out (m := 0) (Nat.zero_le _); exact this, HB1.out⟩
  · have hpb : decide (0 < n) = false := by simp; omega
    go_enter Try.func48, Try.ntmps48
    go_wp2
    go_ret
    exact ⟨_, rfl, HR.out, HB.out⟩

def slices_Concat_byte_byte.total : List (List Int) → Nat
  | [] => 0
  | x :: r => x.length + slices_Concat_byte_byte.total r
theorem slices_Concat_byte_byte.total_take (l : List (List Int)) (k : Nat) (h : k < l.length) : slices_Concat_byte_byte.total (l.take (k + 1)) = slices_Concat_byte_byte.total (l.take k) + (l.getD k []).length := by
  induction l generalizing k with
  | nil => simp at h
  | cons x r ih =>
    cases k with
    | zero => simp [slices_Concat_byte_byte.total]
    | succ k => simp only [List.take_succ_cons, slices_Concat_byte_byte.total, List.getD_cons_succ]; rw [ih k (by simpa using h)]; omega
theorem slices_Concat_byte_byte.total_le (l : List (List Int)) (k : Nat) : slices_Concat_byte_byte.total (l.take k) ≤ slices_Concat_byte_byte.total l := by
  induction l generalizing k with
  | nil => simp [slices_Concat_byte_byte.total]
  | cons x r ih =>
    cases k with
    | zero => simp [slices_Concat_byte_byte.total]
    | succ k => have := ih k; simp only [List.take_succ_cons, slices_Concat_byte_byte.total]; omega
theorem slices_Concat_byte_byte.flat_take (l : List (List Int)) (k : Nat) (h : k < l.length) : (l.take (k + 1)).flatten = (l.take k).flatten ++ l.getD k [] := by
  rw [List.take_succ_eq_append_getElem h, List.flatten_append, List.getD_eq_getElem?_getD, List.getElem?_eq_getElem h]
  simp
theorem slices_Concat_byte_byte.flat_len (l : List (List Int)) : l.flatten.length = slices_Concat_byte_byte.total l := by
  induction l with
  | nil => rfl
  | cons x r ih => simp [slices_Concat_byte_byte.total, ih]
def slices_Concat_byte_byte.f (l0 : List (List Int)) : Option (List Int) := if slices_Concat_byte_byte.total l0 * 1 ≤ 140737488355328 then some l0.flatten else none
set_option maxHeartbeats 1000000 in
theorem slices_Concat_byte_byte.calls (A0 : Option Addr) (c0 : Nat) (l0 : List (List Int)) (r : List Int) (w : World) (hr0 : Kd.C (Kd.slice 5 (Kd.int .u8)) w A0 l0.length l0) (hc0 : l0.length ≤ c0) (h : slices_Concat_byte_byte.f l0 = some r) :
    Calls Try.prog 43 #[.slice A0 l0.length c0] w fun e w' => ∃ v0_ : Value, e = .returned (v0_) ∧ Kd.R (Kd.int .u8) 5 w' w.heap.size (fun _ => True) v0_ r ∧ Below w.heap.size w w' := by
  unfold slices_Concat_byte_byte.f at h
  by_cases g : slices_Concat_byte_byte.total l0 * 1 ≤ 140737488355328
  case neg => rw [if_neg g] at h; cases h
  rw [if_pos g] at h
  injection h with h
  have HG := Aside0.mk g
  have HH := Aside0.mk h
  have HR := Aside0.mk hr0
  have HL : l0.length ≤ 9223372036854775807 := hr0.2.1
  have HB := Aside0.mk (Below.refl w.heap.size w)
  clear h g hr0
  go_enter Try.func43, Try.ntmps43
  go_wp2
  go_loop [3, 11] (fun s i => ∃ k : Nat, k ≤ l0.length ∧ i = .int .i64 k ∧ s = .int .i64 (slices_Concat_byte_byte.total (l0.take k) : Nat)) (fun _ i => l0.length - (intOf i).toNat)
  case atStart => exact ⟨0, Nat.zero_le _, rfl, rfl⟩
  case round =>
    obtain ⟨k, hk, rfl, rfl⟩ := hrel
    by_cases hlt : k < l0.length
    · have hb : decide ((k : Int) < (l0.length : Int)) = true := by simp; omega
      obtain ⟨ad, cc, e, _, ⟨A1, c1, rfl, h2, h3⟩, hc0⟩ := Kd.C_get HR.out ([] : List Int) (k : Int) (by omega) (by omega)
      cases e
      have hx := hc0 0 _ rfl
      have hsz : (Kd.slice 5 (Kd.int .u8)).sz = 1 := rfl
      rw [hsz, Nat.mul_one, Nat.add_zero, Int.toNat_natCast] at hx
      have HT := Aside0.mk (slices_Concat_byte_byte.total_take l0 k hlt)
      have ht1 := slices_Concat_byte_byte.total_le l0 (k + 1)
      rw [HT.out] at ht1
      have hg := HG.out
      clear h2 h3 hc0 hsz
      generalize (l0.getD k []).length = n at HT ht1 hx
      generalize slices_Concat_byte_byte.total (l0.take k) = tk at HT ht1 ⊢
      have hsm : tk + n ≤ 140737488355328 := by omega
      clear ht1 hg
      have hge : decide (((tk + n : Nat) : Int) < 0) = false := by simp; omega
      go_wp2
      go_round
      case rel => exact ⟨k + 1, by omega, by go_num, by rw [HT.out]; go_num⟩
      case measure => simp [intOf]; omega
    · have hb : decide ((k : Int) < (l0.length : Int)) = false := by simp; omega
      have hkl : l0.take k = l0 := List.take_of_length_le (by omega)
      rw [hkl]
      have hg := HG.out
      have HGr : Aside0 ((0 : Int) ≤ (slices_Concat_byte_byte.total l0 : Nat) ∧ ((slices_Concat_byte_byte.total l0 : Nat) : Int) * 1 ≤ 140737488355328) := ⟨by omega⟩
      clear hkl hg
      go_wp2_with (go_at_call 48; refine (slices_Concat_byte_byte.grow _ HGr.out.1 HGr.out.2 _).mono ?_; rintro e w1 ⟨v0, rfl, ho, hb1⟩; have HO := Aside0.mk ho; have HB1 := Aside0.mk hb1; clear ho hb1)
      go_loopw [6, 27] (fun v i wr => ∃ j : Nat, j ≤ l0.length ∧ i = .int .i64 j ∧ Aside0 (Kd.R (Kd.int .u8) 5 wr w.heap.size (fun _ => True) v (l0.take j).flatten) ∧ Aside0 (Below w.heap.size w wr)) (fun _ i _ => l0.length - (intOf i).toNat)
      case atStart => exact ⟨0, Nat.zero_le _, rfl, HO, HB1⟩
      case round =>
        obtain ⟨j, hj, rfl, HV, HW⟩ := hrel
        by_cases hlj : j < l0.length
        · have hbj : decide ((j : Int) < (l0.length : Int)) = true := by simp; omega
          obtain ⟨ad, cc, e, _, ⟨A1, c1, rfl, h2, h3⟩, hc0⟩ := Kd.C_get (Kd.C_below HR.out HW.out) ([] : List Int) (j : Int) (by omega) (by omega)
          cases e
          have hx := hc0 0 _ rfl
          have hsz : (Kd.slice 5 (Kd.int .u8)).sz = 1 := rfl
          rw [hsz, Nat.mul_one, Nat.add_zero, Int.toNat_natCast] at hx
          rw [Int.toNat_natCast] at h3
          have H3 := Aside0.mk h3
          have HF := Aside0.mk (slices_Concat_byte_byte.flat_take l0 j hlj)
          have HT : Aside0 (((l0.take j).flatten.length + (l0.getD j []).length) * 1 ≤ 140737488355328) := ⟨by have h1 := slices_Concat_byte_byte.total_le l0 (j + 1); have h2 := slices_Concat_byte_byte.total_take l0 j hlj; have h3 := HG.out; rw [slices_Concat_byte_byte.flat_len]; omega⟩
          clear h2 h3 hc0 hsz
          generalize l0.getD j [] = ys at HF HT H3 hx
          go_wp2_with (first | ((with_reducible refine gate_builtin (b := .append) (xs := #[.tmp 31, .tmp 32]) rfl ?_); at_builtin; refine Kd.R_append_rows (Kd.int .u8) (w0 := w) w.heap.size rfl (.tmp 31) (.tmp 32) 30 5 (.int .u8 0) 1 rfl Try.underlying30 info5 rfl (by decide) (by omega) u6 (l0.take j).flatten ys _ _ _ (fun _ => True) (fun _ => False) rfl rfl HV.out H3.out (fun _ _ h => h) (fun _ h => h.elim) (fun _ _ => trivial) HW.out (below_size HW.out) HT.out ?_; intro v113 w8 ho hb _ _; have HO6 := Aside0.mk ho; have HB2 := Aside0.mk hb; clear ho hb))
          go_roundw
          case rel => exact ⟨j + 1, by omega, by go_num, ⟨by rw [HF.out]; exact HO6.out⟩, HB2⟩
          case measure => simp [intOf]; omega
        · have hbj : decide ((j : Int) < (l0.length : Int)) = false := by simp; omega
          have hkl : l0.take j = l0 := List.take_of_length_le (by omega)
          have HV2 : Aside0 (Kd.R (Kd.int .u8) 5 wr w.heap.size (fun _ => True) u6 r) := ⟨by rw [← HH.out]; have := HV.out; rw [hkl] at this; exact this⟩
          clear hkl
          go_wp2
          go_ret
          exact ⟨_, rfl, HV2.out, HW.out⟩

/-! ### digest_Seal: function 31 -/
def tailL (c : Int) : List Int := [c / 16777216 % 256, c / 65536 % 256, c / 256 % 256, c % 256]
def tailA (c : Int) : Array Value := #[.int .u8 (c / 16777216 % 256), .int .u8 (c / 65536 % 256), .int .u8 (c / 256 % 256), .int .u8 (c % 256)]
theorem tail_calls (c : Int) (w : World) : Calls Try.prog 41 #[.int .u32 c] w fun e w' => e = .returned (.agg #[.int .u8 (c / 16777216 % 256), .int .u8 (c / 65536 % 256), .int .u8 (c / 256 % 256), .int .u8 (c % 256)]) ∧ Below w.heap.size w w' := by
  have HB : Below w.heap.size w (w.alloc (.cells (tailA c) 59)) := (Below.refl _ _).alloc (Nat.le_refl _) _
  go_enter Try.func41, Try.ntmps41
  go_wp2
  exact bodyPost_ret (v := .agg (tailA c)) (results_cell_row (fn := Try.f41) (p := 2) (ty := 59) rfl _ _ w.heap.size 59 (tailA c) (0, 0) _ rfl (heap_alloc_new w (.cells (tailA c) 59)) Try.underlying59 rfl (by kernel_rfl)) rfl ⟨rfl, HB⟩
theorem tail_reads (c : Int) (w : World) (t : TypeId) : Kd.C (Kd.int .u8) (w.alloc (.cells (tailA c) t)) (some ⟨w.heap.size, 0, none⟩) 4 (tailL c) := by
  refine ⟨rfl, by decide, fun _ => ⟨_, rfl, fun j p hp => ⟨[.int .u8 p], rfl, rfl, fun i u hu => ?_⟩⟩⟩
  have hj : j < 4 := by
    have := (List.getElem?_eq_some_iff.1 hp).1
    simpa [tailL] using this
  cases i with
  | succ i => simp at hu
  | zero =>
    simp at hu
    subst hu
    have hadd : (⟨w.heap.size, 0, none⟩ : Addr).add (j * 1 + 0) = ⟨w.heap.size, j, none⟩ := by rw [Addr.add_lit]; simp
    show (w.alloc (.cells (tailA c) t)).cell? ((⟨w.heap.size, 0, none⟩ : Addr).add (j * 1 + 0)) = _
    rw [hadd, World.cell?_alloc_new]
    have : j = 0 ∨ j = 1 ∨ j = 2 ∨ j = 3 := by omega
    rcases this with rfl | rfl | rfl | rfl <;> (simp [tailL] at hp; subst hp; rfl)
/-- Two rows, side by side in a block. -/
theorem two_rows {w : World} {d : Kd Int} {e : Nat} {A1 A2 : Option Addr} {c1 c2 : Nat} {x1 x2 : List Int} (t : TypeId) (h1 : Kd.C d w A1 x1.length x1) (l1 : x1.length ≤ c1) (h2 : Kd.C d w A2 x2.length x2) (l2 : x2.length ≤ c2) :
    Kd.C (Kd.slice e d) (w.alloc (.cells #[.slice A1 x1.length c1, .slice A2 x2.length c2] t)) (some ⟨w.heap.size, 0, none⟩) 2 [x1, x2] := by
  have hb : Below w.heap.size w (w.alloc (.cells #[.slice A1 x1.length c1, .slice A2 x2.length c2] t)) := (Below.refl _ _).alloc (Nat.le_refl _) _
  refine ⟨rfl, by decide, fun _ => ⟨_, rfl, fun j p hp => ?_⟩⟩
  have hj : j < 2 := (List.getElem?_eq_some_iff.1 hp).1
  have : j = 0 ∨ j = 1 := by omega
  rcases this with rfl | rfl
  · simp at hp
    subst hp
    refine ⟨[.slice A1 x1.length c1], rfl, ⟨A1, c1, rfl, l1, Kd.C_below h1 hb⟩, fun i u hu => ?_⟩
    cases i with
    | succ i => simp at hu
    | zero =>
      simp at hu
      subst hu
      rw [show (⟨w.heap.size, 0, none⟩ : Addr).add (0 * (Kd.slice e d).sz + 0) = ⟨w.heap.size, 0, none⟩ by rw [Addr.add_lit]; simp, World.cell?_alloc_new]
      rfl
  · simp at hp
    subst hp
    refine ⟨[.slice A2 x2.length c2], rfl, ⟨A2, c2, rfl, l2, Kd.C_below h2 hb⟩, fun i u hu => ?_⟩
    cases i with
    | succ i => simp at hu
    | zero =>
      simp at hu
      subst hu
      have hsz : (Kd.slice e d).sz = 1 := rfl
      rw [hsz, show (⟨w.heap.size, 0, none⟩ : Addr).add (1 * 1 + 0) = ⟨w.heap.size, 1, none⟩ by rw [Addr.add_lit], World.cell?_alloc_new]
      rfl
def digest_Seal.f (l0 : List Int) : Option (List Int) := (digest_sum.f l0).bind fun c => if l0.length + 4 ≤ 140737488355328 then some (l0 ++ tailL c) else none
set_option maxHeartbeats 1000000 in
theorem digest_Seal.calls (A0 : Option Addr) (c0 : Nat) (l0 : List Int) (r : List Int) (w : World) (hr0 : Kd.C (Kd.int .u8) w A0 l0.length l0) (hc0 : l0.length ≤ c0) (h : digest_Seal.f l0 = some r) :
    Calls Try.prog 31 #[.slice A0 l0.length c0] w fun e w' => ∃ v0_ : Value, e = .returned (v0_) ∧ Kd.R (Kd.int .u8) 5 w' w.heap.size (fun _ => True) v0_ r ∧ Below w.heap.size w w' := by
  unfold digest_Seal.f at h
  obtain ⟨c, hc, h⟩ := Option.bind_eq_some_iff.1 h
  by_cases g : l0.length + 4 ≤ 140737488355328
  case neg => rw [if_neg g] at h; cases h
  rw [if_pos g] at h
  injection h with h
  have HG := Aside0.mk g
  have HH := Aside0.mk h
  have HR := Aside0.mk hr0
  have HC := Aside0.mk hc
  have HK := Aside0.mk hc0
  have HF : Aside0 (slices_Concat_byte_byte.f [l0, tailL c] = some r) := ⟨by
    unfold slices_Concat_byte_byte.f
    rw [if_pos (by simp [slices_Concat_byte_byte.total, tailL]; omega), ← h]
    simp⟩
  clear h g hr0 hc hc0
  go_enter Try.func31, Try.ntmps31
  go_wp2_with (first | (go_at_call 42; refine (digest_sum.calls _ _ l0 c _ HR.out HK.out HC.out).mono ?_; rintro e w1 ⟨rfl, hb1⟩; have HB1 := Aside0.mk hb1; clear hb1) | (go_at_call 41; refine (tail_calls c _).mono ?_; rintro e w2 ⟨rfl, hb2⟩; have HB2 := Aside0.mk hb2; clear hb2))
  have HB3 : Aside0 (Below w.heap.size w w2) := ⟨below_step HB1.out HB2.out⟩
  have H2 : Aside0 (Kd.C (Kd.slice 5 (Kd.int .u8)) ((w2.alloc (.cells (tailA c) 59)).alloc (.cells #[.slice A0 l0.length c0, .slice (some ⟨w2.heap.size, 0, none⟩) 4 4] 30)) (some ⟨w2.heap.size + 1, 0, none⟩) 2 [l0, tailL c]) := ⟨by
    have hs : (w2.alloc (.cells (tailA c) 59)).heap.size = w2.heap.size + 1 := by simp
    have := two_rows (w := w2.alloc (.cells (tailA c) 59)) (e := 5) 30 (Kd.C_below HR.out (HB3.out.alloc (below_size HB3.out) _)) HK.out (tail_reads c w2 59) (Nat.le_refl 4)
    rw [hs] at this
    exact this⟩
  have HB4 : Aside0 (Below w.heap.size w ((w2.alloc (.cells (tailA c) 59)).alloc (.cells #[.slice A0 l0.length c0, .slice (some ⟨w2.heap.size, 0, none⟩) 4 4] 30))) := ⟨(HB3.out.alloc (below_size HB3.out) _).alloc (by have := below_size HB3.out; simp; omega) _⟩
  refine (slices_Concat_byte_byte.calls (some ⟨w2.heap.size + 1, 0, none⟩) 2 [l0, tailL c] r _ H2.out (Nat.le_refl 2) HF.out).mono ?_
  rintro e w5 ⟨v0, rfl, ho, hb⟩
  have HO := Aside0.mk (Kd.R_lower ho (below_size HB4.out))
  have HB5 := Aside0.mk (below_step HB4.out hb)
  clear ho hb
  go_wp2
  go_ret
  exact ⟨_, rfl, HO.out, HB5.out⟩

end Go.Proofs.Ytaappifdpbgchaa.PA
