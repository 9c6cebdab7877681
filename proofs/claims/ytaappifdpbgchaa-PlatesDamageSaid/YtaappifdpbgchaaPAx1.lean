-- Written by wip/pp.py of this repository, on the kit's print program. Not trusted: Lean checks it.
import Derived.Test.YtaappifdpbgchaaPAx0
namespace Go.Proofs.Ytaappifdpbgchaa.PA
open Go.RowKit Go.Proofs.YtaappifdpbgchaaW.PrintWords Go.Proofs.YtaappifdpbgchaaW.PrintLast Go.Proofs.YtaappifdpbgchaaW.PrintMore
attribute [local go_sem] max2_int min2_int max_two min_two max_three min_three max_four min_four   -- for this text's walks alone
set_option linter.unusedVariables false
set_option linter.unusedSimpArgs false

/-! ### mapsheetslaw54_fair: function 9 -/
def mapsheetslaw54_fair.f (a0_0 : Int) (a0_1 : Int) (l0_2 : List Int) : Option (Bool) := some (decide ((l0_2.length : Int) ≤ 5000))
set_option maxHeartbeats 8000000 in
set_option maxRecDepth 100000 in
theorem mapsheetslaw54_fair.calls (a0_0 : Int) (a0_1 : Int) (A0_2 : Option Addr) (c0_2 : Nat) (l0_2 : List Int) (r : Bool) (w : World) (hr0_2 : Kd.C (Kd.int .i64) w A0_2 l0_2.length l0_2) (hc0_2 : l0_2.length ≤ c0_2) (h : mapsheetslaw54_fair.f a0_0 a0_1 l0_2 = some r) :
    Calls Try.prog 9 #[.agg #[.int .i64 a0_0, .int .i64 a0_1, .slice A0_2 l0_2.length c0_2]] w fun e w' => e = .returned (.bool r) ∧ Below w.heap.size w w' := by
  have hu24 := Try.underlying24
  have HR0_2 := Aside0.mk hr0_2
  have HC0_2 := Aside0.mk hc0_2
  clear hr0_2 hc0_2
  have HB := Aside0.mk (Below.refl w.heap.size w)
  have H : (some (decide ((l0_2.length : Int) ≤ 5000))) = some r := h
  clear h
  obtain rfl := Option.some.inj H
  go_enter Try.func9, Try.ntmps9
  go_wp2_with (first | ((with_reducible refine gate_dst (N := 1) rfl ?_); refine box_event ?hg (N := 1) ?hd (cs := #[.int .i64 a0_0, .int .i64 a0_1, .slice A0_2 l0_2.length c0_2]) (t := 24) ?hr ?_; (case hd => rfl); (case hg => rfl); (case hr => first | (go_simp; done) | (go_simp; rfl)); intro gb101 hg w2 hbox hb; have n0_ := Aside0.mk (below_step (by repeat (first | (with_reducible first | exact HB.out | apply below_alloc | apply pw_below_drewN | apply below_drew1) | exact HB.out)) hb); have n1_ := Aside0.mk (hbox); have n2_ := Aside0.mk ((by rw [hg]; exact (below_size (by repeat (first | (with_reducible first | exact HB.out | apply below_alloc | apply pw_below_drewN | apply below_drew1) | exact HB.out))) : w.heap.size ≤ gb101)); have n3_ := Aside0.mk ((by rw [hg]; exact (below_size (by repeat (first | (with_reducible first | exact HB.out | apply below_alloc | apply pw_below_drewN | apply below_drew1) | exact HB.out))) : w.heap.size ≤ gb101)); clear HB; have HB := n0_; have BK101 := n1_; have GW101 := n2_; have GE101 := n3_; clear n0_ n1_ n2_ n3_; clear hb hbox hg; have hcz3_0 : w2.cell? ⟨gb101, 0, none⟩ = some (.int .i64 a0_0) := (blk_cell BK101.out 0).trans rfl; have hcz3_1 : w2.cell? ⟨gb101, 1, none⟩ = some (.int .i64 a0_1) := (blk_cell BK101.out 1).trans rfl; have hcz3_2 : w2.cell? ⟨gb101, 2, none⟩ = some (.slice A0_2 l0_2.length c0_2) := (blk_cell BK101.out 2).trans rfl; have hfz3_0 := blk_frozen BK101.out 0; have hfz3_1 := blk_frozen BK101.out 1; have hfz3_2 := blk_frozen BK101.out 2))
  go_ret
  exact ⟨by first | rfl | (simp [errW_none, errW_some] <;> rfl) | (simp [*, errW_none, errW_some] <;> rfl), by repeat (first | (with_reducible first | exact HB.out | apply below_alloc | apply pw_below_drewN | apply below_drew1 | refine below_set ?_ GE101.out) | exact HB.out)⟩

/-! ### plates_sized: function 27 -/
def plates_sized.f (a0 : Int) (a1 : Int) : Option (Bool) := if a0 ≥ 1 then (if a0 ≤ 256 then (if a1 ≥ 1 then (some (decide (a1 ≤ 256))) else (some false)) else (some false)) else (some false)
set_option maxHeartbeats 8000000 in
set_option maxRecDepth 100000 in
theorem plates_sized.calls (a0 : Int) (a1 : Int) (r : Bool) (w : World) (h : plates_sized.f a0 a1 = some r) :
    Calls Try.prog 27 #[.int .i64 a0, .int .i64 a1] w fun e w' => e = .returned (.bool r) ∧ Drawn0 w w' := by
  have H : (if a0 ≥ 1 then (if a0 ≤ 256 then (if a1 ≥ 1 then (some (decide (a1 ≤ 256))) else (some false)) else (some false)) else (some false)) = some r := h
  clear h
  by_cases c3 : a0 ≥ 1
  · rw [if_pos c3] at H
    have c3b0 : decide (1 ≤ a0) = true := decide_eq_true c3
    clear c3
    by_cases c4 : a0 ≤ 256
    · rw [if_pos c4] at H
      have c4b0 : decide (a0 ≤ 256) = true := decide_eq_true c4
      clear c4
      by_cases c5 : a1 ≥ 1
      · rw [if_pos c5] at H
        have c5b0 : decide (1 ≤ a1) = true := decide_eq_true c5
        clear c5
        obtain rfl := Option.some.inj H
        go_enter Try.func27, Try.ntmps27
        go_wp2
        go_ret
        exact ⟨by first | rfl | (simp; done) | (simp [*]; done), by repeat (first | exact Drawn0.refl _ | apply Drawn0.step)⟩
      · rw [if_neg c5] at H
        have c5b0 : decide (1 ≤ a1) = false := decide_eq_false c5
        clear c5
        obtain rfl := Option.some.inj H
        go_enter Try.func27, Try.ntmps27
        go_wp2
        go_ret
        exact ⟨by first | rfl | (simp; done) | (simp [*]; done), by repeat (first | exact Drawn0.refl _ | apply Drawn0.step)⟩
    · rw [if_neg c4] at H
      have c4b0 : decide (a0 ≤ 256) = false := decide_eq_false c4
      clear c4
      obtain rfl := Option.some.inj H
      go_enter Try.func27, Try.ntmps27
      go_wp2
      go_ret
      exact ⟨by first | rfl | (simp; done) | (simp [*]; done), by repeat (first | exact Drawn0.refl _ | apply Drawn0.step)⟩
  · rw [if_neg c3] at H
    have c3b0 : decide (1 ≤ a0) = false := decide_eq_false c3
    clear c3
    obtain rfl := Option.some.inj H
    go_enter Try.func27, Try.ntmps27
    go_wp2
    go_ret
    exact ⟨by first | rfl | (simp; done) | (simp [*]; done), by repeat (first | exact Drawn0.refl _ | apply Drawn0.step)⟩

/-! ### plates_ink: function 28 -/
def plates_ink.f (a0 : Int) : Option (Bool) := if a0 ≥ 0 then (some (decide (a0 ≤ 100))) else (some false)
set_option maxHeartbeats 8000000 in
set_option maxRecDepth 100000 in
theorem plates_ink.calls (a0 : Int) (r : Bool) (w : World) (h : plates_ink.f a0 = some r) :
    Calls Try.prog 28 #[.int .i64 a0] w fun e w' => e = .returned (.bool r) ∧ Drawn0 w w' := by
  have H : (if a0 ≥ 0 then (some (decide (a0 ≤ 100))) else (some false)) = some r := h
  clear h
  by_cases c2 : a0 ≥ 0
  · rw [if_pos c2] at H
    have c2b0 : decide (0 ≤ a0) = true := decide_eq_true c2
    clear c2
    obtain rfl := Option.some.inj H
    go_enter Try.func28, Try.ntmps28
    go_wp2
    go_ret
    exact ⟨by first | rfl | (simp; done) | (simp [*]; done), by repeat (first | exact Drawn0.refl _ | apply Drawn0.step)⟩
  · rw [if_neg c2] at H
    have c2b0 : decide (0 ≤ a0) = false := decide_eq_false c2
    clear c2
    obtain rfl := Option.some.inj H
    go_enter Try.func28, Try.ntmps28
    go_wp2
    go_ret
    exact ⟨by first | rfl | (simp; done) | (simp [*]; done), by repeat (first | exact Drawn0.refl _ | apply Drawn0.step)⟩

/-! ### plates_Check: function 11 -/
def plates_Check.l0 : Nat → List Int → Int → Int → Option (Int)
  | 0, _, _, _ => none
  | k + 1, x21, x22, x23 => if x23 < x22 then (if 0 ≤ x23 then (if x23 < (x21.length : Int) then ((plates_ink.f (rd x21 x23)).bind fun t105 => (if t105 = true then (plates_Check.l0 k x21 x22 (wrap64 (x23 + 1))) else (some 2))) else (none)) else (none)) else (some 0)
def plates_Check.f (k : Nat) (a0_0 : Int) (a0_1 : Int) (l0_2 : List Int) : Option (Int) := (plates_sized.f a0_0 a0_1).bind fun t103 => (if t103 = true then (if (l0_2.length : Int) = (wrap64 (a0_0 * a0_1)) then (plates_Check.l0 k l0_2 (l0_2.length : Int) 0) else (some 1)) else (some 2))
theorem plates_Check.mono_l : ∀ k, (∀ y0 y1 y2, LeO (plates_Check.l0 k y0 y1 y2) (plates_Check.l0 (k + 1) y0 y1 y2))
  | 0 => fun _ _ _ r h => by simp [plates_Check.l0] at h
  | k + 1 => by
    have ih0 := plates_Check.mono_l k
    · intro y0 y1 y2
      unfold plates_Check.l0
      repeat' first
      | (with_reducible exact ih0 _ _ _)
      | (with_reducible exact LeO.refl _)
      | (with_reducible exact LeO.none _)
      | (with_reducible refine LeO.ite ?_ ?_)
      | (with_reducible refine LeO.bind ?_ (fun _ => ?_))
      | exact ih0 _ _ _
      | exact LeO.none _
      | refine LeO.ite ?_ ?_
      | refine LeO.bind ?_ (fun _ => ?_)
theorem plates_Check.mono : ∀ a0 a1 a2 k, LeO (plates_Check.f k a0 a1 a2) (plates_Check.f (k + 1) a0 a1 a2) := by
  intro a0 a1 a2 k
  have ih0 := plates_Check.mono_l k
  unfold plates_Check.f
  repeat' first
      | (with_reducible exact ih0 _ _ _)
      | (with_reducible exact LeO.refl _)
      | (with_reducible exact LeO.none _)
      | (with_reducible refine LeO.ite ?_ ?_)
      | (with_reducible refine LeO.bind ?_ (fun _ => ?_))
      | exact ih0 _ _ _
      | exact LeO.none _
      | refine LeO.ite ?_ ?_
      | refine LeO.bind ?_ (fun _ => ?_)
set_option maxHeartbeats 8000000 in
set_option maxRecDepth 100000 in
theorem plates_Check.calls (k : Nat) (a0_0 : Int) (a0_1 : Int) (A0_2 : Option Addr) (c0_2 : Nat) (l0_2 : List Int) (r : Int) (w : World) (hr0_2 : Kd.C (Kd.int .i64) w A0_2 l0_2.length l0_2) (hc0_2 : l0_2.length ≤ c0_2) (h : plates_Check.f k a0_0 a0_1 l0_2 = some r) :
    Calls Try.prog 11 #[.agg #[.int .i64 a0_0, .int .i64 a0_1, .slice A0_2 l0_2.length c0_2]] w fun e w' => e = .returned (.int .i64 r) ∧ Below w.heap.size w w' := by
  have hu24 := Try.underlying24
  have HR0_2 := Aside0.mk hr0_2
  have HC0_2 := Aside0.mk hc0_2
  clear hr0_2 hc0_2
  have HB := Aside0.mk (Below.refl w.heap.size w)
  have H : ((plates_sized.f a0_0 a0_1).bind fun t103 => (if t103 = true then (if (l0_2.length : Int) = (wrap64 (a0_0 * a0_1)) then (plates_Check.l0 k l0_2 (l0_2.length : Int) 0) else (some 1)) else (some 2))) = some r := h
  clear h
  replace H := Option.bind_eq_some_iff.mp H
  obtain ⟨t103, A20, H⟩ := H
  replace H : (if t103 = true then (if (l0_2.length : Int) = (wrap64 (a0_0 * a0_1)) then (plates_Check.l0 k l0_2 (l0_2.length : Int) 0) else (some 1)) else (some 2)) = some r := H
  have A2 := Aside0.mk A20
  clear A20
  by_cases c3 : t103 = true
  · subst c3
    have H1 : (if (l0_2.length : Int) = (wrap64 (a0_0 * a0_1)) then (plates_Check.l0 k l0_2 (l0_2.length : Int) 0) else (some 1)) = some r := by rw [if_pos rfl] at H; exact H
    clear H
    have H := H1
    clear H1
    by_cases c4 : (l0_2.length : Int) = (wrap64 (a0_0 * a0_1))
    · rw [if_pos c4] at H
      have c4b0 : ((l0_2.length : Int) == (wrap64 (a0_0 * a0_1))) = true := beq_iff_eq.mpr c4
      have c4b1 : ((l0_2.length : Int) != (wrap64 (a0_0 * a0_1))) = false := bne_eq_false_iff_eq.mpr c4
      clear c4
      have H' := Aside0.mk H
      clear H
      go_enter Try.func11, Try.ntmps11
      go_wp2_with (first | ((with_reducible refine gate_dst (N := 1) rfl ?_); refine box_event ?hg (N := 1) ?hd (cs := #[.int .i64 a0_0, .int .i64 a0_1, .slice A0_2 l0_2.length c0_2]) (t := 24) ?hr ?_; (case hd => rfl); (case hg => rfl); (case hr => first | (go_simp; done) | (go_simp; rfl)); intro gb102 hg w5 hbox hb; have n0_ := Aside0.mk (below_step (by repeat (first | (with_reducible first | exact HB.out | apply below_alloc | apply pw_below_drewN | apply below_drew1) | exact HB.out)) hb); have n1_ := Aside0.mk (hbox); have n2_ := Aside0.mk ((by rw [hg]; exact (below_size (by repeat (first | (with_reducible first | exact HB.out | apply below_alloc | apply pw_below_drewN | apply below_drew1) | exact HB.out))) : w.heap.size ≤ gb102)); have n3_ := Aside0.mk ((by rw [hg]; exact (below_size (by repeat (first | (with_reducible first | exact HB.out | apply below_alloc | apply pw_below_drewN | apply below_drew1) | exact HB.out))) : w.heap.size ≤ gb102)); clear HB; have HB := n0_; have BK102 := n1_; have GW102 := n2_; have GE102 := n3_; clear n0_ n1_ n2_ n3_; clear hb hbox hg; have hcz6_0 : w5.cell? ⟨gb102, 0, none⟩ = some (.int .i64 a0_0) := (blk_cell BK102.out 0).trans rfl; have hcz6_1 : w5.cell? ⟨gb102, 1, none⟩ = some (.int .i64 a0_1) := (blk_cell BK102.out 1).trans rfl; have hcz6_2 : w5.cell? ⟨gb102, 2, none⟩ = some (.slice A0_2 l0_2.length c0_2) := (blk_cell BK102.out 2).trans rfl; have hfz6_0 := blk_frozen BK102.out 0; have hfz6_1 := blk_frozen BK102.out 1; have hfz6_2 := blk_frozen BK102.out 2) | ((with_reducible refine gate_callee (f := 27) rfl ?_); refine goesL_ (some 9) rfl rfl Try.func27 (by kernel_rfl) rfl #[.int .i64 a0_0, .int .i64 a0_1] rfl (by (try simp only [List.map_toArray, List.map_cons, List.map_nil]); first | done | rfl | (simp only [List.length_drop, List.length_take]; rfl)) ?_; (with_reducible refine (plates_sized.calls a0_0 a0_1 true _ A2.out).mono ?_); rintro e w' ⟨rfl, ⟨nd, rfl⟩⟩; refine ⟨_, rfl, ?_⟩))
      go_loopg [23] k (fun kq v23 w' => ∃ (x23_1 : Int), v23 = .int .i64 x23_1 ∧ Aside0 (plates_Check.l0 kq l0_2 (l0_2.length : Int) x23_1 = some r) ∧ Aside0 (kq ≤ k) ∧ Aside0 (w'.heap[gb102]? = some (.cells #[.int .i64 a0_0, .int .i64 a0_1, (.slice A0_2 l0_2.length c0_2)] 24 (0, 0))) ∧ Aside0 (Below w.heap.size w w'))
      case atStart => exact ⟨(0), (by first | rfl | (simp; done) | (simp [*]; done)), H', ⟨Nat.le_refl _⟩, ⟨by (with_reducible repeat (first | refine blk_drewN ?_ _ | refine blk_drew ?_ | refine blk_alloc ?_ _)); exact BK102.out⟩, ⟨by repeat (first | (with_reducible first | exact HB.out | apply below_alloc | apply pw_below_drewN | apply below_drew1 | refine below_set ?_ GE102.out) | exact HB.out)⟩⟩
      case round =>
        clear H'
        try clear c1
        try clear c2
        try clear p2
        try clear c3
        try clear c4
        try clear c4b0
        try clear c4b1
        try clear p6
        try clear hcz6_0
        try clear hcz6_1
        try clear hcz6_2
        try clear hfz6_0
        try clear hfz6_1
        try clear hfz6_2
        obtain ⟨x23_1, rfl, HA, HK1, BK102, HB⟩ := hrel
        cases gk with
        | zero => exact absurd HA.out (by simp [plates_Check.l0])
        | succ k1 =>
          have H := HA.out
          clear HA
          simp only [plates_Check.l0] at H
          by_cases c7 : x23_1 < (l0_2.length : Int)
          · rw [if_pos c7] at H
            have c7b0 : decide (x23_1 < (l0_2.length : Int)) = true := decide_eq_true c7
            clear c7
            by_cases c8 : 0 ≤ x23_1
            · rw [if_pos c8] at H
              have c8b0 : decide (0 ≤ x23_1) = true := decide_eq_true c8
              clear c8
              by_cases c9 : x23_1 < (l0_2.length : Int)
              · rw [if_pos c9] at H
                have c9b0 : decide (x23_1 < (l0_2.length : Int)) = true := decide_eq_true c9
                clear c9
                replace H := Option.bind_eq_some_iff.mp H
                obtain ⟨t105, A100, H⟩ := H
                replace H : (if t105 = true then (plates_Check.l0 k1 l0_2 (l0_2.length : Int) (wrap64 (x23_1 + 1))) else (some 2)) = some r := H
                have A10 := Aside0.mk A100
                clear A100
                by_cases c11 : t105 = true
                · subst c11
                  have H1 : (plates_Check.l0 k1 l0_2 (l0_2.length : Int) (wrap64 (x23_1 + 1))) = some r := by rw [if_pos rfl] at H; exact H
                  clear H
                  have H := H1
                  clear H1
                  have H' := Aside0.mk H
                  clear H
                  have p104 : 0 ≤ (x23_1 : Int) := of_decide_eq_true (by first | (with_reducible assumption) | assumption)
                  have q104 : x23_1 < (l0_2.length : Int) := of_decide_eq_true (by first | (with_reducible assumption) | assumption)
                  obtain ⟨ad104, e104, hx104_0⟩ := Kd.at_int HR0_2.out x23_1 p104 q104
                  cases e104
                  replace hx104_0 := (HB.out.cell (World.block_lt_of_cell? w _ hx104_0)).trans hx104_0
                  replace p104 := eq_true p104
                  replace q104 := eq_true q104
                  go_wp2_with (first | ((with_reducible refine gate_callee (f := 28) rfl ?_); refine goesL_ (some 28) rfl rfl Try.func28 (by kernel_rfl) rfl #[.int .i64 (rd l0_2 x23_1)] rfl (by (try simp only [List.map_toArray, List.map_cons, List.map_nil]); first | done | rfl | (simp only [List.length_drop, List.length_take]; rfl)) ?_; (with_reducible refine (plates_ink.calls (rd l0_2 x23_1) true _ A10.out).mono ?_); rintro e w' ⟨rfl, ⟨nd, rfl⟩⟩; refine ⟨_, rfl, ?_⟩))
                  go_roundg k1
                  case measure => have := HK1.out; omega
                  case rel => exact ⟨(wrap64 (x23_1 + 1)), (by first | rfl | (simp; done) | (simp [*]; done)), H', ⟨by have := HK1.out; omega⟩, ⟨by (with_reducible repeat (first | refine blk_drewN ?_ _ | refine blk_drew ?_ | refine blk_alloc ?_ _)); exact BK102.out⟩, ⟨by repeat (first | (with_reducible first | exact HB.out | apply below_alloc | apply pw_below_drewN | apply below_drew1 | refine below_set ?_ GE102.out) | exact HB.out)⟩⟩
                · replace c11 := Bool.eq_false_iff.mpr c11
                  subst c11
                  have H1 : (some 2) = some r := by rw [if_neg (show ¬ (false = true) by decide)] at H; exact H
                  clear H
                  have H := H1
                  clear H1
                  obtain rfl := Option.some.inj H
                  have p104 : 0 ≤ (x23_1 : Int) := of_decide_eq_true (by first | (with_reducible assumption) | assumption)
                  have q104 : x23_1 < (l0_2.length : Int) := of_decide_eq_true (by first | (with_reducible assumption) | assumption)
                  obtain ⟨ad104, e104, hx104_0⟩ := Kd.at_int HR0_2.out x23_1 p104 q104
                  cases e104
                  replace hx104_0 := (HB.out.cell (World.block_lt_of_cell? w _ hx104_0)).trans hx104_0
                  replace p104 := eq_true p104
                  replace q104 := eq_true q104
                  go_wp2_with (first | ((with_reducible refine gate_callee (f := 28) rfl ?_); refine goesL_ (some 28) rfl rfl Try.func28 (by kernel_rfl) rfl #[.int .i64 (rd l0_2 x23_1)] rfl (by (try simp only [List.map_toArray, List.map_cons, List.map_nil]); first | done | rfl | (simp only [List.length_drop, List.length_take]; rfl)) ?_; (with_reducible refine (plates_ink.calls (rd l0_2 x23_1) false _ A10.out).mono ?_); rintro e w' ⟨rfl, ⟨nd, rfl⟩⟩; refine ⟨_, rfl, ?_⟩))
                  go_ret
                  exact ⟨by first | rfl | (simp [errW_none, errW_some] <;> rfl) | (simp [*, errW_none, errW_some] <;> rfl), by repeat (first | (with_reducible first | exact HB.out | apply below_alloc | apply pw_below_drewN | apply below_drew1 | refine below_set ?_ GE102.out) | exact HB.out)⟩
              · rw [if_neg c9] at H
                exact absurd H (by simp)
            · rw [if_neg c8] at H
              exact absurd H (by simp)
          · rw [if_neg c7] at H
            have c7b0 : decide (x23_1 < (l0_2.length : Int)) = false := decide_eq_false c7
            clear c7
            obtain rfl := Option.some.inj H
            go_wp2
            go_ret
            exact ⟨by first | rfl | (simp [errW_none, errW_some] <;> rfl) | (simp [*, errW_none, errW_some] <;> rfl), by repeat (first | (with_reducible first | exact HB.out | apply below_alloc | apply pw_below_drewN | apply below_drew1 | refine below_set ?_ GE102.out) | exact HB.out)⟩
    · rw [if_neg c4] at H
      have c4b0 : ((l0_2.length : Int) == (wrap64 (a0_0 * a0_1))) = false := beq_eq_false_iff_ne.mpr c4
      have c4b1 : ((l0_2.length : Int) != (wrap64 (a0_0 * a0_1))) = true := bne_iff_ne.mpr c4
      obtain rfl := Option.some.inj H
      go_enter Try.func11, Try.ntmps11
      go_wp2_with (first | ((with_reducible refine gate_dst (N := 1) rfl ?_); refine box_event ?hg (N := 1) ?hd (cs := #[.int .i64 a0_0, .int .i64 a0_1, .slice A0_2 l0_2.length c0_2]) (t := 24) ?hr ?_; (case hd => rfl); (case hg => rfl); (case hr => first | (go_simp; done) | (go_simp; rfl)); intro gb102 hg w12 hbox hb; have n0_ := Aside0.mk (below_step (by repeat (first | (with_reducible first | exact HB.out | apply below_alloc | apply pw_below_drewN | apply below_drew1) | exact HB.out)) hb); have n1_ := Aside0.mk (hbox); have n2_ := Aside0.mk ((by rw [hg]; exact (below_size (by repeat (first | (with_reducible first | exact HB.out | apply below_alloc | apply pw_below_drewN | apply below_drew1) | exact HB.out))) : w.heap.size ≤ gb102)); have n3_ := Aside0.mk ((by rw [hg]; exact (below_size (by repeat (first | (with_reducible first | exact HB.out | apply below_alloc | apply pw_below_drewN | apply below_drew1) | exact HB.out))) : w.heap.size ≤ gb102)); clear HB; have HB := n0_; have BK102 := n1_; have GW102 := n2_; have GE102 := n3_; clear n0_ n1_ n2_ n3_; clear hb hbox hg; have hcz13_0 : w12.cell? ⟨gb102, 0, none⟩ = some (.int .i64 a0_0) := (blk_cell BK102.out 0).trans rfl; have hcz13_1 : w12.cell? ⟨gb102, 1, none⟩ = some (.int .i64 a0_1) := (blk_cell BK102.out 1).trans rfl; have hcz13_2 : w12.cell? ⟨gb102, 2, none⟩ = some (.slice A0_2 l0_2.length c0_2) := (blk_cell BK102.out 2).trans rfl; have hfz13_0 := blk_frozen BK102.out 0; have hfz13_1 := blk_frozen BK102.out 1; have hfz13_2 := blk_frozen BK102.out 2) | ((with_reducible refine gate_callee (f := 27) rfl ?_); refine goesL_ (some 9) rfl rfl Try.func27 (by kernel_rfl) rfl #[.int .i64 a0_0, .int .i64 a0_1] rfl (by (try simp only [List.map_toArray, List.map_cons, List.map_nil]); first | done | rfl | (simp only [List.length_drop, List.length_take]; rfl)) ?_; (with_reducible refine (plates_sized.calls a0_0 a0_1 true _ A2.out).mono ?_); rintro e w' ⟨rfl, ⟨nd, rfl⟩⟩; refine ⟨_, rfl, ?_⟩))
      go_ret
      exact ⟨by first | rfl | (simp [errW_none, errW_some] <;> rfl) | (simp [*, errW_none, errW_some] <;> rfl), by repeat (first | (with_reducible first | exact HB.out | apply below_alloc | apply pw_below_drewN | apply below_drew1 | refine below_set ?_ GE102.out) | exact HB.out)⟩
  · replace c3 := Bool.eq_false_iff.mpr c3
    subst c3
    have H1 : (some 2) = some r := by rw [if_neg (show ¬ (false = true) by decide)] at H; exact H
    clear H
    have H := H1
    clear H1
    obtain rfl := Option.some.inj H
    go_enter Try.func11, Try.ntmps11
    go_wp2_with (first | ((with_reducible refine gate_dst (N := 1) rfl ?_); refine box_event ?hg (N := 1) ?hd (cs := #[.int .i64 a0_0, .int .i64 a0_1, .slice A0_2 l0_2.length c0_2]) (t := 24) ?hr ?_; (case hd => rfl); (case hg => rfl); (case hr => first | (go_simp; done) | (go_simp; rfl)); intro gb102 hg w14 hbox hb; have n0_ := Aside0.mk (below_step (by repeat (first | (with_reducible first | exact HB.out | apply below_alloc | apply pw_below_drewN | apply below_drew1) | exact HB.out)) hb); have n1_ := Aside0.mk (hbox); have n2_ := Aside0.mk ((by rw [hg]; exact (below_size (by repeat (first | (with_reducible first | exact HB.out | apply below_alloc | apply pw_below_drewN | apply below_drew1) | exact HB.out))) : w.heap.size ≤ gb102)); have n3_ := Aside0.mk ((by rw [hg]; exact (below_size (by repeat (first | (with_reducible first | exact HB.out | apply below_alloc | apply pw_below_drewN | apply below_drew1) | exact HB.out))) : w.heap.size ≤ gb102)); clear HB; have HB := n0_; have BK102 := n1_; have GW102 := n2_; have GE102 := n3_; clear n0_ n1_ n2_ n3_; clear hb hbox hg; have hcz15_0 : w14.cell? ⟨gb102, 0, none⟩ = some (.int .i64 a0_0) := (blk_cell BK102.out 0).trans rfl; have hcz15_1 : w14.cell? ⟨gb102, 1, none⟩ = some (.int .i64 a0_1) := (blk_cell BK102.out 1).trans rfl; have hcz15_2 : w14.cell? ⟨gb102, 2, none⟩ = some (.slice A0_2 l0_2.length c0_2) := (blk_cell BK102.out 2).trans rfl; have hfz15_0 := blk_frozen BK102.out 0; have hfz15_1 := blk_frozen BK102.out 1; have hfz15_2 := blk_frozen BK102.out 2) | ((with_reducible refine gate_callee (f := 27) rfl ?_); refine goesL_ (some 9) rfl rfl Try.func27 (by kernel_rfl) rfl #[.int .i64 a0_0, .int .i64 a0_1] rfl (by (try simp only [List.map_toArray, List.map_cons, List.map_nil]); first | done | rfl | (simp only [List.length_drop, List.length_take]; rfl)) ?_; (with_reducible refine (plates_sized.calls a0_0 a0_1 false _ A2.out).mono ?_); rintro e w' ⟨rfl, ⟨nd, rfl⟩⟩; refine ⟨_, rfl, ?_⟩))
    go_ret
    exact ⟨by first | rfl | (simp [errW_none, errW_some] <;> rfl) | (simp [*, errW_none, errW_some] <;> rfl), by repeat (first | (with_reducible first | exact HB.out | apply below_alloc | apply pw_below_drewN | apply below_drew1 | refine below_set ?_ GE102.out) | exact HB.out)⟩

/-! ### plates_Total: function 13 -/
def plates_Total.l0 : Nat → Int → List Int → Int → Int → Option (Int)
  | 0, _, _, _, _ => none
  | k + 1, x3, x10, x11, x12 => if x12 < x11 then (if 0 ≤ x12 then (if x12 < (x10.length : Int) then (plates_Total.l0 k (wrap64 (x3 + (rd x10 x12))) x10 x11 (wrap64 (x12 + 1))) else (none)) else (none)) else (some x3)
def plates_Total.f (k : Nat) (a0_0 : Int) (a0_1 : Int) (l0_2 : List Int) : Option (Int) := (plates_Check.f k a0_0 a0_1 l0_2).bind fun t107 => (if t107 = 0 then (plates_Total.l0 k 0 l0_2 (l0_2.length : Int) 0) else (some 0))
theorem plates_Total.mono_l : ∀ k, (∀ y0 y1 y2 y3, LeO (plates_Total.l0 k y0 y1 y2 y3) (plates_Total.l0 (k + 1) y0 y1 y2 y3))
  | 0 => fun _ _ _ _ r h => by simp [plates_Total.l0] at h
  | k + 1 => by
    have ih0 := plates_Total.mono_l k
    · intro y0 y1 y2 y3
      unfold plates_Total.l0
      repeat' first
      | (with_reducible exact ih0 _ _ _ _)
      | (with_reducible exact plates_Check.mono _ _ _ _)
      | (with_reducible exact LeO.refl _)
      | (with_reducible exact LeO.none _)
      | (with_reducible refine LeO.ite ?_ ?_)
      | (with_reducible refine LeO.bind ?_ (fun _ => ?_))
      | exact ih0 _ _ _ _
      | exact plates_Check.mono _ _ _ _
      | exact LeO.none _
      | refine LeO.ite ?_ ?_
      | refine LeO.bind ?_ (fun _ => ?_)
theorem plates_Total.mono : ∀ a0 a1 a2 k, LeO (plates_Total.f k a0 a1 a2) (plates_Total.f (k + 1) a0 a1 a2) := by
  intro a0 a1 a2 k
  have ih0 := plates_Total.mono_l k
  unfold plates_Total.f
  repeat' first
      | (with_reducible exact ih0 _ _ _ _)
      | (with_reducible exact plates_Check.mono _ _ _ _)
      | (with_reducible exact LeO.refl _)
      | (with_reducible exact LeO.none _)
      | (with_reducible refine LeO.ite ?_ ?_)
      | (with_reducible refine LeO.bind ?_ (fun _ => ?_))
      | exact ih0 _ _ _ _
      | exact plates_Check.mono _ _ _ _
      | exact LeO.none _
      | refine LeO.ite ?_ ?_
      | refine LeO.bind ?_ (fun _ => ?_)
set_option maxHeartbeats 8000000 in
set_option maxRecDepth 100000 in
theorem plates_Total.calls (k : Nat) (a0_0 : Int) (a0_1 : Int) (A0_2 : Option Addr) (c0_2 : Nat) (l0_2 : List Int) (r : Int) (w : World) (hr0_2 : Kd.C (Kd.int .i64) w A0_2 l0_2.length l0_2) (hc0_2 : l0_2.length ≤ c0_2) (h : plates_Total.f k a0_0 a0_1 l0_2 = some r) :
    Calls Try.prog 13 #[.agg #[.int .i64 a0_0, .int .i64 a0_1, .slice A0_2 l0_2.length c0_2]] w fun e w' => e = .returned (.int .i64 r) ∧ Below w.heap.size w w' := by
  have hu24 := Try.underlying24
  have HR0_2 := Aside0.mk hr0_2
  have HC0_2 := Aside0.mk hc0_2
  clear hr0_2 hc0_2
  have HB := Aside0.mk (Below.refl w.heap.size w)
  have H : ((plates_Check.f k a0_0 a0_1 l0_2).bind fun t107 => (if t107 = 0 then (plates_Total.l0 k 0 l0_2 (l0_2.length : Int) 0) else (some 0))) = some r := h
  clear h
  replace H := Option.bind_eq_some_iff.mp H
  obtain ⟨t107, A20, H⟩ := H
  replace H : (if t107 = 0 then (plates_Total.l0 k 0 l0_2 (l0_2.length : Int) 0) else (some 0)) = some r := H
  have A2 := Aside0.mk A20
  clear A20
  by_cases c3 : t107 = 0
  · rw [if_pos c3] at H
    have c3b0 : (t107 == 0) = true := beq_iff_eq.mpr c3
    have c3b1 : (t107 != 0) = false := bne_eq_false_iff_eq.mpr c3
    clear c3
    have H' := Aside0.mk H
    clear H
    go_enter Try.func13, Try.ntmps13
    go_wp2_with (first | ((with_reducible refine gate_dst (N := 1) rfl ?_); refine box_event ?hg (N := 1) ?hd (cs := #[.int .i64 a0_0, .int .i64 a0_1, .slice A0_2 l0_2.length c0_2]) (t := 24) ?hr ?_; (case hd => rfl); (case hg => rfl); (case hr => first | (go_simp; done) | (go_simp; rfl)); intro gb106 hg w4 hbox hb; have n0_ := Aside0.mk (below_step (by repeat (first | (with_reducible first | exact HB.out | apply below_alloc | apply pw_below_drewN | apply below_drew1) | exact HB.out)) hb); have n1_ := Aside0.mk (hbox); have n2_ := Aside0.mk ((by rw [hg]; exact (below_size (by repeat (first | (with_reducible first | exact HB.out | apply below_alloc | apply pw_below_drewN | apply below_drew1) | exact HB.out))) : w.heap.size ≤ gb106)); have n3_ := Aside0.mk ((by rw [hg]; exact (below_size (by repeat (first | (with_reducible first | exact HB.out | apply below_alloc | apply pw_below_drewN | apply below_drew1) | exact HB.out))) : w.heap.size ≤ gb106)); clear HB; have HB := n0_; have BK106 := n1_; have GW106 := n2_; have GE106 := n3_; clear n0_ n1_ n2_ n3_; clear hb hbox hg; have hcz5_0 : w4.cell? ⟨gb106, 0, none⟩ = some (.int .i64 a0_0) := (blk_cell BK106.out 0).trans rfl; have hcz5_1 : w4.cell? ⟨gb106, 1, none⟩ = some (.int .i64 a0_1) := (blk_cell BK106.out 1).trans rfl; have hcz5_2 : w4.cell? ⟨gb106, 2, none⟩ = some (.slice A0_2 l0_2.length c0_2) := (blk_cell BK106.out 2).trans rfl; have hfz5_0 := blk_frozen BK106.out 0; have hfz5_1 := blk_frozen BK106.out 1; have hfz5_2 := blk_frozen BK106.out 2) | ((with_reducible refine gate_callee (f := 11) rfl ?_); refine goesL_ (some 7) rfl rfl Try.func11 (by kernel_rfl) rfl #[.agg #[.int .i64 a0_0, .int .i64 a0_1, .slice A0_2 l0_2.length c0_2]] rfl (by (try simp only [List.map_toArray, List.map_cons, List.map_nil]); first | done | rfl | (simp only [List.length_drop, List.length_take]; rfl)) ?_; (with_reducible refine (plates_Check.calls k a0_0 a0_1 _ _ l0_2 t107 _ ?side1 ?side2 A2.out).mono ?_); (case side1 => repeat (first | exact (Kd.C_below HR0_2.out HB.out) | (with_reducible refine Kd.C_alloc ?_ _) | (with_reducible refine Kd.C_drewN ?_ _) | (with_reducible refine Kd.C_drew ?_))); (case side2 => exact HC0_2.out); rintro e w6 ⟨rfl, hb⟩; refine ⟨_, rfl, ?_⟩; have n0_ := Aside0.mk (blk_below (g := gb106) (o := .cells #[.int .i64 a0_0, .int .i64 a0_1, .slice A0_2 l0_2.length c0_2] 24 (0, 0)) (by (with_reducible repeat (first | refine blk_drewN ?_ _ | refine blk_drew ?_ | refine blk_alloc ?_ _)); exact BK106.out) hb); have n1_ := Aside0.mk (below_step (by repeat (first | (with_reducible first | exact HB.out | apply below_alloc | apply pw_below_drewN | apply below_drew1 | refine below_set ?_ GE106.out) | exact HB.out)) hb); clear BK106; clear HB; have BK106 := n0_; have HB := n1_; clear n0_ n1_; (try clear hb); (try clear hb2); (try clear hk); (try clear hi); have hcz7_0 : w6.cell? ⟨gb106, 0, none⟩ = some (.int .i64 a0_0) := (blk_cell BK106.out 0).trans rfl; have hcz7_1 : w6.cell? ⟨gb106, 1, none⟩ = some (.int .i64 a0_1) := (blk_cell BK106.out 1).trans rfl; have hcz7_2 : w6.cell? ⟨gb106, 2, none⟩ = some (.slice A0_2 l0_2.length c0_2) := (blk_cell BK106.out 2).trans rfl; have hfz7_0 := blk_frozen BK106.out 0; have hfz7_1 := blk_frozen BK106.out 1; have hfz7_2 := blk_frozen BK106.out 2))
    go_loopg [3, 12] k (fun kq v3 v12 w' => ∃ (x3_1 : Int) (x12_1 : Int), v3 = .int .i64 x3_1 ∧ v12 = .int .i64 x12_1 ∧ Aside0 (plates_Total.l0 kq x3_1 l0_2 (l0_2.length : Int) x12_1 = some r) ∧ Aside0 (kq ≤ k) ∧ Aside0 (w'.heap[gb106]? = some (.cells #[.int .i64 a0_0, .int .i64 a0_1, (.slice A0_2 l0_2.length c0_2)] 24 (0, 0))) ∧ Aside0 (Below w.heap.size w w'))
    case atStart => exact ⟨(0), (0), (by first | rfl | (simp; done) | (simp [*]; done)), (by first | rfl | (simp; done) | (simp [*]; done)), H', ⟨Nat.le_refl _⟩, ⟨by (with_reducible repeat (first | refine blk_drewN ?_ _ | refine blk_drew ?_ | refine blk_alloc ?_ _)); exact BK106.out⟩, ⟨by repeat (first | (with_reducible first | exact HB.out | apply below_alloc | apply pw_below_drewN | apply below_drew1 | refine below_set ?_ GE106.out) | exact HB.out)⟩⟩
    case round =>
      clear H'
      try clear c1
      try clear p2
      try clear c3
      try clear c3b0
      try clear c3b1
      try clear hcz5_0
      try clear hcz5_1
      try clear hcz5_2
      try clear hcz7_0
      try clear hcz7_1
      try clear hcz7_2
      try clear hfz5_0
      try clear hfz5_1
      try clear hfz5_2
      try clear hfz7_0
      try clear hfz7_1
      try clear hfz7_2
      obtain ⟨x3_1, x12_1, rfl, rfl, HA, HK1, BK106, HB⟩ := hrel
      cases gk with
      | zero => exact absurd HA.out (by simp [plates_Total.l0])
      | succ k1 =>
        have H := HA.out
        clear HA
        simp only [plates_Total.l0] at H
        by_cases c8 : x12_1 < (l0_2.length : Int)
        · rw [if_pos c8] at H
          have c8b0 : decide (x12_1 < (l0_2.length : Int)) = true := decide_eq_true c8
          clear c8
          by_cases c9 : 0 ≤ x12_1
          · rw [if_pos c9] at H
            have c9b0 : decide (0 ≤ x12_1) = true := decide_eq_true c9
            clear c9
            by_cases c10 : x12_1 < (l0_2.length : Int)
            · rw [if_pos c10] at H
              have c10b0 : decide (x12_1 < (l0_2.length : Int)) = true := decide_eq_true c10
              clear c10
              have H' := Aside0.mk H
              clear H
              have p108 : 0 ≤ (x12_1 : Int) := of_decide_eq_true (by first | (with_reducible assumption) | assumption)
              have q108 : x12_1 < (l0_2.length : Int) := of_decide_eq_true (by first | (with_reducible assumption) | assumption)
              obtain ⟨ad108, e108, hx108_0⟩ := Kd.at_int HR0_2.out x12_1 p108 q108
              cases e108
              replace hx108_0 := (HB.out.cell (World.block_lt_of_cell? w _ hx108_0)).trans hx108_0
              replace p108 := eq_true p108
              replace q108 := eq_true q108
              go_wp2
              go_roundg k1
              case measure => have := HK1.out; omega
              case rel => exact ⟨(wrap64 (x3_1 + (rd l0_2 x12_1))), (wrap64 (x12_1 + 1)), (by first | rfl | (simp; done) | (simp [*]; done)), (by first | rfl | (simp; done) | (simp [*]; done)), H', ⟨by have := HK1.out; omega⟩, ⟨by (with_reducible repeat (first | refine blk_drewN ?_ _ | refine blk_drew ?_ | refine blk_alloc ?_ _)); exact BK106.out⟩, ⟨by repeat (first | (with_reducible first | exact HB.out | apply below_alloc | apply pw_below_drewN | apply below_drew1 | refine below_set ?_ GE106.out) | exact HB.out)⟩⟩
            · rw [if_neg c10] at H
              exact absurd H (by simp)
          · rw [if_neg c9] at H
            exact absurd H (by simp)
        · rw [if_neg c8] at H
          have c8b0 : decide (x12_1 < (l0_2.length : Int)) = false := decide_eq_false c8
          clear c8
          obtain rfl := Option.some.inj H
          go_wp2
          go_ret
          exact ⟨by first | rfl | (simp [errW_none, errW_some] <;> rfl) | (simp [*, errW_none, errW_some] <;> rfl), by repeat (first | (with_reducible first | exact HB.out | apply below_alloc | apply pw_below_drewN | apply below_drew1 | refine below_set ?_ GE106.out) | exact HB.out)⟩
  · rw [if_neg c3] at H
    have c3b0 : (t107 == 0) = false := beq_eq_false_iff_ne.mpr c3
    have c3b1 : (t107 != 0) = true := bne_iff_ne.mpr c3
    obtain rfl := Option.some.inj H
    go_enter Try.func13, Try.ntmps13
    go_wp2_with (first | ((with_reducible refine gate_dst (N := 1) rfl ?_); refine box_event ?hg (N := 1) ?hd (cs := #[.int .i64 a0_0, .int .i64 a0_1, .slice A0_2 l0_2.length c0_2]) (t := 24) ?hr ?_; (case hd => rfl); (case hg => rfl); (case hr => first | (go_simp; done) | (go_simp; rfl)); intro gb106 hg w11 hbox hb; have n0_ := Aside0.mk (below_step (by repeat (first | (with_reducible first | exact HB.out | apply below_alloc | apply pw_below_drewN | apply below_drew1) | exact HB.out)) hb); have n1_ := Aside0.mk (hbox); have n2_ := Aside0.mk ((by rw [hg]; exact (below_size (by repeat (first | (with_reducible first | exact HB.out | apply below_alloc | apply pw_below_drewN | apply below_drew1) | exact HB.out))) : w.heap.size ≤ gb106)); have n3_ := Aside0.mk ((by rw [hg]; exact (below_size (by repeat (first | (with_reducible first | exact HB.out | apply below_alloc | apply pw_below_drewN | apply below_drew1) | exact HB.out))) : w.heap.size ≤ gb106)); clear HB; have HB := n0_; have BK106 := n1_; have GW106 := n2_; have GE106 := n3_; clear n0_ n1_ n2_ n3_; clear hb hbox hg; have hcz12_0 : w11.cell? ⟨gb106, 0, none⟩ = some (.int .i64 a0_0) := (blk_cell BK106.out 0).trans rfl; have hcz12_1 : w11.cell? ⟨gb106, 1, none⟩ = some (.int .i64 a0_1) := (blk_cell BK106.out 1).trans rfl; have hcz12_2 : w11.cell? ⟨gb106, 2, none⟩ = some (.slice A0_2 l0_2.length c0_2) := (blk_cell BK106.out 2).trans rfl; have hfz12_0 := blk_frozen BK106.out 0; have hfz12_1 := blk_frozen BK106.out 1; have hfz12_2 := blk_frozen BK106.out 2) | ((with_reducible refine gate_callee (f := 11) rfl ?_); refine goesL_ (some 7) rfl rfl Try.func11 (by kernel_rfl) rfl #[.agg #[.int .i64 a0_0, .int .i64 a0_1, .slice A0_2 l0_2.length c0_2]] rfl (by (try simp only [List.map_toArray, List.map_cons, List.map_nil]); first | done | rfl | (simp only [List.length_drop, List.length_take]; rfl)) ?_; (with_reducible refine (plates_Check.calls k a0_0 a0_1 _ _ l0_2 t107 _ ?side1 ?side2 A2.out).mono ?_); (case side1 => repeat (first | exact (Kd.C_below HR0_2.out HB.out) | (with_reducible refine Kd.C_alloc ?_ _) | (with_reducible refine Kd.C_drewN ?_ _) | (with_reducible refine Kd.C_drew ?_))); (case side2 => exact HC0_2.out); rintro e w13 ⟨rfl, hb⟩; refine ⟨_, rfl, ?_⟩; have n0_ := Aside0.mk (blk_below (g := gb106) (o := .cells #[.int .i64 a0_0, .int .i64 a0_1, .slice A0_2 l0_2.length c0_2] 24 (0, 0)) (by (with_reducible repeat (first | refine blk_drewN ?_ _ | refine blk_drew ?_ | refine blk_alloc ?_ _)); exact BK106.out) hb); have n1_ := Aside0.mk (below_step (by repeat (first | (with_reducible first | exact HB.out | apply below_alloc | apply pw_below_drewN | apply below_drew1 | refine below_set ?_ GE106.out) | exact HB.out)) hb); clear BK106; clear HB; have BK106 := n0_; have HB := n1_; clear n0_ n1_; (try clear hb); (try clear hb2); (try clear hk); (try clear hi)))
    go_ret
    exact ⟨by first | rfl | (simp [errW_none, errW_some] <;> rfl) | (simp [*, errW_none, errW_some] <;> rfl), by repeat (first | (with_reducible first | exact HB.out | apply below_alloc | apply pw_below_drewN | apply below_drew1 | refine below_set ?_ GE106.out) | exact HB.out)⟩

/-! ### wire_PutInt: function 30 -/
/-- What an integer is mapped to before it is written. -/
def zz (n : Int) : Int := if n < 0 then -2 * n - 1 else 2 * n
/-- The bytes of a number below 2^64, seven bits a byte. -/
def venc : Nat → Int → List Int
  | 0, u => [u % 256]
  | k + 1, u => if 128 ≤ u then (u % 128 + 128) :: venc k (u / 128) else [u]
def wire_PutInt.f (l0 : List Int) (a1 : Int) : Option (List Int) := if -9223372036854775808 ≤ a1 then if a1 ≤ 9223372036854775807 then if l0.length + 10 < 140737488355328 then some (l0 ++ venc 9 (zz a1)) else none else none else none

theorem venc_length (k : Nat) : ∀ u, (venc k u).length ≤ k + 1 := by
  induction k with
  | zero => intro u; simp [venc]
  | succ k ih =>
    intro u
    unfold venc
    split
    · have := ih (u / 128); simp; omega
    · simp

theorem encs_get {α : Type} (enc : α → Value) (xs : List α) (j : Nat) (u : Value) (h : (encs enc xs)[j]? = some u) : ∃ p, xs[j]? = some p ∧ u = enc p := by
  unfold encs at h
  rw [List.getElem?_map] at h
  cases hx : xs[j]? with
  | none => rw [hx] at h; cases h
  | some p => rw [hx] at h; injection h with h; exact ⟨p, rfl, h.symm⟩

/-- append to a slice that is full, out of memory that came in: what is made is new. -/
theorem full_append {P : Program} {ops : Array Oper} {rest : List Oper} {o : Oper} {a : Act} {Q : Exit → Act → World → Prop} {α : Type} {enc : α → Value} {h1c : ∀ x : α, (enc x).oneCell' = true} {w0 W : World} (base : Nat) (hgd : o.guard = none) (s x : Operand) (t e : TypeId) (z : Value) (bytes : Nat)
    (ho : o.op = .call { callee := .builtin .append, args := #[s, x], argTypes := #[t, t] })
    (ht : P.underlying t = some (.slice e)) (hinfo : (P.info? e).map (fun i => (i.zero, i.size, i.bytes)) = some (some z, 1, bytes)) (hz : z.cells.size = 1) (hb0 : 0 < bytes)
    (A : Option Addr) (xs : List α) (p : α) (hs : a.eval s = .slice A xs.length xs.length) (hx : a.eval x = .slice (some ⟨W.heap.size, 0, none⟩) 1 1)
    (HR : Kd.C (Kd.scalar enc h1c) W A xs.length xs) (HB : Below base w0 W) (hbase : base ≤ W.heap.size) (hl : (xs.length + 1) * bytes ≤ 140737488355328)
    (h : ∀ v1 w1, Kd.R (Kd.scalar enc h1c) e w1 base (fun _ => True) v1 (xs ++ [p]) → Below base w0 w1 → wpList P ops Q rest (a.put o.dst v1) w1) :
    wpList P ops Q (o :: rest) a (W.alloc (.cells #[enc p] e)) := by
  obtain ⟨i0, hi, hzz⟩ := Option.map_eq_some_iff.1 hinfo
  simp only [Prod.mk.injEq] at hzz
  obtain ⟨hz0, hz1, hz2⟩ := hzz
  have hlen : xs.length + 1 ≤ 140737488355328 := Nat.le_trans (Nat.le_mul_of_pos_right _ hb0) hl
  have HR' := Kd.C_below HR (w1 := W.alloc (.cells #[enc p] e)) ((Below.refl _ _).alloc (Nat.le_refl _) _)
  obtain ⟨q1, q2, q3⟩ := HR'
  refine wpList_append_grows (W.alloc (.cells #[enc p] e)) hgd s x t ho e i0 z 1 bytes ht hi hz0 hz1 hz2 hz (by decide) A xs.length xs.length (encs enc xs) hs ?_ (by rw [encs_length, Nat.mul_one]) ?_ ⟨W.heap.size, 0, none⟩ 1 1 [enc p] hx rfl
    (by simpa using World.news_of_block (cs := #[enc p]) (t := e) (fr := (0, 0)) (heap_alloc_new W (.cells #[enc p] e))) (by intro u hu; rw [List.mem_singleton.1 hu]; exact h1c p) (by omega) (by simp only [maxLen]; omega) hl ?_
  · intro hA
    have : ¬ 0 < xs.length := by
      intro hp
      obtain ⟨ad, h2, _⟩ := q3 hp
      rw [hA] at h2; cases h2
    omega
  · intro b hb j u hj
    obtain ⟨pj, hpj, rfl⟩ := encs_get enc xs j u hj
    have hp : 0 < xs.length := by
      have := (List.getElem?_eq_some_iff.1 hpj).1
      omega
    obtain ⟨ad, h2, h3⟩ := q3 hp
    rw [hb] at h2
    injection h2 with h2
    subst h2
    obtain ⟨c, hc1, hc2, hc3⟩ := h3 j pj hpj
    have hc2' : c = [enc pj] := hc2
    have := hc3 0 (enc pj) (by rw [hc2']; rfl)
    have hsz : (Kd.scalar enc h1c).sz = 1 := rfl
    rw [hsz, Nat.mul_one, Nat.add_zero] at this
    exact this
  · intro v1 w1 hown hg
    have hb1 : Below base w0 (W.alloc (.cells #[enc p] e)) := HB.alloc hbase _
    have hsz : W.heap.size ≤ (W.alloc (.cells #[enc p] e)).heap.size := by simp
    refine h v1 w1 (Kd.R_of_own ?_ (fun _ _ => trivial)) (hb1.grown hg (by omega) (fun _ hk => by cases hk))
    have he : encs enc (xs ++ [p]) = encs enc xs ++ [enc p] := by simp [encs]
    rw [List.length_append, List.length_singleton, he]
    exact own_weaken hown (by omega)

theorem zz_range {n : Int} (h : (Lit.int .i64 n).wf = true) : 0 ≤ zz n ∧ zz n < 18446744073709551616 := by
  have hx : -9223372036854775808 ≤ n ∧ n ≤ 9223372036854775807 := by simpa [Lit.wf, IntKind.min, IntKind.max, IntKind.signed, IntKind.bits] using h
  unfold zz
  split <;> omega

theorem u64_w (n : Int) : IntKind.u64.wrap n = n % 18446744073709551616 := by simp [IntKind.wrap, IntKind.bits, IntKind.signed]
theorem bits_xor_zero (X : Int) (h0 : 0 ≤ X) (h1 : X < 18446744073709551616) : bits .xor .u64 X 0 = X := by
  obtain ⟨a, rfl⟩ := Int.eq_ofNat_of_zero_le h0
  show IntKind.u64.wrap ((BitVec.ofInt 64 (a : Int) ^^^ BitVec.ofInt 64 0).toNat : Int) = _
  have e : (BitVec.ofInt 64 (0 : Int)) = 0#64 := by decide
  rw [e, BitVec.xor_zero, u64_w, BitVec.ofInt_natCast, BitVec.toNat_ofNat]
  omega
theorem bits_xor_ones (X : Int) (h0 : 0 ≤ X) (h1 : X < 18446744073709551616) : bits .xor .u64 X 18446744073709551615 = 18446744073709551615 - X := by
  obtain ⟨a, rfl⟩ := Int.eq_ofNat_of_zero_le h0
  show IntKind.u64.wrap ((BitVec.ofInt 64 (a : Int) ^^^ BitVec.ofInt 64 18446744073709551615).toNat : Int) = _
  have e : (BitVec.ofInt 64 (18446744073709551615 : Int)) = BitVec.allOnes 64 := by decide
  rw [e, BitVec.xor_allOnes, u64_w, BitVec.toNat_not, BitVec.ofInt_natCast, BitVec.toNat_ofNat]
  omega
theorem zz_raw (a : Int) (h0 : -9223372036854775808 ≤ a) (h1 : a ≤ 9223372036854775807) :
    bits BinOp.xor IntKind.u64 (IntKind.u64.wrap (IntKind.u64.wrap a * 2)) (IntKind.u64.wrap (a / 9223372036854775808)) = zz a := by
  have hw : IntKind.u64.wrap (IntKind.u64.wrap a * 2) = (2 * a) % 18446744073709551616 := by rw [u64_w, u64_w]; omega
  rw [hw]
  unfold zz
  by_cases hn : a < 0
  · have h2 : IntKind.u64.wrap (a / 9223372036854775808) = 18446744073709551615 := by rw [u64_w]; omega
    rw [h2, bits_xor_ones _ (by omega) (by omega), if_pos hn]; omega
  · have h2 : IntKind.u64.wrap (a / 9223372036854775808) = 0 := by rw [u64_w]; omega
    rw [h2, bits_xor_zero _ (by omega) (by omega), if_neg hn]; omega
/-- a byte with its highest bit set -/
theorem byte_or (u : Int) : bits .or .u8 (u % 256) 128 = u % 128 + 128 := by
  have key : ∀ n : Fin 256, bits .or .u8 (n.val : Int) 128 = (n.val : Int) % 128 + 128 := by decide +kernel
  have h0 : 0 ≤ u % 256 := by omega
  obtain ⟨n, hn⟩ := Int.eq_ofNat_of_zero_le h0
  have := key ⟨n, by omega⟩
  simp only at this
  rw [hn, this]; omega

theorem pow7 (k : Nat) : (128 : Int) ^ (k + 1) = 128 * 128 ^ k := by rw [Int.pow_succ, Int.mul_comm]
theorem venc_big (k : Nat) (x : Int) (h : 128 ≤ x) (hx : x < 128 ^ (k + 1)) : 0 < k ∧ venc k x = (x % 128 + 128) :: venc (k - 1) (x / 128) ∧ x / 128 < 128 ^ k := by
  cases k with
  | zero => simp at hx; omega
  | succ k =>
    refine ⟨by omega, ?_, ?_⟩
    · rw [venc, if_pos h]; rfl
    · rw [pow7] at hx; omega
theorem venc_small (k : Nat) (x : Int) (h0 : 0 ≤ x) (h : ¬ 128 ≤ x) : venc k x = [x % 256] := by
  have : x % 256 = x := by omega
  cases k with
  | zero => rfl
  | succ k => rw [venc, if_neg h, this]
set_option maxHeartbeats 1000000 in
theorem wire_PutInt.calls (A0 : Option Addr) (c0 : Nat) (l0 : List Int) (a1 : Int) (r : List Int) (w : World) (hr0 : Kd.C (Kd.int .u8) w A0 l0.length l0) (hc0 : l0.length ≤ c0) (h : wire_PutInt.f l0 a1 = some r) :
    Calls Try.prog 30 #[.slice A0 l0.length c0, .int .i64 a1] w fun e w' => ∃ v0_ : Value, e = .returned (v0_) ∧ Kd.R (Kd.int .u8) 5 w' w.heap.size (fun _ => True) v0_ r ∧ Below w.heap.size w w' := by
  unfold wire_PutInt.f at h
  by_cases g1 : -9223372036854775808 ≤ a1
  case neg => rw [if_neg g1] at h; cases h
  rw [if_pos g1] at h
  by_cases g2 : a1 ≤ 9223372036854775807
  case neg => rw [if_neg g2] at h; cases h
  rw [if_pos g2] at h
  by_cases g3 : l0.length + 10 < 140737488355328
  case neg => rw [if_neg g3] at h; cases h
  rw [if_pos g3] at h
  injection h with h
  have HZ := Aside0.mk (zz_raw a1 g1 g2)
  have HR := Aside0.mk hr0
  have HB := Aside0.mk (Below.refl w.heap.size w)
  have HG := Aside0.mk g3
  have HH := Aside0.mk h
  have HU : Aside0 (0 ≤ zz a1 ∧ zz a1 < 18446744073709551616) := ⟨by unfold zz; split <;> omega⟩
  have HT : Aside0 ((venc 9 (zz a1)).length ≤ 10) := ⟨venc_length 9 _⟩
  clear h g1 g2 g3 hr0
  go_enter Try.func30, Try.ntmps30
  go_wp2
  rw [HZ.out]
  go_loopg [5, 6] (10 : Nat) (fun kq v5 v6 w' => ∃ (x6 : Int) (ys : List Int), v6 = .int .u64 x6 ∧ Aside0 (0 ≤ x6 ∧ x6 < 18446744073709551616) ∧ Aside0 (ys ++ venc (kq - 1) x6 = r) ∧ Aside0 (x6 < 128 ^ kq ∧ 0 < kq) ∧ Aside0 (Below w.heap.size w w') ∧ ((v5 = .slice A0 l0.length l0.length ∧ ys = l0 ∧ w' = w) ∨ Aside0 (Kd.R (Kd.int .u8) 5 w' w.heap.size (fun _ => True) v5 ys)) ∧ Aside0 (ys.length + kq ≤ l0.length + 10))
  case atStart => exact ⟨zz a1, l0, rfl, HU, HH, ⟨by have := HU.out; omega, by omega⟩, HB, .inl ⟨rfl, rfl, rfl⟩, ⟨Nat.le_refl _⟩⟩
  case round =>
    obtain ⟨x6, ys, rfl, HX, HE, HK, HB', hor, HL⟩ := hrel
    have HB0 := HB
    clear HB
    have HB := HB'
    clear HB'
    cases gk with
    | zero => exact absurd HK.out.2 (by omega)
    | succ k2 =>
      by_cases c1 : 128 ≤ x6
      · have cb : decide (128 ≤ x6) = true := decide_eq_true c1
        have HV := Aside0.mk (venc_big k2 x6 c1 HK.out.1)
        have HX2 : Aside0 (0 ≤ x6 / 128 ∧ x6 / 128 < 18446744073709551616) := ⟨by have := HX.out; omega⟩
        clear c1
        rcases hor with ⟨rfl, hys, hw⟩ | HO
        · obtain rfl := hw
          obtain rfl := hys
          go_wp2_with (first | ((with_reducible refine gate_builtin (b := .append) (xs := #[.tmp 22, .tmp 26]) rfl ?_); at_builtin; simp only [byte_or]; refine full_append (enc := Value.int .u8) (h1c := fun _ => rfl) (w0 := wr) wr.heap.size rfl (.tmp 22) (.tmp 26) 30 5 (.int .u8 0) 1 rfl Try.underlying30 info5 rfl (by decide) A0 ys (x6 % 128 + 128) rfl rfl HR.out HB.out (Nat.le_refl _) (by have := HG.out; omega) ?_; intro v1 w1 ho hb; have HO1 := Aside0.mk ho; have HB1 := Aside0.mk hb; clear ho hb))
          go_roundg k2
          case measure => omega
          case rel => exact ⟨x6 / 128, ys ++ [x6 % 128 + 128], rfl, HX2, ⟨by have h1 := HE.out; have h2 := HV.out.2.1; simp only [Nat.add_sub_cancel] at h1; rw [h2] at h1; rw [List.append_assoc]; exact h1⟩, ⟨HV.out.2.2, HV.out.1⟩, HB1, .inr HO1, ⟨by have := HL.out; have := HK.out.2; simp; omega⟩⟩
        · go_wp2_with (first | ((with_reducible refine gate_builtin (b := .append) (xs := #[.tmp 22, .tmp 26]) rfl ?_); at_builtin; simp only [byte_or]; refine Kd.R_append (Kd.int .u8) (w0 := w) w.heap.size rfl (.tmp 22) (.tmp 26) 30 5 (.int .u8 0) 1 rfl Try.underlying30 info5 rfl (by decide) (by omega) u5 ys (x6 % 128 + 128) [.int .u8 (x6 % 128 + 128)] (fun _ => True) (fun _ => False) rfl rfl rfl (fun _ hk => hk.elim) (fun _ _ => trivial) HO.out HB.out (below_size HB.out) (by have := HG.out; have := HL.out; omega) ?_; intro v1 w1 ho hb _ _; have HO1 := Aside0.mk ho; have HB1 := Aside0.mk hb; clear ho hb))
          go_roundg k2
          case measure => omega
          case rel => exact ⟨x6 / 128, ys ++ [x6 % 128 + 128], rfl, HX2, ⟨by have h1 := HE.out; have h2 := HV.out.2.1; simp only [Nat.add_sub_cancel] at h1; rw [h2] at h1; rw [List.append_assoc]; exact h1⟩, ⟨HV.out.2.2, HV.out.1⟩, HB1, .inr HO1, ⟨by have := HL.out; have := HK.out.2; simp; omega⟩⟩
      · have cb : decide (128 ≤ x6) = false := decide_eq_false c1
        have HV := Aside0.mk (venc_small (k2 + 1 - 1) x6 HX.out.1 c1)
        have HE2 : Aside0 (ys ++ [x6 % 256] = r) := ⟨by rw [← HV.out]; exact HE.out⟩
        clear c1
        rcases hor with ⟨rfl, hys, hw⟩ | HO
        · obtain rfl := hw
          obtain rfl := hys
          go_wp2_with (first | ((with_reducible refine gate_builtin (b := .append) (xs := #[.tmp 30, .tmp 33]) rfl ?_); at_builtin; refine full_append (enc := Value.int .u8) (h1c := fun _ => rfl) (w0 := wr) wr.heap.size rfl (.tmp 30) (.tmp 33) 30 5 (.int .u8 0) 1 rfl Try.underlying30 info5 rfl (by decide) A0 ys (x6 % 256) rfl rfl HR.out HB.out (Nat.le_refl _) (by have := HG.out; omega) ?_; intro v1 w1 ho hb; have HO1 := Aside0.mk ho; have HB1 := Aside0.mk hb; clear ho hb))
          go_ret
          exact ⟨_, rfl, by rw [← HE2.out]; exact HO1.out, HB1.out⟩
        · go_wp2_with (first | ((with_reducible refine gate_builtin (b := .append) (xs := #[.tmp 30, .tmp 33]) rfl ?_); at_builtin; refine Kd.R_append (Kd.int .u8) (w0 := w) w.heap.size rfl (.tmp 30) (.tmp 33) 30 5 (.int .u8 0) 1 rfl Try.underlying30 info5 rfl (by decide) (by omega) u5 ys (x6 % 256) [.int .u8 (x6 % 256)] (fun _ => True) (fun _ => False) rfl rfl rfl (fun _ hk => hk.elim) (fun _ _ => trivial) HO.out HB.out (below_size HB.out) (by have := HG.out; have := HL.out; omega) ?_; intro v1 w1 ho hb _ _; have HO1 := Aside0.mk ho; have HB1 := Aside0.mk hb; clear ho hb))
          go_ret
          exact ⟨_, rfl, by rw [← HE2.out]; exact HO1.out, HB1.out⟩

/-! ### digest_tail: function 41 -/
def digest_tail.f (a0 : Int) : Option (Int × Int × Int × Int) := some ((a0 / 16777216) % 256, (a0 / 65536) % 256, (a0 / 256) % 256, (a0) % 256)
set_option maxHeartbeats 8000000 in
set_option maxRecDepth 100000 in
theorem digest_tail.calls (a0 : Int) (r1 : Int) (r2 : Int) (r3 : Int) (r4 : Int) (w : World) (h : digest_tail.f a0 = some (r1, r2, r3, r4)) :
    Calls Try.prog 41 #[.int .u32 a0] w fun e w' => e = .returned (.agg #[.int .u8 r1, .int .u8 r2, .int .u8 r3, .int .u8 r4]) ∧ Below w.heap.size w w' := by
  have hu59 := Try.underlying59
  have HB := Aside0.mk (Below.refl w.heap.size w)
  have H : (some ((a0 / 16777216) % 256, (a0 / 65536) % 256, (a0 / 256) % 256, (a0) % 256)) = some (r1, r2, r3, r4) := h
  clear h
  simp only [Option.some.injEq, Prod.mk.injEq] at H
  obtain ⟨rfl, rfl, rfl, rfl⟩ := H
  go_enter Try.func41, Try.ntmps41
  go_wp2_with (first | ((with_reducible refine gate_dst (N := 2) rfl ?_); refine box_event ?hg (N := 2) ?hd (cs := #[.int .u8 0, .int .u8 0, .int .u8 0, .int .u8 0]) (t := 59) ?hr ?_; (case hd => rfl); (case hg => rfl); (case hr => first | (go_simp; done) | (go_simp; rfl)); intro gb109 hg w2 hbox hb; have n0_ := Aside0.mk (below_step (by repeat (first | (with_reducible first | exact HB.out | apply below_alloc | apply pw_below_drewN | apply below_drew1) | exact HB.out)) hb); have n1_ := Aside0.mk (hbox); have n2_ := Aside0.mk ((by rw [hg]; exact (below_size (by repeat (first | (with_reducible first | exact HB.out | apply below_alloc | apply pw_below_drewN | apply below_drew1) | exact HB.out))) : w.heap.size ≤ gb109)); have n3_ := Aside0.mk ((by rw [hg]; exact (below_size (by repeat (first | (with_reducible first | exact HB.out | apply below_alloc | apply pw_below_drewN | apply below_drew1) | exact HB.out))) : w.heap.size ≤ gb109)); clear HB; have HB := n0_; have BK109 := n1_; have GW109 := n2_; have GE109 := n3_; clear n0_ n1_ n2_ n3_; clear hb hbox hg; have hcz3_0 : w2.cell? ⟨gb109, 0, none⟩ = some (.int .u8 0) := (blk_cell BK109.out 0).trans rfl; have hcz3_1 : w2.cell? ⟨gb109, 1, none⟩ = some (.int .u8 0) := (blk_cell BK109.out 1).trans rfl; have hcz3_2 : w2.cell? ⟨gb109, 2, none⟩ = some (.int .u8 0) := (blk_cell BK109.out 2).trans rfl; have hcz3_3 : w2.cell? ⟨gb109, 3, none⟩ = some (.int .u8 0) := (blk_cell BK109.out 3).trans rfl; have hfz3_0 := blk_frozen BK109.out 0; have hfz3_1 := blk_frozen BK109.out 1; have hfz3_2 := blk_frozen BK109.out 2; have hfz3_3 := blk_frozen BK109.out 3))
  refine bodyPost_ret (results_cell_row rfl _ _ gb109 59 #[.int .u8 ((a0 / 16777216) % 256), .int .u8 ((a0 / 65536) % 256), .int .u8 ((a0 / 256) % 256), .int .u8 ((a0) % 256)] (0, 0) _ rfl (by (with_reducible repeat (first | refine blk_drewN ?_ _ | refine blk_drew ?_ | refine blk_alloc ?_ _)); refine blk_put (cs := #[.int .u8 ((a0 / 16777216) % 256), .int .u8 ((a0 / 65536) % 256), .int .u8 ((a0 / 256) % 256), .int .u8 0]) ?_ 3 _ rfl; (with_reducible repeat (first | refine blk_drewN ?_ _ | refine blk_drew ?_ | refine blk_alloc ?_ _)); refine blk_put (cs := #[.int .u8 ((a0 / 16777216) % 256), .int .u8 ((a0 / 65536) % 256), .int .u8 0, .int .u8 0]) ?_ 2 _ rfl; (with_reducible repeat (first | refine blk_drewN ?_ _ | refine blk_drew ?_ | refine blk_alloc ?_ _)); refine blk_put (cs := #[.int .u8 ((a0 / 16777216) % 256), .int .u8 0, .int .u8 0, .int .u8 0]) ?_ 1 _ rfl; (with_reducible repeat (first | refine blk_drewN ?_ _ | refine blk_drew ?_ | refine blk_alloc ?_ _)); refine blk_put (cs := #[.int .u8 0, .int .u8 0, .int .u8 0, .int .u8 0]) ?_ 0 _ rfl; (with_reducible repeat (first | refine blk_drewN ?_ _ | refine blk_drew ?_ | refine blk_alloc ?_ _)); exact BK109.out) Try.underlying59 rfl (by kernel_rfl)) rfl ?_
  exact ⟨by first | rfl | (simp [errW_none, errW_some] <;> rfl) | (simp [*, errW_none, errW_some] <;> rfl), by repeat (first | (with_reducible first | exact HB.out | apply below_alloc | apply pw_below_drewN | apply below_drew1 | refine below_set ?_ GE109.out) | exact HB.out)⟩

-- NOT PRINTED: function 47 (digest_table)

/-! ### digest_sum: function 42 -/
/-- One bit of the checksum. -/
def tstep (c : Int) : Int := if Go.bits .and .u32 c 1 = 1 then Go.bits .xor .u32 (c / 2) 3988292384 else c / 2
def titer : Nat → Int → Int
  | 0, c => c
  | n + 1, c => tstep (titer n c)
/-- The checksum of half a byte. -/
def tabT (i : Nat) : Int := titer 4 (i : Int)
def tabL : List Int := [0, 498536548, 997073096, 651767980, 1994146192, 1802195444, 1303535960, 1342533948, 3988292384, 4027552580, 3604390888, 3412177804, 2607071920, 2262029012, 2685067896, 3183342108]
theorem tabL_is : (List.range 16).map tabT = tabL := by decide +kernel
/-- The table's cells behind so many rounds. -/
def tarr (i : Nat) : Array Value := ((tabL.take i ++ List.replicate (16 - i) 0).map (Value.int .u32)).toArray
theorem tabT_at (i : Nat) (h : i < 16) : tabT i = tabL.getD i 0 := by
  rw [← tabL_is, List.getD_eq_getElem?_getD, List.getElem?_map, List.getElem?_range h]
  rfl
theorem lt16 {i : Nat} (h : i < 16) : i = 0 ∨ i = 1 ∨ i = 2 ∨ i = 3 ∨ i = 4 ∨ i = 5 ∨ i = 6 ∨ i = 7 ∨ i = 8 ∨ i = 9 ∨ i = 10 ∨ i = 11 ∨ i = 12 ∨ i = 13 ∨ i = 14 ∨ i = 15 := by omega
theorem tarr_set (i : Nat) (h : i < 16) : (tarr i).setIfInBounds i (Value.int .u32 (tabT i)) = tarr (i + 1) := by
  rw [tabT_at i h]
  rcases lt16 h with rfl | rfl | rfl | rfl | rfl | rfl | rfl | rfl | rfl | rfl | rfl | rfl | rfl | rfl | rfl | rfl <;> rfl
theorem tarr_get (i : Nat) (h : i < 16) : (tarr i)[i]? = some (Value.int .u32 0) := by
  rcases lt16 h with rfl | rfl | rfl | rfl | rfl | rfl | rfl | rfl | rfl | rfl | rfl | rfl | rfl | rfl | rfl | rfl <;> rfl
theorem tstep_odd {c : Int} (h : Go.bits .and .u32 c 1 = 1) : tstep c = Go.bits .xor .u32 (c / 2) 3988292384 := by unfold tstep; rw [if_pos h]
theorem tstep_even {c : Int} (h : ¬ Go.bits .and .u32 c 1 = 1) : tstep c = c / 2 := by unfold tstep; rw [if_neg h]
theorem tarr_below (w : World) (i : Nat) (t : TypeId) : Below w.heap.size w (w.alloc (.cells (tarr i) t)) := (Below.refl _ _).alloc (Nat.le_refl _) _
set_option maxHeartbeats 1000000 in
theorem table_calls (w : World) : Calls Try.prog 47 #[] w fun e w' => e = .returned (.agg (tarr 16)) ∧ Below w.heap.size w w' := by
  go_enter Try.func47, Try.ntmps47
  go_wp2
  go_loopw [3] (fun v3 wr => ∃ i : Nat, i ≤ 16 ∧ v3 = .int .i64 i ∧ wr = w.alloc (.cells (tarr i) 66)) (fun v3 _ => 16 - (intOf v3).toNat)
  case atStart => exact ⟨0, by omega, rfl, rfl⟩
  case round =>
    obtain ⟨i, hi, rfl, rfl⟩ := hrel
    by_cases h : i < 16
    · have HG := Aside0.mk (tarr_get i h)
      have HS := Aside0.mk (tarr_set i h)
      have hb : decide ((i : Int) < 16) = true := by simp; omega
      go_wp2
      go_loop [2, 8] (fun c j => ∃ n : Nat, n ≤ 4 ∧ j = .int .i64 n ∧ c = .int .u32 (titer n (i : Int))) (fun _ j => 4 - (intOf j).toNat)
      case atStart => exact ⟨0, by omega, rfl, rfl⟩
      case round =>
        obtain ⟨n, hn, rfl, rfl⟩ := hrel
        by_cases h4 : n < 4
        · have h4b : decide ((n : Int) < 4) = true := by simp; omega
          by_cases ho : Go.bits .and .u32 (titer n (i : Int)) 1 = 1
          · have hob : (Go.bits .and .u32 (titer n (i : Int)) 1 == 1) = true := beq_iff_eq.2 ho
            have HT := Aside0.mk (tstep_odd ho)
            clear ho
            go_wp2
            go_round
            case rel => exact ⟨n + 1, by omega, by go_num, by show _ = Value.int .u32 (tstep _); rw [HT.out]⟩
            case measure => simp [intOf]; omega
          · have hob : (Go.bits .and .u32 (titer n (i : Int)) 1 == 1) = false := beq_eq_false_iff_ne.2 ho
            have HT := Aside0.mk (tstep_even ho)
            clear ho
            go_wp2
            go_round
            case rel => exact ⟨n + 1, by omega, by go_num, by show _ = Value.int .u32 (tstep _); rw [HT.out]⟩
            case measure => simp [intOf]; omega
        · have h4b : decide ((n : Int) < 4) = false := by simp; omega
          obtain rfl : n = 4 := by omega
          have hg := HG.out
          go_wp2
          go_roundw
          case rel => exact ⟨i + 1, by omega, by go_num, by rw [← HS.out]; rfl⟩
          case measure => simp [intOf]; omega
    · have : i = 16 := by omega
      subst this
      have hg : tarr 16 = #[.int .u32 0, .int .u32 498536548, .int .u32 997073096, .int .u32 651767980, .int .u32 1994146192, .int .u32 1802195444, .int .u32 1303535960, .int .u32 1342533948, .int .u32 3988292384, .int .u32 4027552580, .int .u32 3604390888, .int .u32 3412177804, .int .u32 2607071920, .int .u32 2262029012, .int .u32 2685067896, .int .u32 3183342108] := rfl
      rw [hg]
      go_wp2
      exact bodyPost_ret (v := .agg (tarr 16)) (results_cell_row (fn := Try.f47) (p := 0) (ty := 66) rfl _ _ w.heap.size 66 (tarr 16) (0, 0) _ rfl (heap_alloc_new w (.cells (tarr 16) 66)) Try.underlying66 rfl (by kernel_rfl)) rfl ⟨rfl, tarr_below w 16 _⟩
/-- Half a byte more. -/
def tabA (i : Int) : Int := tabL.getD i.toNat 0
def nibS (c x : Int) : Int := Go.bits .xor .u32 (c / 16) (tabA (Go.bits .and .u32 (Go.bits .xor .u32 c x) 15))
def byteS (c x : Int) : Int := nibS (nibS c x) (x / 16)
def foldS : Int → List Int → Int
  | c, [] => c
  | c, x :: r => foldS (byteS c x) r
theorem foldS_snoc : ∀ (l : List Int) (c x : Int), foldS c (l ++ [x]) = byteS (foldS c l) x := by
  intro l
  induction l with
  | nil => intro c x; rfl
  | cons y r ih => intro c x; exact ih _ _
def U32 (c : Int) : Prop := 0 ≤ c ∧ c < 4294967296
theorem bits_u32_range (op : BinOp) (h : op = .xor ∨ op = .and) (a b : Int) : U32 (Go.bits op .u32 a b) := by
  have key : ∀ v : BitVec 32, U32 (IntKind.u32.wrap (v.toNat : Int)) := by
    intro v
    rw [IntKind.wrap_u32]
    have := v.isLt
    unfold U32
    omega
  rcases h with rfl | rfl
  · exact key _
  · exact key _
theorem and15 (a : Int) (h : U32 a) : Go.bits .and .u32 a 15 = a % 16 := by
  have := bits_mask .u32 32 (by decide) (fun n h0 h1 => by rw [IntKind.wrap_u32]; omega) 4 (by decide) a h.1 (by have := h.2; omega)
  simpa using this
theorem idx_bounds (c x : Int) : 0 ≤ Go.bits .and .u32 (Go.bits .xor .u32 c x) 15 ∧ Go.bits .and .u32 (Go.bits .xor .u32 c x) 15 < 16 := by
  rw [and15 _ (bits_u32_range .xor (.inl rfl) c x)]; omega
theorem tarr16_get (i : Nat) (h : i < 16) : (tarr 16)[i]? = some (Value.int .u32 (tabA (i : Int))) := by
  rcases lt16 h with rfl | rfl | rfl | rfl | rfl | rfl | rfl | rfl | rfl | rfl | rfl | rfl | rfl | rfl | rfl | rfl <;> rfl
theorem take_snoc_rd (l : List Int) (k : Nat) (h : k < l.length) : l.take (k + 1) = l.take k ++ [rd l (k : Int)] := by
  rw [List.take_succ_eq_append_getElem h]
  congr 2
  unfold rd
  rw [Int.toNat_natCast, List.getD_eq_getElem?_getD, List.getElem?_eq_getElem h]
  rfl
def digest_sum.f (l0 : List Int) : Option Int := if l0.all (fun x => decide (0 ≤ x) && decide (x ≤ 255)) = true then some (Go.bits .xor .u32 4294967295 (foldS 4294967295 l0)) else none
theorem tarr16_lit : tarr 16 = #[.int .u32 0, .int .u32 498536548, .int .u32 997073096, .int .u32 651767980, .int .u32 1994146192, .int .u32 1802195444, .int .u32 1303535960, .int .u32 1342533948, .int .u32 3988292384, .int .u32 4027552580, .int .u32 3604390888, .int .u32 3412177804, .int .u32 2607071920, .int .u32 2262029012, .int .u32 2685067896, .int .u32 3183342108] := rfl
set_option maxHeartbeats 1000000 in
theorem digest_sum.calls (A0 : Option Addr) (c0 : Nat) (l0 : List Int) (r : Int) (w : World) (hr0 : Kd.C (Kd.int .u8) w A0 l0.length l0) (hc0 : l0.length ≤ c0) (h : digest_sum.f l0 = some r) :
    Calls Try.prog 42 #[.slice A0 l0.length c0] w fun e w' => e = .returned (.int .u32 r) ∧ Below w.heap.size w w' := by
  unfold digest_sum.f at h
  by_cases hb : l0.all (fun x => decide (0 ≤ x) && decide (x ≤ 255)) = true
  case neg => rw [if_neg hb] at h; cases h
  rw [if_pos hb] at h
  have HBy := Aside0.mk (List.all_eq_true.1 hb)
  injection h with h
  have HR := Aside0.mk hr0
  have HH := Aside0.mk h
  have HL : l0.length ≤ 9223372036854775807 := hr0.2.1
  clear h hb hr0
  go_enter Try.func42, Try.ntmps42
  go_wp2_with (go_at_call 47; refine (table_calls _).mono ?_; rintro e w1 ⟨rfl, hb1⟩; rw [tarr16_lit])
  have HW : Aside0 (Below w.heap.size w (w1.alloc (.cells (tarr 16) 66))) := ⟨hb1.alloc (by have := hb1.size; omega) _⟩
  have HR1 := Aside0.mk (Kd.C_below HR.out HW.out)
  have HT : Aside0 (∀ i : Int, 0 ≤ i → i < 16 → (w1.alloc (.cells (tarr 16) 66)).cell? ⟨w1.heap.size, i.toNat, none⟩ = some (.int .u32 (tabA i))) := ⟨fun i h0 hi => by
    obtain ⟨n, rfl⟩ := Int.eq_ofNat_of_zero_le h0
    rw [World.cell?_alloc_new, Int.toNat_natCast]
    exact tarr16_get n (by omega)⟩
  rw [← tarr16_lit]
  clear hb1
  obtain ⟨B, hB⟩ : ∃ B : Nat, B = w1.heap.size := ⟨_, rfl⟩
  rw [← hB] at HT ⊢
  clear hB
  generalize w1.alloc (.cells (tarr 16) 66) = W2 at HW HR1 HT ⊢
  go_loop [4, 10] (fun c i => ∃ k : Nat, k ≤ l0.length ∧ i = .int .i64 k ∧ c = .int .u32 (foldS 4294967295 (l0.take k)) ∧ Aside0 (U32 (foldS 4294967295 (l0.take k)))) (fun _ i => l0.length - (intOf i).toNat)
  case atStart => exact ⟨0, Nat.zero_le _, rfl, rfl, ⟨by unfold U32; simp [foldS]⟩⟩
  case round =>
    obtain ⟨k, hk, rfl, rfl, HU⟩ := hrel
    by_cases hlt : k < l0.length
    · have hb : decide ((k : Int) < (l0.length : Int)) = true := by simp; omega
      obtain ⟨ad, e, hx⟩ := Kd.at_int HR1.out (k : Int) (by omega) (by omega)
      cases e
      rw [Int.toNat_natCast] at hx
      have hk' : (l0.take (k + 1)) = l0.take k ++ [rd l0 (k : Int)] := take_snoc_rd l0 k hlt
      have HS := Aside0.mk (foldS_snoc (l0.take k) 4294967295 (rd l0 (k : Int)))
      rw [← hk'] at HS
      clear hk'
      generalize foldS 4294967295 (l0.take k) = c at HS HU ⊢
      have hX := HBy.out (rd l0 (k : Int)) (by unfold rd; rw [Int.toNat_natCast, List.getD_eq_getElem?_getD, List.getElem?_eq_getElem hlt]; exact List.getElem_mem hlt)
      simp only [Bool.and_eq_true, decide_eq_true_eq] at hX
      obtain ⟨hX0, hX1⟩ := hX
      generalize rd l0 (k : Int) = X at hx HS hX0 hX1
      obtain ⟨p1, q1⟩ := idx_bounds c X
      obtain ⟨p2, q2⟩ := idx_bounds (nibS c X) (X / 16)
      have t1 := HT.out _ p1 q1
      have t2 := HT.out _ p2 q2
      have HN : Aside0 (U32 (foldS 4294967295 (l0.take (k + 1)))) := ⟨by rw [HS.out]; exact bits_u32_range .xor (.inl rfl) _ _⟩
      unfold nibS at p2 q2 t2
      go_wp2
      go_round
      case rel => exact ⟨k + 1, by omega, by go_num, by rw [HS.out]; rfl, HN⟩
      case measure => simp [intOf]; omega
    · have hb : decide ((k : Int) < (l0.length : Int)) = false := by simp; omega
      have hkl : l0.take k = l0 := List.take_of_length_le (by omega)
      rw [hkl]
      clear hkl
      go_wp2
      go_ret
      exact ⟨by rw [← HH.out]; rfl, HW.out⟩

-- NOT PRINTED: function 48 (slices_Grow_byte_byte)

end Go.Proofs.Ytaappifdpbgchaa.PA
