-- Written by wip/pp.py of this repository, on the kit's print program. Not trusted: Lean checks it.
import Derived.Test.YtjicigagejihhaaPAx0
import Derived.Test.YtjicigagejihhaaPAx9
import Derived.Test.YtjicigagejihhaaPAx11
import Derived.Test.YtjicigagejihhaaPAx12
import Derived.Test.YtjicigagejihhaaPAx14
import Derived.Test.YtjicigagejihhaaPAx26
import Derived.Test.YtjicigagejihhaaPAx29
namespace Go.Proofs.Ytjicigagejihhaa.PA
open Go.RowKit Go.Proofs.YtjicigagejihhaaW.PrintWords Go.Proofs.YtjicigagejihhaaW.PrintLast Go.Proofs.YtjicigagejihhaaW.PrintMore
attribute [local go_sem] max2_int min2_int max_two min_two max_three min_three max_four min_four   -- for this text's walks alone
set_option linter.unusedVariables false
set_option linter.unusedSimpArgs false

/-! ### mapsheetslaw24_DeviceLoses: function 7 -/
def mapsheetslaw24_DeviceLoses.j0 : Nat → Int → List (S55) → List (S55) → Int → Bool → Option (Bool)
  | 0, _, _, _, _, _ => none
  | k + 1, x0, x1, x2, x3, x26 => if x26 = true then ((mapsheetslaw24_awake.f).bind fun t481 => (some t481)) else ((device_New.f k x0).bind fun bt482 => (if bt482.2.2.2.2 = 0 then ((mapsheetslaw24_written.f k bt482.1 bt482.2.1 bt482.2.2.1 bt482.2.2.2.1 x1).bind fun bt493 => ((device_Flush.f k bt493.1 bt493.2.1 bt493.2.2.1 bt493.2.2.2.1).bind fun bt503 => ((device_Arm.f k bt503.1 bt503.2.1 bt503.2.2.1 bt503.2.2.2.1 x3).bind fun bt512 => ((mapsheetslaw24_written.f k bt512.1 bt512.2.1 bt512.2.2.1 bt512.2.2.2 x2).bind fun bt520 => (if bt493.2.2.2.2.2 = 0 then (if bt503.2.2.2.2 = 0 then ((device_Crash.f k bt520.1 bt520.2.1 bt520.2.2.1 bt520.2.2.2.1 ([] : List Int)).bind fun bt531 => ((mapsheetslaw24_same.f k bt503.1 bt503.2.1 bt503.2.2.1 bt503.2.2.2.1 bt531.1 bt531.2.1 bt531.2.2.1 bt531.2.2.2 (-1)).bind fun t539 => (if t539 = true then ((mapsheetslaw24_awake.f).bind fun t540 => (some t540)) else (none)))) else (none)) else (none)))))) else ((mapsheetslaw24_awake.f).bind fun t492 => (some t492))))
def mapsheetslaw24_DeviceLoses.f (k : Nat) (a0 : Int) (l1 : List (S55)) (l2 : List (S55)) (a3 : Int) : Option (Bool) := if a0 > 30 then (mapsheetslaw24_DeviceLoses.j0 k a0 l1 l2 a3 true) else (if (l1.length : Int) > 30 then (mapsheetslaw24_DeviceLoses.j0 k a0 l1 l2 a3 true) else (mapsheetslaw24_DeviceLoses.j0 k a0 l1 l2 a3 (decide ((l2.length : Int) > 30))))
theorem mapsheetslaw24_DeviceLoses.mono_l : ∀ k, (∀ y0 y1 y2 y3 y4, LeO (mapsheetslaw24_DeviceLoses.j0 k y0 y1 y2 y3 y4) (mapsheetslaw24_DeviceLoses.j0 (k + 1) y0 y1 y2 y3 y4))
  | 0 => fun _ _ _ _ _ r h => by simp [mapsheetslaw24_DeviceLoses.j0] at h
  | k + 1 => by
    have ih0 := mapsheetslaw24_DeviceLoses.mono_l k
    · intro y0 y1 y2 y3 y4
      unfold mapsheetslaw24_DeviceLoses.j0
      repeat' first
      | (with_reducible exact ih0 _ _ _ _ _)
      | (with_reducible exact device_Arm.mono _ _ _ _ _ _)
      | (with_reducible exact device_Crash.mono _ _ _ _ _ _)
      | (with_reducible exact device_Flush.mono _ _ _ _ _)
      | (with_reducible exact device_New.mono _ _)
      | (with_reducible exact mapsheetslaw24_same.mono _ _ _ _ _ _ _ _ _ _)
      | (with_reducible exact mapsheetslaw24_written.mono _ _ _ _ _ _)
      | (with_reducible exact LeO.refl _)
      | (with_reducible exact LeO.none _)
      | (with_reducible refine LeO.ite ?_ ?_)
      | (with_reducible refine LeO.bind ?_ (fun _ => ?_))
      | exact ih0 _ _ _ _ _
      | exact device_Arm.mono _ _ _ _ _ _
      | exact device_Crash.mono _ _ _ _ _ _
      | exact device_Flush.mono _ _ _ _ _
      | exact device_New.mono _ _
      | exact mapsheetslaw24_same.mono _ _ _ _ _ _ _ _ _ _
      | exact mapsheetslaw24_written.mono _ _ _ _ _ _
      | exact LeO.none _
      | refine LeO.ite ?_ ?_
      | refine LeO.bind ?_ (fun _ => ?_)
theorem mapsheetslaw24_DeviceLoses.mono : ∀ a0 a1 a2 a3 k, LeO (mapsheetslaw24_DeviceLoses.f k a0 a1 a2 a3) (mapsheetslaw24_DeviceLoses.f (k + 1) a0 a1 a2 a3) := by
  intro a0 a1 a2 a3 k
  have ih0 := mapsheetslaw24_DeviceLoses.mono_l k
  unfold mapsheetslaw24_DeviceLoses.f
  repeat' first
      | (with_reducible exact ih0 _ _ _ _ _)
      | (with_reducible exact device_Arm.mono _ _ _ _ _ _)
      | (with_reducible exact device_Crash.mono _ _ _ _ _ _)
      | (with_reducible exact device_Flush.mono _ _ _ _ _)
      | (with_reducible exact device_New.mono _ _)
      | (with_reducible exact mapsheetslaw24_same.mono _ _ _ _ _ _ _ _ _ _)
      | (with_reducible exact mapsheetslaw24_written.mono _ _ _ _ _ _)
      | (with_reducible exact LeO.refl _)
      | (with_reducible exact LeO.none _)
      | (with_reducible refine LeO.ite ?_ ?_)
      | (with_reducible refine LeO.bind ?_ (fun _ => ?_))
      | exact ih0 _ _ _ _ _
      | exact device_Arm.mono _ _ _ _ _ _
      | exact device_Crash.mono _ _ _ _ _ _
      | exact device_Flush.mono _ _ _ _ _
      | exact device_New.mono _ _
      | exact mapsheetslaw24_same.mono _ _ _ _ _ _ _ _ _ _
      | exact mapsheetslaw24_written.mono _ _ _ _ _ _
      | exact LeO.none _
      | refine LeO.ite ?_ ?_
      | refine LeO.bind ?_ (fun _ => ?_)
def mapsheetslaw24_DeviceLoses.T9 : Bool × List (List Nat × List Nat) := (true, [([], []), ([0], [0]), ([1], [1]), ([2], [2]), ([3, 2], [2, 3]), ([2, 4], [2, 4]), ([5, 2], [5]), ([6], [6]), ([6], [6]), ([8, 6, 6], [6, 8]), ([7, 9, 9, 6], [6, 7, 9]), ([6, 10], [6, 10]), ([11, 10], [11]), ([12, 12], [12]), ([12, 13], [12, 13]), ([14, 13, 0, 1, 2, 3, 4, 5, 6, 7, 8, 9, 10, 11, 12, 13, 14], [14])])
def mapsheetslaw24_DeviceLoses.B9 : List Nat := [0, 1, 3, 7, 15, 31, 63, 127, 127, 383, 1023, 2047, 4095, 8191, 16383, 32767]
theorem mapsheetslaw24_DeviceLoses.tab9 : rtab .any (opsOf Try.f7 9) = mapsheetslaw24_DeviceLoses.T9 := by kernel_rfl
theorem mapsheetslaw24_DeviceLoses.bits9 : waitsOk mapsheetslaw24_DeviceLoses.T9.2 mapsheetslaw24_DeviceLoses.B9 = true := by kernel_rfl
set_option maxHeartbeats 8000000 in
set_option maxRecDepth 100000 in
theorem mapsheetslaw24_DeviceLoses.calls (k : Nat) (a0 : Int) (A1 : Option Addr) (c1 : Nat) (l1 : List (S55)) (A2 : Option Addr) (c2 : Nat) (l2 : List (S55)) (a3 : Int) (r : Bool) (w : World) (hr1 : Kd.C k55 w A1 l1.length l1) (hc1 : l1.length ≤ c1) (hr2 : Kd.C k55 w A2 l2.length l2) (hc2 : l2.length ≤ c2) (h : mapsheetslaw24_DeviceLoses.f k a0 l1 l2 a3 = some r) :
    Calls Try.prog 7 #[.int .i64 a0, .slice A1 l1.length c1, .slice A2 l2.length c2, .int .i64 a3] w fun e w' => e = .returned (.bool r) ∧ Below w.heap.size w w' := by
  have hu25 := Try.underlying25
  have HR1 := Aside0.mk hr1
  have HC1 := Aside0.mk hc1
  clear hr1 hc1
  have HR2 := Aside0.mk hr2
  have HC2 := Aside0.mk hc2
  clear hr2 hc2
  have HB := Aside0.mk (Below.refl w.heap.size w)
  have H : (if a0 > 30 then (mapsheetslaw24_DeviceLoses.j0 k a0 l1 l2 a3 true) else (if (l1.length : Int) > 30 then (mapsheetslaw24_DeviceLoses.j0 k a0 l1 l2 a3 true) else (mapsheetslaw24_DeviceLoses.j0 k a0 l1 l2 a3 (decide ((l2.length : Int) > 30))))) = some r := h
  clear h
  have HC5 := Aside0.mk H
  clear H
  go_enter Try.func7, Try.ntmps7
  go_upto_region 1 with (fail)
  go_cut [26] (fun v26 wc => ∃ (kq : Nat) (x26_4 : Bool), v26 = .bool x26_4 ∧ Aside0 (mapsheetslaw24_DeviceLoses.j0 kq a0 l1 l2 a3 x26_4 = some r) ∧ Aside0 (kq ≤ k) ∧ Aside0 (Below w.heap.size w wc))
  case first =>
    have H := HC5.out
    clear HC5
    by_cases c6 : a0 > 30
    · rw [if_pos c6] at H
      have c6b0 : decide (30 < a0) = true := decide_eq_true c6
      clear c6
      (first | rw [c6b0] | (simp only [i64_w, i32_w]; rw [c6b0]) | skip)
      have H' := Aside0.mk H
      clear H
      go_wp2
      go_meet
      case rel => exact ⟨_, (true), (by first | rfl | (simp; done) | (simp [*]; done)), H', ⟨by first | omega | exact Nat.le_refl _⟩, ⟨by repeat (first | (with_reducible first | exact HB.out | apply below_alloc | apply pw_below_drewN | apply below_drew1) | exact HB.out)⟩⟩
    · rw [if_neg c6] at H
      have c6b0 : decide (30 < a0) = false := decide_eq_false c6
      clear c6
      (first | rw [c6b0] | (simp only [i64_w, i32_w]; rw [c6b0]) | skip)
      by_cases c7 : (l1.length : Int) > 30
      · rw [if_pos c7] at H
        have c7b0 : decide (30 < (l1.length : Int)) = true := decide_eq_true c7
        have c7b1 : decide (30 < l1.length) = true := decide_eq_true (by omega)
        clear c7
        have H' := Aside0.mk H
        clear H
        go_wp2
        go_meet
        case rel => exact ⟨_, (true), (by first | rfl | (simp; done) | (simp [*]; done)), H', ⟨by first | omega | exact Nat.le_refl _⟩, ⟨by repeat (first | (with_reducible first | exact HB.out | apply below_alloc | apply pw_below_drewN | apply below_drew1) | exact HB.out)⟩⟩
      · rw [if_neg c7] at H
        have c7b0 : decide (30 < (l1.length : Int)) = false := decide_eq_false c7
        have c7b1 : decide (30 < l1.length) = false := decide_eq_false (by omega)
        clear c7
        have H' := Aside0.mk H
        clear H
        go_wp2
        go_meet
        case rel => exact ⟨_, (decide ((l2.length : Int) > 30)), (by first | rfl | (simp; done) | (simp [*]; done)), H', ⟨by first | omega | exact Nat.le_refl _⟩, ⟨by repeat (first | (with_reducible first | exact HB.out | apply below_alloc | apply pw_below_drewN | apply below_drew1) | exact HB.out)⟩⟩
  case rest =>
    clear HC5
    try clear c1
    try clear c2
    try clear p2
    try clear c6
    try clear c6b0
    try clear c7
    try clear c7b0
    try clear c7b1
    obtain ⟨kq, x26_4, rfl, HA, HJ4, HB⟩ := hcut
    cases kq with
    | zero => exact absurd HA.out (by simp [mapsheetslaw24_DeviceLoses.j0])
    | succ kj4 =>
      have H := HA.out
      clear HA
      simp only [mapsheetslaw24_DeviceLoses.j0] at H
      by_cases c8 : x26_4 = true
      · subst c8
        have H1 : ((mapsheetslaw24_awake.f).bind fun t481 => (some t481)) = some r := by rw [if_pos rfl] at H; exact H
        clear H
        have H := H1
        clear H1
        replace H := Option.bind_eq_some_iff.mp H
        obtain ⟨t481, A90, H⟩ := H
        replace H : (some t481) = some r := H
        have A9 := Aside0.mk A90
        clear A90
        obtain rfl := Option.some.inj H
        go_wp2_with (first | ((with_reducible refine gate_callee (f := 12) rfl ?_); refine goesL_ (some 27) rfl rfl Try.func12 (by kernel_rfl) rfl #[] rfl (by (try simp only [List.map_toArray, List.map_cons, List.map_nil]); first | done | rfl | (simp only [List.length_drop, List.length_take]; rfl)) ?_; (with_reducible refine (mapsheetslaw24_awake.calls  t481 _ A9.out).mono ?_); rintro e w10 ⟨rfl, hb⟩; refine ⟨_, rfl, ?_⟩; have n0_ := Aside0.mk (below_step (by repeat (first | (with_reducible first | exact HB.out | apply below_alloc | apply pw_below_drewN | apply below_drew1) | exact HB.out)) hb); clear HB; have HB := n0_; clear n0_; (try clear hb); (try clear hb2); (try clear hk); (try clear hi)))
        go_ret
        exact ⟨by first | rfl | (simp [errW_none, errW_some] <;> rfl) | (simp [*, errW_none, errW_some] <;> rfl), by repeat (first | (with_reducible first | exact HB.out | apply below_alloc | apply pw_below_drewN | apply below_drew1) | exact HB.out)⟩
      · replace c8 := Bool.eq_false_iff.mpr c8
        subst c8
        have H1 : ((device_New.f kj4 a0).bind fun bt482 => (if bt482.2.2.2.2 = 0 then ((mapsheetslaw24_written.f kj4 bt482.1 bt482.2.1 bt482.2.2.1 bt482.2.2.2.1 l1).bind fun bt493 => ((device_Flush.f kj4 bt493.1 bt493.2.1 bt493.2.2.1 bt493.2.2.2.1).bind fun bt503 => ((device_Arm.f kj4 bt503.1 bt503.2.1 bt503.2.2.1 bt503.2.2.2.1 a3).bind fun bt512 => ((mapsheetslaw24_written.f kj4 bt512.1 bt512.2.1 bt512.2.2.1 bt512.2.2.2 l2).bind fun bt520 => (if bt493.2.2.2.2.2 = 0 then (if bt503.2.2.2.2 = 0 then ((device_Crash.f kj4 bt520.1 bt520.2.1 bt520.2.2.1 bt520.2.2.2.1 ([] : List Int)).bind fun bt531 => ((mapsheetslaw24_same.f kj4 bt503.1 bt503.2.1 bt503.2.2.1 bt503.2.2.2.1 bt531.1 bt531.2.1 bt531.2.2.1 bt531.2.2.2 (-1)).bind fun t539 => (if t539 = true then ((mapsheetslaw24_awake.f).bind fun t540 => (some t540)) else (none)))) else (none)) else (none)))))) else ((mapsheetslaw24_awake.f).bind fun t492 => (some t492)))) = some r := by rw [if_neg (show ¬ (false = true) by decide)] at H; exact H
        clear H
        have H := H1
        clear H1
        replace H := Option.bind_eq_some_iff.mp H
        obtain ⟨⟨t482, t485, t488, t489, t490⟩, A110, H⟩ := H
        replace H : (if t490 = 0 then ((mapsheetslaw24_written.f kj4 t482 t485 t488 t489 l1).bind fun bt493 => ((device_Flush.f kj4 bt493.1 bt493.2.1 bt493.2.2.1 bt493.2.2.2.1).bind fun bt503 => ((device_Arm.f kj4 bt503.1 bt503.2.1 bt503.2.2.1 bt503.2.2.2.1 a3).bind fun bt512 => ((mapsheetslaw24_written.f kj4 bt512.1 bt512.2.1 bt512.2.2.1 bt512.2.2.2 l2).bind fun bt520 => (if bt493.2.2.2.2.2 = 0 then (if bt503.2.2.2.2 = 0 then ((device_Crash.f kj4 bt520.1 bt520.2.1 bt520.2.2.1 bt520.2.2.2.1 ([] : List Int)).bind fun bt531 => ((mapsheetslaw24_same.f kj4 bt503.1 bt503.2.1 bt503.2.2.1 bt503.2.2.2.1 bt531.1 bt531.2.1 bt531.2.2.1 bt531.2.2.2 (-1)).bind fun t539 => (if t539 = true then ((mapsheetslaw24_awake.f).bind fun t540 => (some t540)) else (none)))) else (none)) else (none)))))) else ((mapsheetslaw24_awake.f).bind fun t492 => (some t492))) = some r := H
        have A11 := Aside0.mk A110
        clear A110
        by_cases c12 : t490 = 0
        · rw [if_pos c12] at H
          have c12b0 : (t490 == 0) = true := beq_iff_eq.mpr c12
          have c12b1 : (t490 != 0) = false := bne_eq_false_iff_eq.mpr c12
          clear c12
          replace H := Option.bind_eq_some_iff.mp H
          obtain ⟨⟨t493, t496, t499, t500, t501, t502⟩, A130, H⟩ := H
          replace H : ((device_Flush.f kj4 t493 t496 t499 t500).bind fun bt503 => ((device_Arm.f kj4 bt503.1 bt503.2.1 bt503.2.2.1 bt503.2.2.2.1 a3).bind fun bt512 => ((mapsheetslaw24_written.f kj4 bt512.1 bt512.2.1 bt512.2.2.1 bt512.2.2.2 l2).bind fun bt520 => (if t502 = 0 then (if bt503.2.2.2.2 = 0 then ((device_Crash.f kj4 bt520.1 bt520.2.1 bt520.2.2.1 bt520.2.2.2.1 ([] : List Int)).bind fun bt531 => ((mapsheetslaw24_same.f kj4 bt503.1 bt503.2.1 bt503.2.2.1 bt503.2.2.2.1 bt531.1 bt531.2.1 bt531.2.2.1 bt531.2.2.2 (-1)).bind fun t539 => (if t539 = true then ((mapsheetslaw24_awake.f).bind fun t540 => (some t540)) else (none)))) else (none)) else (none))))) = some r := H
          have A13 := Aside0.mk A130
          clear A130
          replace H := Option.bind_eq_some_iff.mp H
          obtain ⟨⟨t503, t506, t509, t510, t511⟩, A140, H⟩ := H
          replace H : ((device_Arm.f kj4 t503 t506 t509 t510 a3).bind fun bt512 => ((mapsheetslaw24_written.f kj4 bt512.1 bt512.2.1 bt512.2.2.1 bt512.2.2.2 l2).bind fun bt520 => (if t502 = 0 then (if t511 = 0 then ((device_Crash.f kj4 bt520.1 bt520.2.1 bt520.2.2.1 bt520.2.2.2.1 ([] : List Int)).bind fun bt531 => ((mapsheetslaw24_same.f kj4 t503 t506 t509 t510 bt531.1 bt531.2.1 bt531.2.2.1 bt531.2.2.2 (-1)).bind fun t539 => (if t539 = true then ((mapsheetslaw24_awake.f).bind fun t540 => (some t540)) else (none)))) else (none)) else (none)))) = some r := H
          have A14 := Aside0.mk A140
          clear A140
          replace H := Option.bind_eq_some_iff.mp H
          obtain ⟨⟨t512, t515, t518, t519⟩, A150, H⟩ := H
          replace H : ((mapsheetslaw24_written.f kj4 t512 t515 t518 t519 l2).bind fun bt520 => (if t502 = 0 then (if t511 = 0 then ((device_Crash.f kj4 bt520.1 bt520.2.1 bt520.2.2.1 bt520.2.2.2.1 ([] : List Int)).bind fun bt531 => ((mapsheetslaw24_same.f kj4 t503 t506 t509 t510 bt531.1 bt531.2.1 bt531.2.2.1 bt531.2.2.2 (-1)).bind fun t539 => (if t539 = true then ((mapsheetslaw24_awake.f).bind fun t540 => (some t540)) else (none)))) else (none)) else (none))) = some r := H
          have A15 := Aside0.mk A150
          clear A150
          replace H := Option.bind_eq_some_iff.mp H
          obtain ⟨⟨t520, t523, t526, t527, t528, t529⟩, A160, H⟩ := H
          replace H : (if t502 = 0 then (if t511 = 0 then ((device_Crash.f kj4 t520 t523 t526 t527 ([] : List Int)).bind fun bt531 => ((mapsheetslaw24_same.f kj4 t503 t506 t509 t510 bt531.1 bt531.2.1 bt531.2.2.1 bt531.2.2.2 (-1)).bind fun t539 => (if t539 = true then ((mapsheetslaw24_awake.f).bind fun t540 => (some t540)) else (none)))) else (none)) else (none)) = some r := H
          have A16 := Aside0.mk A160
          clear A160
          by_cases c17 : t502 = 0
          · rw [if_pos c17] at H
            have c17b0 : (t502 == 0) = true := beq_iff_eq.mpr c17
            have c17b1 : (t502 != 0) = false := bne_eq_false_iff_eq.mpr c17
            clear c17
            by_cases c18 : t511 = 0
            · rw [if_pos c18] at H
              have c18b0 : (t511 == 0) = true := beq_iff_eq.mpr c18
              have c18b1 : (t511 != 0) = false := bne_eq_false_iff_eq.mpr c18
              clear c18
              replace H := Option.bind_eq_some_iff.mp H
              obtain ⟨⟨t531, t534, t537, t538⟩, A190, H⟩ := H
              replace H : ((mapsheetslaw24_same.f kj4 t503 t506 t509 t510 t531 t534 t537 t538 (-1)).bind fun t539 => (if t539 = true then ((mapsheetslaw24_awake.f).bind fun t540 => (some t540)) else (none))) = some r := H
              have A19 := Aside0.mk A190
              clear A190
              replace H := Option.bind_eq_some_iff.mp H
              obtain ⟨t539, A200, H⟩ := H
              replace H : (if t539 = true then ((mapsheetslaw24_awake.f).bind fun t540 => (some t540)) else (none)) = some r := H
              have A20 := Aside0.mk A200
              clear A200
              by_cases c21 : t539 = true
              · subst c21
                have H1 : ((mapsheetslaw24_awake.f).bind fun t540 => (some t540)) = some r := by rw [if_pos rfl] at H; exact H
                clear H
                have H := H1
                clear H1
                replace H := Option.bind_eq_some_iff.mp H
                obtain ⟨t540, A220, H⟩ := H
                replace H : (some t540) = some r := H
                have A22 := Aside0.mk A220
                clear A220
                obtain rfl := Option.some.inj H
                try go_wp2_with (first | ((with_reducible refine gate_callee (f := 19) rfl ?_); refine goesL_ (some 30) rfl rfl Try.func19 (by kernel_rfl) rfl #[.int .i64 a0] rfl (by (try simp only [List.map_toArray, List.map_cons, List.map_nil]); first | done | rfl | (simp only [List.length_drop, List.length_take]; rfl)) ?_; (with_reducible refine (device_New.calls kj4 a0 t482 t485 t488 t489 t490 _ A11.out).mono ?_); rintro e w23 ⟨v483, v486, rfl, ho0, ho1, hb⟩; refine ⟨_, rfl, ?_⟩; have n0_ := Aside0.mk (Kd.N_lower (Kd.N_mono (ok' := fun k_ => some k_ ≠ (v486 : Value).ownBlock) (Kd.S_N (Kd.S_bound (Kd.S_apart' ho0 (Kd.S_typed ho1) (by decide)))) (fun k_ hk_ => hk_.1.2)) (below_size (by repeat (first | (with_reducible first | exact HB.out | apply below_alloc | apply pw_below_drewN | apply below_drew1) | exact HB.out)))); have n1_ := Aside0.mk (Kd.N_lower (Kd.N_mono (ok' := fun k_ => some k_ ≠ (v483 : Value).ownBlock) (Kd.S_N (Kd.S_bound (Kd.S_apart' ho1 (Kd.S_typed ho0) (by decide)))) (fun k_ hk_ => hk_.1.2)) (below_size (by repeat (first | (with_reducible first | exact HB.out | apply below_alloc | apply pw_below_drewN | apply below_drew1) | exact HB.out)))); have n2_ := Aside0.mk (below_step (by repeat (first | (with_reducible first | exact HB.out | apply below_alloc | apply pw_below_drewN | apply below_drew1) | exact HB.out)) hb); clear HB; have HO484 := n0_; have HO487 := n1_; have HB := n2_; clear n0_ n1_ n2_; (try clear hb); (try clear hb2); (try clear hk); (try clear hi); (try clear ho0); (try clear ho1)) | ((with_reducible refine gate_dst (N := 9) rfl ?_); (try (refine gate_guard (by rfl) ?_; dsimp only)); refine box_event ?hg (N := 9) ?hd (cs := #[.slice none 0 0, .slice none 0 0, .int .i64 0, .bool false]) (t := 25) ?hr ?_; (case hd => rfl); (case hg => rfl); (case hr => first | (go_simp; done) | (go_simp; rfl)); intro gb491 hg w24 hbox hb; have n0_ := Aside0.mk (Kd.N_below (Kd.N_elderB (by (with_reducible repeat (first | apply Kd.N_alloc | apply Kd.N_drewN | apply Kd.N_drew)); exact HO484.out) gb491 (Nat.le_of_eq hg.symm)) hb); have n1_ := Aside0.mk (Kd.N_below (Kd.N_elderB (by (with_reducible repeat (first | apply Kd.N_alloc | apply Kd.N_drewN | apply Kd.N_drew)); exact HO487.out) gb491 (Nat.le_of_eq hg.symm)) hb); have n2_ := Aside0.mk (below_step (by repeat (first | (with_reducible first | exact HB.out | apply below_alloc | apply pw_below_drewN | apply below_drew1) | exact HB.out)) hb); have n3_ := Aside0.mk (hbox); have n4_ := Aside0.mk ((by rw [hg]; exact (below_size (by repeat (first | (with_reducible first | exact HB.out | apply below_alloc | apply pw_below_drewN | apply below_drew1) | exact HB.out))) : w.heap.size ≤ gb491)); have n5_ := Aside0.mk ((by rw [hg]; exact (below_size (by repeat (first | (with_reducible first | exact HB.out | apply below_alloc | apply pw_below_drewN | apply below_drew1) | exact HB.out))) : w.heap.size ≤ gb491)); clear HO484; clear HO487; clear HB; have HO484 := n0_; have HO487 := n1_; have HB := n2_; have BK491 := n3_; have GW491 := n4_; have GE491 := n5_; clear n0_ n1_ n2_ n3_ n4_ n5_; clear hb hbox hg; obtain ⟨Ao25, co25, eo25⟩ := Kd.N_slice HO484.out; subst eo25; have hcz26_0 : w24.cell? ⟨gb491, 0, none⟩ = some (.slice none 0 0) := (blk_cell BK491.out 0).trans rfl; have hcz26_1 : w24.cell? ⟨gb491, 1, none⟩ = some (.slice none 0 0) := (blk_cell BK491.out 1).trans rfl; have hcz26_2 : w24.cell? ⟨gb491, 2, none⟩ = some (.int .i64 0) := (blk_cell BK491.out 2).trans rfl; have hcz26_3 : w24.cell? ⟨gb491, 3, none⟩ = some (.bool false) := (blk_cell BK491.out 3).trans rfl; have hfz26_0 := blk_frozen BK491.out 0; have hfz26_1 := blk_frozen BK491.out 1; have hfz26_2 := blk_frozen BK491.out 2; have hfz26_3 := blk_frozen BK491.out 3; obtain ⟨Ao27, co27, eo27⟩ := Kd.N_slice HO487.out; subst eo27) | ((with_reducible refine gate_store (t := 25) (p := 9) rfl ?_); refine store_event (t := 25) (p := 9) (v := ?vo_w28) (w1 := ((((w24.setCell ⟨gb491, 0, none⟩ (.slice Ao25 t482.length co25)).setCell ⟨gb491, 1, none⟩ (.slice Ao27 t485.length co27)).setCell ⟨gb491, 2, none⟩ (.int .i64 t488)).setCell ⟨gb491, 3, none⟩ (.bool t489))) ?hg ?ho ?hn ?hr ?_; (case ho => rfl); (case hg => rfl); (case hn => rfl); (case hr => first | (go_simp; done) | (go_simp; rfl)); intro w28 hw; have n0_ : Aside0 (Kd.N (Kd.slice 5 (Kd.int .u8)) 26 w28 w.heap.size (fun k_ => some k_ ≠ (.slice Ao27 t485.length co27 : Value).ownBlock ∧ k_ ≠ gb491) (.slice Ao25 t482.length co25) t482) := ⟨(by rw [hw]; exact (by (with_reducible repeat (first | apply Kd.N_alloc | apply Kd.N_drewN | apply Kd.N_drew)); exact Kd.N_mono (Kd.N_far (p := ⟨gb491, 3, none⟩) (Kd.N_far (p := ⟨gb491, 2, none⟩) (Kd.N_far (p := ⟨gb491, 1, none⟩) (Kd.N_far (p := ⟨gb491, 0, none⟩) (Kd.N_mono HO484.out (fun k_ hk => (⟨hk, hk.2⟩ : _ ∧ k_ ≠ gb491))) (fun _ hk => hk.2) (.slice Ao25 t482.length co25)) (fun _ hk => hk.2) (.slice Ao27 t485.length co27)) (fun _ hk => hk.2) (.int .i64 t488)) (fun _ hk => hk.2) (.bool t489)) (fun _ hk => ⟨hk.1.1, hk.1.2⟩)))⟩; have n1_ : Aside0 (Kd.N k53 53 w28 w.heap.size (fun k_ => some k_ ≠ (.slice Ao25 t482.length co25 : Value).ownBlock ∧ k_ ≠ gb491) (.slice Ao27 t485.length co27) t485) := ⟨(by rw [hw]; exact (by (with_reducible repeat (first | apply Kd.N_alloc | apply Kd.N_drewN | apply Kd.N_drew)); exact Kd.N_mono (Kd.N_far (p := ⟨gb491, 3, none⟩) (Kd.N_far (p := ⟨gb491, 2, none⟩) (Kd.N_far (p := ⟨gb491, 1, none⟩) (Kd.N_far (p := ⟨gb491, 0, none⟩) (Kd.N_mono HO487.out (fun k_ hk => (⟨hk, hk.2⟩ : _ ∧ k_ ≠ gb491))) (fun _ hk => hk.2) (.slice Ao25 t482.length co25)) (fun _ hk => hk.2) (.slice Ao27 t485.length co27)) (fun _ hk => hk.2) (.int .i64 t488)) (fun _ hk => hk.2) (.bool t489)) (fun _ hk => ⟨hk.1.1, hk.1.2⟩)))⟩; have n2_ : Aside0 (w28.heap[gb491]? = some (.cells #[.slice Ao25 t482.length co25, .slice Ao27 t485.length co27, .int .i64 t488, .bool t489] 25 (0, 0))) := ⟨(by rw [hw]; exact (by (with_reducible repeat (first | refine blk_drewN ?_ _ | refine blk_drew ?_ | refine blk_alloc ?_ _)); refine blk_put (cs := #[.slice Ao25 t482.length co25, .slice Ao27 t485.length co27, .int .i64 t488, .bool false]) ?_ 3 _ rfl; (with_reducible repeat (first | refine blk_drewN ?_ _ | refine blk_drew ?_ | refine blk_alloc ?_ _)); refine blk_put (cs := #[.slice Ao25 t482.length co25, .slice Ao27 t485.length co27, .int .i64 0, .bool false]) ?_ 2 _ rfl; (with_reducible repeat (first | refine blk_drewN ?_ _ | refine blk_drew ?_ | refine blk_alloc ?_ _)); refine blk_put (cs := #[.slice Ao25 t482.length co25, .slice none 0 0, .int .i64 0, .bool false]) ?_ 1 _ rfl; (with_reducible repeat (first | refine blk_drewN ?_ _ | refine blk_drew ?_ | refine blk_alloc ?_ _)); refine blk_put (cs := #[.slice none 0 0, .slice none 0 0, .int .i64 0, .bool false]) ?_ 0 _ rfl; (with_reducible repeat (first | refine blk_drewN ?_ _ | refine blk_drew ?_ | refine blk_alloc ?_ _)); exact BK491.out))⟩; have n3_ : Aside0 (Below w.heap.size w w28) := ⟨(by rw [hw]; exact (by repeat (first | (with_reducible first | exact HB.out | apply below_alloc | apply pw_below_drewN | apply below_drew1 | refine below_set ?_ GE491.out) | exact HB.out)))⟩; clear hw; clear HO484; clear HO487; clear BK491; clear HB; have HO484 := n0_; have HO487 := n1_; have BK491 := n2_; have HB := n3_; clear n0_ n1_ n2_ n3_; have hcz29_0 : w28.cell? ⟨gb491, 0, none⟩ = some (.slice Ao25 t482.length co25) := (blk_cell BK491.out 0).trans rfl; have hcz29_1 : w28.cell? ⟨gb491, 1, none⟩ = some (.slice Ao27 t485.length co27) := (blk_cell BK491.out 1).trans rfl; have hcz29_2 : w28.cell? ⟨gb491, 2, none⟩ = some (.int .i64 t488) := (blk_cell BK491.out 2).trans rfl; have hcz29_3 : w28.cell? ⟨gb491, 3, none⟩ = some (.bool t489) := (blk_cell BK491.out 3).trans rfl; have hfz29_0 := blk_frozen BK491.out 0; have hfz29_1 := blk_frozen BK491.out 1; have hfz29_2 := blk_frozen BK491.out 2; have hfz29_3 := blk_frozen BK491.out 3) | ((with_reducible refine gate_callee (f := 29) rfl ?_); refine goesL_ (some 39) rfl rfl Try.func29 (by kernel_rfl) rfl #[.agg #[.slice Ao25 t482.length co25, .slice Ao27 t485.length co27, .int .i64 t488, .bool t489], .slice A1 l1.length c1] rfl (by (try simp only [List.map_toArray, List.map_cons, List.map_nil]); first | done | rfl | (simp only [List.length_drop, List.length_take]; rfl)) ?_; (with_reducible refine (mapsheetslaw24_written.calls kj4 (fun k_ => (some k_ ≠ (.slice Ao27 t485.length co27 : Value).ownBlock ∧ k_ ≠ gb491)) _ _ t482 (fun k_ => (some k_ ≠ (.slice Ao25 t482.length co25 : Value).ownBlock ∧ k_ ≠ gb491)) _ _ t485 t488 t489 _ _ l1 t493 t496 t499 t500 t501 t502 _ ?side1 ?side2 ?side3 ?side4 A13.out).mono ?_); (case side1 => exact Kd.N_V (HO484.out)); (case side2 => exact Kd.N_V (HO487.out)); (case side3 => repeat (first | exact (Kd.C_below HR1.out HB.out) | (with_reducible refine Kd.C_alloc ?_ _) | (with_reducible refine Kd.C_drewN ?_ _) | (with_reducible refine Kd.C_drew ?_))); (case side4 => exact HC1.out); rintro e w30 ⟨v494, v497, rfl, ho0, ho1, hb⟩; refine ⟨_, rfl, ?_⟩; have n0_ := Aside0.mk (Kd.N_below (by (with_reducible repeat (first | apply Kd.N_alloc | apply Kd.N_drewN | apply Kd.N_drew)); exact HO484.out) hb); have n1_ := Aside0.mk (Kd.N_below (by (with_reducible repeat (first | apply Kd.N_alloc | apply Kd.N_drewN | apply Kd.N_drew)); exact HO487.out) hb); have n2_ := Aside0.mk (Kd.V_lower (Kd.V_mono (ok' := fun k_ => k_ ≠ gb491) ho0 (fun k_ hk_ => Or.elim hk_ (fun hs_ => Or.elim hs_ (fun hs_ => hs_.2) (fun hs_ => hs_.2)) (fun hn_ => (Kd.freshB (g := gb491) (o := .cells #[.slice Ao25 t482.length co25, .slice Ao27 t485.length co27, .int .i64 t488, .bool t489] 25 (0, 0)) (by (with_reducible repeat (first | refine blk_drewN ?_ _ | refine blk_drew ?_ | refine blk_alloc ?_ _)); exact BK491.out) k_ hn_)))) (below_size (by repeat (first | (with_reducible first | exact HB.out | apply below_alloc | apply pw_below_drewN | apply below_drew1 | refine below_set ?_ GE491.out) | exact HB.out)))); have n3_ := Aside0.mk (Kd.V_lower (Kd.V_mono (ok' := fun k_ => k_ ≠ gb491) ho1 (fun k_ hk_ => Or.elim hk_ (fun hs_ => Or.elim hs_ (fun hs_ => hs_.2) (fun hs_ => hs_.2)) (fun hn_ => (Kd.freshB (g := gb491) (o := .cells #[.slice Ao25 t482.length co25, .slice Ao27 t485.length co27, .int .i64 t488, .bool t489] 25 (0, 0)) (by (with_reducible repeat (first | refine blk_drewN ?_ _ | refine blk_drew ?_ | refine blk_alloc ?_ _)); exact BK491.out) k_ hn_)))) (below_size (by repeat (first | (with_reducible first | exact HB.out | apply below_alloc | apply pw_below_drewN | apply below_drew1 | refine below_set ?_ GE491.out) | exact HB.out)))); have n4_ := Aside0.mk (blk_below (g := gb491) (o := .cells #[.slice Ao25 t482.length co25, .slice Ao27 t485.length co27, .int .i64 t488, .bool t489] 25 (0, 0)) (by (with_reducible repeat (first | refine blk_drewN ?_ _ | refine blk_drew ?_ | refine blk_alloc ?_ _)); exact BK491.out) hb); have n5_ := Aside0.mk (below_step (by repeat (first | (with_reducible first | exact HB.out | apply below_alloc | apply pw_below_drewN | apply below_drew1 | refine below_set ?_ GE491.out) | exact HB.out)) hb); clear HO484; clear HO487; clear BK491; clear HB; have HO484 := n0_; have HO487 := n1_; have HO495 := n2_; have HO498 := n3_; have BK491 := n4_; have HB := n5_; clear n0_ n1_ n2_ n3_ n4_ n5_; (try clear hb); (try clear hb2); (try clear hk); (try clear hi); (try clear ho0); (try clear ho1); obtain ⟨Ao31, co31, eo31⟩ := Kd.V_slice HO495.out; subst eo31; have hcz32_0 : w30.cell? ⟨gb491, 0, none⟩ = some (.slice Ao25 t482.length co25) := (blk_cell BK491.out 0).trans rfl; have hcz32_1 : w30.cell? ⟨gb491, 1, none⟩ = some (.slice Ao27 t485.length co27) := (blk_cell BK491.out 1).trans rfl; have hcz32_2 : w30.cell? ⟨gb491, 2, none⟩ = some (.int .i64 t488) := (blk_cell BK491.out 2).trans rfl; have hcz32_3 : w30.cell? ⟨gb491, 3, none⟩ = some (.bool t489) := (blk_cell BK491.out 3).trans rfl; have hfz32_0 := blk_frozen BK491.out 0; have hfz32_1 := blk_frozen BK491.out 1; have hfz32_2 := blk_frozen BK491.out 2; have hfz32_3 := blk_frozen BK491.out 3; obtain ⟨Ao33, co33, eo33⟩ := Kd.V_slice HO498.out; subst eo33) | ((with_reducible refine gate_callee (f := 21) rfl ?_); refine goesL_ (some 45) rfl rfl Try.func21 (by kernel_rfl) rfl #[.agg #[.slice Ao31 t493.length co31, .slice Ao33 t496.length co33, .int .i64 t499, .bool t500]] rfl (by (try simp only [List.map_toArray, List.map_cons, List.map_nil]); first | done | rfl | (simp only [List.length_drop, List.length_take]; rfl)) ?_; (with_reducible refine (device_Flush.calls kj4 _ _ t493 _ _ t496 t499 t500 t503 t506 t509 t510 t511 _ ?side1 ?side2 ?side3 ?side4 A14.out).mono ?_); (case side1 => refine (Kd.V_reads' (e := 26) (base := w.heap.size) (ok := fun k_ => k_ ≠ gb491) (n := t493.length) (c := co31) ?_).2.2; exact (by (with_reducible repeat (first | apply Kd.V_alloc | apply Kd.V_drewN | apply Kd.V_drew)); exact (Kd.V_mono (Kd.V_far (p := ⟨gb491, 3, none⟩) (Kd.V_far (p := ⟨gb491, 2, none⟩) (Kd.V_far (p := ⟨gb491, 1, none⟩) (Kd.V_far (p := ⟨gb491, 0, none⟩) (Kd.V_mono HO495.out (fun k_ hk => (⟨hk, hk⟩ : _ ∧ k_ ≠ gb491))) (fun _ hk => hk.2) (.slice Ao31 t493.length co31)) (fun _ hk => hk.2) (.slice Ao33 t496.length co33)) (fun _ hk => hk.2) (.int .i64 t499)) (fun _ hk => hk.2) (.bool t500)) (fun _ h_ => h_.1)))); (case side2 => exact (Kd.V_reads' HO495.out).2.1); (case side3 => refine (Kd.V_reads' (e := 53) (base := w.heap.size) (ok := fun k_ => k_ ≠ gb491) (n := t496.length) (c := co33) ?_).2.2; exact (by (with_reducible repeat (first | apply Kd.V_alloc | apply Kd.V_drewN | apply Kd.V_drew)); exact (Kd.V_mono (Kd.V_far (p := ⟨gb491, 3, none⟩) (Kd.V_far (p := ⟨gb491, 2, none⟩) (Kd.V_far (p := ⟨gb491, 1, none⟩) (Kd.V_far (p := ⟨gb491, 0, none⟩) (Kd.V_mono HO498.out (fun k_ hk => (⟨hk, hk⟩ : _ ∧ k_ ≠ gb491))) (fun _ hk => hk.2) (.slice Ao31 t493.length co31)) (fun _ hk => hk.2) (.slice Ao33 t496.length co33)) (fun _ hk => hk.2) (.int .i64 t499)) (fun _ hk => hk.2) (.bool t500)) (fun _ h_ => h_.1)))); (case side4 => exact (Kd.V_reads' HO498.out).2.1); rintro e w34 ⟨v504, v507, rfl, ho0, ho1, hb⟩; refine ⟨_, rfl, ?_⟩; have n0_ := Aside0.mk (Kd.N_mono (Kd.N_told (Kd.N_told (Kd.N_old (by (with_reducible repeat (first | apply Kd.N_alloc | apply Kd.N_drewN | apply Kd.N_drew)); exact (Kd.N_mono (Kd.N_far (p := ⟨gb491, 3, none⟩) (Kd.N_far (p := ⟨gb491, 2, none⟩) (Kd.N_far (p := ⟨gb491, 1, none⟩) (Kd.N_far (p := ⟨gb491, 0, none⟩) (Kd.N_mono HO484.out (fun k_ hk => (⟨hk, hk.2⟩ : _ ∧ k_ ≠ gb491))) (fun _ hk => hk.2) (.slice Ao31 t493.length co31)) (fun _ hk => hk.2) (.slice Ao33 t496.length co33)) (fun _ hk => hk.2) (.int .i64 t499)) (fun _ hk => hk.2) (.bool t500)) (fun _ h_ => h_.1))) hb) (by first | exact Kd.N_base ho0 | exact Kd.S_base ho0)) (by first | exact Kd.N_base ho1 | exact Kd.S_base ho1)) (fun _ h_ => h_.1)); have n1_ := Aside0.mk (Kd.N_mono (Kd.N_told (Kd.N_told (Kd.N_old (by (with_reducible repeat (first | apply Kd.N_alloc | apply Kd.N_drewN | apply Kd.N_drew)); exact (Kd.N_mono (Kd.N_far (p := ⟨gb491, 3, none⟩) (Kd.N_far (p := ⟨gb491, 2, none⟩) (Kd.N_far (p := ⟨gb491, 1, none⟩) (Kd.N_far (p := ⟨gb491, 0, none⟩) (Kd.N_mono HO487.out (fun k_ hk => (⟨hk, hk.2⟩ : _ ∧ k_ ≠ gb491))) (fun _ hk => hk.2) (.slice Ao31 t493.length co31)) (fun _ hk => hk.2) (.slice Ao33 t496.length co33)) (fun _ hk => hk.2) (.int .i64 t499)) (fun _ hk => hk.2) (.bool t500)) (fun _ h_ => h_.1))) hb) (by first | exact Kd.N_base ho0 | exact Kd.S_base ho0)) (by first | exact Kd.N_base ho1 | exact Kd.S_base ho1)) (fun _ h_ => h_.1)); have n2_ := Aside0.mk (Kd.V_mono (Kd.V_told (Kd.V_told (Kd.V_old (by (with_reducible repeat (first | apply Kd.V_alloc | apply Kd.V_drewN | apply Kd.V_drew)); exact (Kd.V_mono (Kd.V_far (p := ⟨gb491, 3, none⟩) (Kd.V_far (p := ⟨gb491, 2, none⟩) (Kd.V_far (p := ⟨gb491, 1, none⟩) (Kd.V_far (p := ⟨gb491, 0, none⟩) (Kd.V_mono HO495.out (fun k_ hk => (⟨hk, hk⟩ : _ ∧ k_ ≠ gb491))) (fun _ hk => hk.2) (.slice Ao31 t493.length co31)) (fun _ hk => hk.2) (.slice Ao33 t496.length co33)) (fun _ hk => hk.2) (.int .i64 t499)) (fun _ hk => hk.2) (.bool t500)) (fun _ h_ => h_.1))) hb) (by first | exact Kd.N_base ho0 | exact Kd.S_base ho0)) (by first | exact Kd.N_base ho1 | exact Kd.S_base ho1)) (fun _ h_ => h_.1)); have n3_ := Aside0.mk (Kd.V_mono (Kd.V_told (Kd.V_told (Kd.V_old (by (with_reducible repeat (first | apply Kd.V_alloc | apply Kd.V_drewN | apply Kd.V_drew)); exact (Kd.V_mono (Kd.V_far (p := ⟨gb491, 3, none⟩) (Kd.V_far (p := ⟨gb491, 2, none⟩) (Kd.V_far (p := ⟨gb491, 1, none⟩) (Kd.V_far (p := ⟨gb491, 0, none⟩) (Kd.V_mono HO498.out (fun k_ hk => (⟨hk, hk⟩ : _ ∧ k_ ≠ gb491))) (fun _ hk => hk.2) (.slice Ao31 t493.length co31)) (fun _ hk => hk.2) (.slice Ao33 t496.length co33)) (fun _ hk => hk.2) (.int .i64 t499)) (fun _ hk => hk.2) (.bool t500)) (fun _ h_ => h_.1))) hb) (by first | exact Kd.N_base ho0 | exact Kd.S_base ho0)) (by first | exact Kd.N_base ho1 | exact Kd.S_base ho1)) (fun _ h_ => h_.1)); have n4_ := Aside0.mk (Kd.N_lower (Kd.N_mono (ok' := fun k_ => some k_ ≠ (v507 : Value).ownBlock ∧ some k_ ≠ (.slice Ao25 t482.length co25 : Value).ownBlock ∧ some k_ ≠ (.slice Ao27 t485.length co27 : Value).ownBlock ∧ k_ ≠ gb491) ho0 (fun k_ hk_ => ⟨hk_.2, (Kd.fresh' (Kd.N_lt (by (with_reducible repeat (first | apply Kd.N_alloc | apply Kd.N_drewN | apply Kd.N_drew)); exact (Kd.N_mono (Kd.N_far (p := ⟨gb491, 3, none⟩) (Kd.N_far (p := ⟨gb491, 2, none⟩) (Kd.N_far (p := ⟨gb491, 1, none⟩) (Kd.N_far (p := ⟨gb491, 0, none⟩) (Kd.N_mono HO484.out (fun k_ hk => (⟨hk, hk.2⟩ : _ ∧ k_ ≠ gb491))) (fun _ hk => hk.2) (.slice Ao31 t493.length co31)) (fun _ hk => hk.2) (.slice Ao33 t496.length co33)) (fun _ hk => hk.2) (.int .i64 t499)) (fun _ hk => hk.2) (.bool t500)) (fun _ h_ => h_.1)))) k_ hk_.1), (Kd.fresh' (Kd.N_lt (by (with_reducible repeat (first | apply Kd.N_alloc | apply Kd.N_drewN | apply Kd.N_drew)); exact (Kd.N_mono (Kd.N_far (p := ⟨gb491, 3, none⟩) (Kd.N_far (p := ⟨gb491, 2, none⟩) (Kd.N_far (p := ⟨gb491, 1, none⟩) (Kd.N_far (p := ⟨gb491, 0, none⟩) (Kd.N_mono HO487.out (fun k_ hk => (⟨hk, hk.2⟩ : _ ∧ k_ ≠ gb491))) (fun _ hk => hk.2) (.slice Ao31 t493.length co31)) (fun _ hk => hk.2) (.slice Ao33 t496.length co33)) (fun _ hk => hk.2) (.int .i64 t499)) (fun _ hk => hk.2) (.bool t500)) (fun _ h_ => h_.1)))) k_ hk_.1), (Kd.freshB (g := gb491) (o := .cells #[.slice Ao31 t493.length co31, .slice Ao33 t496.length co33, .int .i64 t499, .bool t500] 25 (0, 0)) (by (with_reducible repeat (first | refine blk_drewN ?_ _ | refine blk_drew ?_ | refine blk_alloc ?_ _)); refine blk_put (cs := #[.slice Ao31 t493.length co31, .slice Ao33 t496.length co33, .int .i64 t499, .bool t489]) ?_ 3 _ rfl; (with_reducible repeat (first | refine blk_drewN ?_ _ | refine blk_drew ?_ | refine blk_alloc ?_ _)); refine blk_put (cs := #[.slice Ao31 t493.length co31, .slice Ao33 t496.length co33, .int .i64 t488, .bool t489]) ?_ 2 _ rfl; (with_reducible repeat (first | refine blk_drewN ?_ _ | refine blk_drew ?_ | refine blk_alloc ?_ _)); refine blk_put (cs := #[.slice Ao31 t493.length co31, .slice Ao27 t485.length co27, .int .i64 t488, .bool t489]) ?_ 1 _ rfl; (with_reducible repeat (first | refine blk_drewN ?_ _ | refine blk_drew ?_ | refine blk_alloc ?_ _)); refine blk_put (cs := #[.slice Ao25 t482.length co25, .slice Ao27 t485.length co27, .int .i64 t488, .bool t489]) ?_ 0 _ rfl; (with_reducible repeat (first | refine blk_drewN ?_ _ | refine blk_drew ?_ | refine blk_alloc ?_ _)); exact BK491.out) k_ hk_.1)⟩)) (below_size (by repeat (first | (with_reducible first | exact HB.out | apply below_alloc | apply pw_below_drewN | apply below_drew1 | refine below_set ?_ GE491.out) | exact HB.out)))); have n5_ := Aside0.mk (Kd.N_lower (Kd.N_mono (ok' := fun k_ => some k_ ≠ (v504 : Value).ownBlock ∧ some k_ ≠ (.slice Ao25 t482.length co25 : Value).ownBlock ∧ some k_ ≠ (.slice Ao27 t485.length co27 : Value).ownBlock ∧ k_ ≠ gb491) ho1 (fun k_ hk_ => ⟨hk_.2, (Kd.fresh' (Kd.N_lt (by (with_reducible repeat (first | apply Kd.N_alloc | apply Kd.N_drewN | apply Kd.N_drew)); exact (Kd.N_mono (Kd.N_far (p := ⟨gb491, 3, none⟩) (Kd.N_far (p := ⟨gb491, 2, none⟩) (Kd.N_far (p := ⟨gb491, 1, none⟩) (Kd.N_far (p := ⟨gb491, 0, none⟩) (Kd.N_mono HO484.out (fun k_ hk => (⟨hk, hk.2⟩ : _ ∧ k_ ≠ gb491))) (fun _ hk => hk.2) (.slice Ao31 t493.length co31)) (fun _ hk => hk.2) (.slice Ao33 t496.length co33)) (fun _ hk => hk.2) (.int .i64 t499)) (fun _ hk => hk.2) (.bool t500)) (fun _ h_ => h_.1)))) k_ hk_.1), (Kd.fresh' (Kd.N_lt (by (with_reducible repeat (first | apply Kd.N_alloc | apply Kd.N_drewN | apply Kd.N_drew)); exact (Kd.N_mono (Kd.N_far (p := ⟨gb491, 3, none⟩) (Kd.N_far (p := ⟨gb491, 2, none⟩) (Kd.N_far (p := ⟨gb491, 1, none⟩) (Kd.N_far (p := ⟨gb491, 0, none⟩) (Kd.N_mono HO487.out (fun k_ hk => (⟨hk, hk.2⟩ : _ ∧ k_ ≠ gb491))) (fun _ hk => hk.2) (.slice Ao31 t493.length co31)) (fun _ hk => hk.2) (.slice Ao33 t496.length co33)) (fun _ hk => hk.2) (.int .i64 t499)) (fun _ hk => hk.2) (.bool t500)) (fun _ h_ => h_.1)))) k_ hk_.1), (Kd.freshB (g := gb491) (o := .cells #[.slice Ao31 t493.length co31, .slice Ao33 t496.length co33, .int .i64 t499, .bool t500] 25 (0, 0)) (by (with_reducible repeat (first | refine blk_drewN ?_ _ | refine blk_drew ?_ | refine blk_alloc ?_ _)); refine blk_put (cs := #[.slice Ao31 t493.length co31, .slice Ao33 t496.length co33, .int .i64 t499, .bool t489]) ?_ 3 _ rfl; (with_reducible repeat (first | refine blk_drewN ?_ _ | refine blk_drew ?_ | refine blk_alloc ?_ _)); refine blk_put (cs := #[.slice Ao31 t493.length co31, .slice Ao33 t496.length co33, .int .i64 t488, .bool t489]) ?_ 2 _ rfl; (with_reducible repeat (first | refine blk_drewN ?_ _ | refine blk_drew ?_ | refine blk_alloc ?_ _)); refine blk_put (cs := #[.slice Ao31 t493.length co31, .slice Ao27 t485.length co27, .int .i64 t488, .bool t489]) ?_ 1 _ rfl; (with_reducible repeat (first | refine blk_drewN ?_ _ | refine blk_drew ?_ | refine blk_alloc ?_ _)); refine blk_put (cs := #[.slice Ao25 t482.length co25, .slice Ao27 t485.length co27, .int .i64 t488, .bool t489]) ?_ 0 _ rfl; (with_reducible repeat (first | refine blk_drewN ?_ _ | refine blk_drew ?_ | refine blk_alloc ?_ _)); exact BK491.out) k_ hk_.1)⟩)) (below_size (by repeat (first | (with_reducible first | exact HB.out | apply below_alloc | apply pw_below_drewN | apply below_drew1 | refine below_set ?_ GE491.out) | exact HB.out)))); have n6_ := Aside0.mk (blk_below (g := gb491) (o := .cells #[.slice Ao31 t493.length co31, .slice Ao33 t496.length co33, .int .i64 t499, .bool t500] 25 (0, 0)) (by (with_reducible repeat (first | refine blk_drewN ?_ _ | refine blk_drew ?_ | refine blk_alloc ?_ _)); refine blk_put (cs := #[.slice Ao31 t493.length co31, .slice Ao33 t496.length co33, .int .i64 t499, .bool t489]) ?_ 3 _ rfl; (with_reducible repeat (first | refine blk_drewN ?_ _ | refine blk_drew ?_ | refine blk_alloc ?_ _)); refine blk_put (cs := #[.slice Ao31 t493.length co31, .slice Ao33 t496.length co33, .int .i64 t488, .bool t489]) ?_ 2 _ rfl; (with_reducible repeat (first | refine blk_drewN ?_ _ | refine blk_drew ?_ | refine blk_alloc ?_ _)); refine blk_put (cs := #[.slice Ao31 t493.length co31, .slice Ao27 t485.length co27, .int .i64 t488, .bool t489]) ?_ 1 _ rfl; (with_reducible repeat (first | refine blk_drewN ?_ _ | refine blk_drew ?_ | refine blk_alloc ?_ _)); refine blk_put (cs := #[.slice Ao25 t482.length co25, .slice Ao27 t485.length co27, .int .i64 t488, .bool t489]) ?_ 0 _ rfl; (with_reducible repeat (first | refine blk_drewN ?_ _ | refine blk_drew ?_ | refine blk_alloc ?_ _)); exact BK491.out) hb); have n7_ := Aside0.mk (below_step (by repeat (first | (with_reducible first | exact HB.out | apply below_alloc | apply pw_below_drewN | apply below_drew1 | refine below_set ?_ GE491.out) | exact HB.out)) hb); clear HO484; clear HO487; clear HO495; clear HO498; clear BK491; clear HB; have HO484 := n0_; have HO487 := n1_; have HO495 := n2_; have HO498 := n3_; have HO505 := n4_; have HO508 := n5_; have BK491 := n6_; have HB := n7_; clear n0_ n1_ n2_ n3_ n4_ n5_ n6_ n7_; (try clear hb); (try clear hb2); (try clear hk); (try clear hi); (try clear ho0); (try clear ho1); obtain ⟨Ao35, co35, eo35⟩ := Kd.N_slice HO505.out; subst eo35; have hcz36_0 : w34.cell? ⟨gb491, 0, none⟩ = some (.slice Ao31 t493.length co31) := (blk_cell BK491.out 0).trans rfl; have hcz36_1 : w34.cell? ⟨gb491, 1, none⟩ = some (.slice Ao33 t496.length co33) := (blk_cell BK491.out 1).trans rfl; have hcz36_2 : w34.cell? ⟨gb491, 2, none⟩ = some (.int .i64 t499) := (blk_cell BK491.out 2).trans rfl; have hcz36_3 : w34.cell? ⟨gb491, 3, none⟩ = some (.bool t500) := (blk_cell BK491.out 3).trans rfl; have hfz36_0 := blk_frozen BK491.out 0; have hfz36_1 := blk_frozen BK491.out 1; have hfz36_2 := blk_frozen BK491.out 2; have hfz36_3 := blk_frozen BK491.out 3; obtain ⟨Ao37, co37, eo37⟩ := Kd.N_slice HO508.out; subst eo37) | ((with_reducible refine gate_callee (f := 23) rfl ?_); refine goesL_ (some 51) rfl rfl Try.func23 (by kernel_rfl) rfl #[.agg #[.slice Ao35 t503.length co35, .slice Ao37 t506.length co37, .int .i64 t509, .bool t510], .int .i64 a3] rfl (by (try simp only [List.map_toArray, List.map_cons, List.map_nil]); first | done | rfl | (simp only [List.length_drop, List.length_take]; rfl)) ?_; (with_reducible refine (device_Arm.calls kj4 _ _ t503 _ _ t506 t509 t510 a3 t512 t515 t518 t519 _ ?side1 ?side2 ?side3 ?side4 A15.out).mono ?_); (case side1 => refine (Kd.N_reads' (e := 26) (base := w.heap.size) (ok := fun k_ => (some k_ ≠ (.slice Ao37 t506.length co37 : Value).ownBlock ∧ (some k_ ≠ (.slice Ao25 t482.length co25 : Value).ownBlock ∧ (some k_ ≠ (.slice Ao27 t485.length co27 : Value).ownBlock ∧ k_ ≠ gb491)))) (n := t503.length) (c := co35) ?_).2.2; exact (by (with_reducible repeat (first | apply Kd.N_alloc | apply Kd.N_drewN | apply Kd.N_drew)); exact (Kd.N_mono (Kd.N_far (p := ⟨gb491, 3, none⟩) (Kd.N_far (p := ⟨gb491, 2, none⟩) (Kd.N_far (p := ⟨gb491, 1, none⟩) (Kd.N_far (p := ⟨gb491, 0, none⟩) (Kd.N_mono HO505.out (fun k_ hk => (⟨hk, hk.2.2.2⟩ : _ ∧ k_ ≠ gb491))) (fun _ hk => hk.2) (.slice Ao35 t503.length co35)) (fun _ hk => hk.2) (.slice Ao37 t506.length co37)) (fun _ hk => hk.2) (.int .i64 t509)) (fun _ hk => hk.2) (.bool t510)) (fun _ h_ => h_.1)))); (case side2 => exact (Kd.N_reads' HO505.out).2.1); (case side3 => refine (Kd.N_reads' (e := 53) (base := w.heap.size) (ok := fun k_ => (some k_ ≠ (.slice Ao35 t503.length co35 : Value).ownBlock ∧ (some k_ ≠ (.slice Ao25 t482.length co25 : Value).ownBlock ∧ (some k_ ≠ (.slice Ao27 t485.length co27 : Value).ownBlock ∧ k_ ≠ gb491)))) (n := t506.length) (c := co37) ?_).2.2; exact (by (with_reducible repeat (first | apply Kd.N_alloc | apply Kd.N_drewN | apply Kd.N_drew)); exact (Kd.N_mono (Kd.N_far (p := ⟨gb491, 3, none⟩) (Kd.N_far (p := ⟨gb491, 2, none⟩) (Kd.N_far (p := ⟨gb491, 1, none⟩) (Kd.N_far (p := ⟨gb491, 0, none⟩) (Kd.N_mono HO508.out (fun k_ hk => (⟨hk, hk.2.2.2⟩ : _ ∧ k_ ≠ gb491))) (fun _ hk => hk.2) (.slice Ao35 t503.length co35)) (fun _ hk => hk.2) (.slice Ao37 t506.length co37)) (fun _ hk => hk.2) (.int .i64 t509)) (fun _ hk => hk.2) (.bool t510)) (fun _ h_ => h_.1)))); (case side4 => exact (Kd.N_reads' HO508.out).2.1); rintro e w38 ⟨v513, v516, rfl, ho0, ho1, hb⟩; refine ⟨_, rfl, ?_⟩; have n0_ := Aside0.mk (Kd.N_mono (Kd.N_told (Kd.N_told (Kd.N_old (by (with_reducible repeat (first | apply Kd.N_alloc | apply Kd.N_drewN | apply Kd.N_drew)); exact (Kd.N_mono (Kd.N_far (p := ⟨gb491, 3, none⟩) (Kd.N_far (p := ⟨gb491, 2, none⟩) (Kd.N_far (p := ⟨gb491, 1, none⟩) (Kd.N_far (p := ⟨gb491, 0, none⟩) (Kd.N_mono HO484.out (fun k_ hk => (⟨hk, hk.1.1.2⟩ : _ ∧ k_ ≠ gb491))) (fun _ hk => hk.2) (.slice Ao35 t503.length co35)) (fun _ hk => hk.2) (.slice Ao37 t506.length co37)) (fun _ hk => hk.2) (.int .i64 t509)) (fun _ hk => hk.2) (.bool t510)) (fun _ h_ => h_.1))) hb) (by first | exact Kd.N_base ho0 | exact Kd.S_base ho0)) (by first | exact Kd.N_base ho1 | exact Kd.S_base ho1)) (fun _ h_ => h_.1)); have n1_ := Aside0.mk (Kd.N_mono (Kd.N_told (Kd.N_told (Kd.N_old (by (with_reducible repeat (first | apply Kd.N_alloc | apply Kd.N_drewN | apply Kd.N_drew)); exact (Kd.N_mono (Kd.N_far (p := ⟨gb491, 3, none⟩) (Kd.N_far (p := ⟨gb491, 2, none⟩) (Kd.N_far (p := ⟨gb491, 1, none⟩) (Kd.N_far (p := ⟨gb491, 0, none⟩) (Kd.N_mono HO487.out (fun k_ hk => (⟨hk, hk.1.1.2⟩ : _ ∧ k_ ≠ gb491))) (fun _ hk => hk.2) (.slice Ao35 t503.length co35)) (fun _ hk => hk.2) (.slice Ao37 t506.length co37)) (fun _ hk => hk.2) (.int .i64 t509)) (fun _ hk => hk.2) (.bool t510)) (fun _ h_ => h_.1))) hb) (by first | exact Kd.N_base ho0 | exact Kd.S_base ho0)) (by first | exact Kd.N_base ho1 | exact Kd.S_base ho1)) (fun _ h_ => h_.1)); have n2_ := Aside0.mk (Kd.V_mono (Kd.V_told (Kd.V_told (Kd.V_old (by (with_reducible repeat (first | apply Kd.V_alloc | apply Kd.V_drewN | apply Kd.V_drew)); exact (Kd.V_mono (Kd.V_far (p := ⟨gb491, 3, none⟩) (Kd.V_far (p := ⟨gb491, 2, none⟩) (Kd.V_far (p := ⟨gb491, 1, none⟩) (Kd.V_far (p := ⟨gb491, 0, none⟩) (Kd.V_mono HO495.out (fun k_ hk => (⟨hk, hk.1.1⟩ : _ ∧ k_ ≠ gb491))) (fun _ hk => hk.2) (.slice Ao35 t503.length co35)) (fun _ hk => hk.2) (.slice Ao37 t506.length co37)) (fun _ hk => hk.2) (.int .i64 t509)) (fun _ hk => hk.2) (.bool t510)) (fun _ h_ => h_.1))) hb) (by first | exact Kd.N_base ho0 | exact Kd.S_base ho0)) (by first | exact Kd.N_base ho1 | exact Kd.S_base ho1)) (fun _ h_ => h_.1)); have n3_ := Aside0.mk (Kd.V_mono (Kd.V_told (Kd.V_told (Kd.V_old (by (with_reducible repeat (first | apply Kd.V_alloc | apply Kd.V_drewN | apply Kd.V_drew)); exact (Kd.V_mono (Kd.V_far (p := ⟨gb491, 3, none⟩) (Kd.V_far (p := ⟨gb491, 2, none⟩) (Kd.V_far (p := ⟨gb491, 1, none⟩) (Kd.V_far (p := ⟨gb491, 0, none⟩) (Kd.V_mono HO498.out (fun k_ hk => (⟨hk, hk.1.1⟩ : _ ∧ k_ ≠ gb491))) (fun _ hk => hk.2) (.slice Ao35 t503.length co35)) (fun _ hk => hk.2) (.slice Ao37 t506.length co37)) (fun _ hk => hk.2) (.int .i64 t509)) (fun _ hk => hk.2) (.bool t510)) (fun _ h_ => h_.1))) hb) (by first | exact Kd.N_base ho0 | exact Kd.S_base ho0)) (by first | exact Kd.N_base ho1 | exact Kd.S_base ho1)) (fun _ h_ => h_.1)); have n4_ := Aside0.mk (Kd.N_mono (Kd.N_told (Kd.N_told (Kd.N_old (by (with_reducible repeat (first | apply Kd.N_alloc | apply Kd.N_drewN | apply Kd.N_drew)); exact (Kd.N_mono (Kd.N_far (p := ⟨gb491, 3, none⟩) (Kd.N_far (p := ⟨gb491, 2, none⟩) (Kd.N_far (p := ⟨gb491, 1, none⟩) (Kd.N_far (p := ⟨gb491, 0, none⟩) (Kd.N_mono HO505.out (fun k_ hk => (⟨hk, hk.2.2.2⟩ : _ ∧ k_ ≠ gb491))) (fun _ hk => hk.2) (.slice Ao35 t503.length co35)) (fun _ hk => hk.2) (.slice Ao37 t506.length co37)) (fun _ hk => hk.2) (.int .i64 t509)) (fun _ hk => hk.2) (.bool t510)) (fun _ h_ => h_.1))) hb) (by first | exact Kd.N_base ho0 | exact Kd.S_base ho0)) (by first | exact Kd.N_base ho1 | exact Kd.S_base ho1)) (fun _ h_ => h_.1)); have n5_ := Aside0.mk (Kd.N_mono (Kd.N_told (Kd.N_told (Kd.N_old (by (with_reducible repeat (first | apply Kd.N_alloc | apply Kd.N_drewN | apply Kd.N_drew)); exact (Kd.N_mono (Kd.N_far (p := ⟨gb491, 3, none⟩) (Kd.N_far (p := ⟨gb491, 2, none⟩) (Kd.N_far (p := ⟨gb491, 1, none⟩) (Kd.N_far (p := ⟨gb491, 0, none⟩) (Kd.N_mono HO508.out (fun k_ hk => (⟨hk, hk.2.2.2⟩ : _ ∧ k_ ≠ gb491))) (fun _ hk => hk.2) (.slice Ao35 t503.length co35)) (fun _ hk => hk.2) (.slice Ao37 t506.length co37)) (fun _ hk => hk.2) (.int .i64 t509)) (fun _ hk => hk.2) (.bool t510)) (fun _ h_ => h_.1))) hb) (by first | exact Kd.N_base ho0 | exact Kd.S_base ho0)) (by first | exact Kd.N_base ho1 | exact Kd.S_base ho1)) (fun _ h_ => h_.1)); have n6_ := Aside0.mk (Kd.N_lower (Kd.N_mono (ok' := fun k_ => some k_ ≠ (v516 : Value).ownBlock ∧ some k_ ≠ (.slice Ao25 t482.length co25 : Value).ownBlock ∧ some k_ ≠ (.slice Ao27 t485.length co27 : Value).ownBlock ∧ some k_ ≠ (.slice Ao35 t503.length co35 : Value).ownBlock ∧ some k_ ≠ (.slice Ao37 t506.length co37 : Value).ownBlock ∧ k_ ≠ gb491) (Kd.S_N (Kd.S_bound (Kd.S_apart' ho0 (Kd.S_typed ho1) (by decide)))) (fun k_ hk_ => ⟨hk_.1.2, (Kd.fresh' (Kd.N_lt (by (with_reducible repeat (first | apply Kd.N_alloc | apply Kd.N_drewN | apply Kd.N_drew)); exact (Kd.N_mono (Kd.N_far (p := ⟨gb491, 3, none⟩) (Kd.N_far (p := ⟨gb491, 2, none⟩) (Kd.N_far (p := ⟨gb491, 1, none⟩) (Kd.N_far (p := ⟨gb491, 0, none⟩) (Kd.N_mono HO484.out (fun k_ hk => (⟨hk, hk.1.1.2⟩ : _ ∧ k_ ≠ gb491))) (fun _ hk => hk.2) (.slice Ao35 t503.length co35)) (fun _ hk => hk.2) (.slice Ao37 t506.length co37)) (fun _ hk => hk.2) (.int .i64 t509)) (fun _ hk => hk.2) (.bool t510)) (fun _ h_ => h_.1)))) k_ hk_.2.1), (Kd.fresh' (Kd.N_lt (by (with_reducible repeat (first | apply Kd.N_alloc | apply Kd.N_drewN | apply Kd.N_drew)); exact (Kd.N_mono (Kd.N_far (p := ⟨gb491, 3, none⟩) (Kd.N_far (p := ⟨gb491, 2, none⟩) (Kd.N_far (p := ⟨gb491, 1, none⟩) (Kd.N_far (p := ⟨gb491, 0, none⟩) (Kd.N_mono HO487.out (fun k_ hk => (⟨hk, hk.1.1.2⟩ : _ ∧ k_ ≠ gb491))) (fun _ hk => hk.2) (.slice Ao35 t503.length co35)) (fun _ hk => hk.2) (.slice Ao37 t506.length co37)) (fun _ hk => hk.2) (.int .i64 t509)) (fun _ hk => hk.2) (.bool t510)) (fun _ h_ => h_.1)))) k_ hk_.2.1), (Kd.fresh' (Kd.N_lt (by (with_reducible repeat (first | apply Kd.N_alloc | apply Kd.N_drewN | apply Kd.N_drew)); exact (Kd.N_mono (Kd.N_far (p := ⟨gb491, 3, none⟩) (Kd.N_far (p := ⟨gb491, 2, none⟩) (Kd.N_far (p := ⟨gb491, 1, none⟩) (Kd.N_far (p := ⟨gb491, 0, none⟩) (Kd.N_mono HO505.out (fun k_ hk => (⟨hk, hk.2.2.2⟩ : _ ∧ k_ ≠ gb491))) (fun _ hk => hk.2) (.slice Ao35 t503.length co35)) (fun _ hk => hk.2) (.slice Ao37 t506.length co37)) (fun _ hk => hk.2) (.int .i64 t509)) (fun _ hk => hk.2) (.bool t510)) (fun _ h_ => h_.1)))) k_ hk_.2.1), (Kd.fresh' (Kd.N_lt (by (with_reducible repeat (first | apply Kd.N_alloc | apply Kd.N_drewN | apply Kd.N_drew)); exact (Kd.N_mono (Kd.N_far (p := ⟨gb491, 3, none⟩) (Kd.N_far (p := ⟨gb491, 2, none⟩) (Kd.N_far (p := ⟨gb491, 1, none⟩) (Kd.N_far (p := ⟨gb491, 0, none⟩) (Kd.N_mono HO508.out (fun k_ hk => (⟨hk, hk.2.2.2⟩ : _ ∧ k_ ≠ gb491))) (fun _ hk => hk.2) (.slice Ao35 t503.length co35)) (fun _ hk => hk.2) (.slice Ao37 t506.length co37)) (fun _ hk => hk.2) (.int .i64 t509)) (fun _ hk => hk.2) (.bool t510)) (fun _ h_ => h_.1)))) k_ hk_.2.1), (Kd.freshB (g := gb491) (o := .cells #[.slice Ao35 t503.length co35, .slice Ao37 t506.length co37, .int .i64 t509, .bool t510] 25 (0, 0)) (by (with_reducible repeat (first | refine blk_drewN ?_ _ | refine blk_drew ?_ | refine blk_alloc ?_ _)); refine blk_put (cs := #[.slice Ao35 t503.length co35, .slice Ao37 t506.length co37, .int .i64 t509, .bool t500]) ?_ 3 _ rfl; (with_reducible repeat (first | refine blk_drewN ?_ _ | refine blk_drew ?_ | refine blk_alloc ?_ _)); refine blk_put (cs := #[.slice Ao35 t503.length co35, .slice Ao37 t506.length co37, .int .i64 t499, .bool t500]) ?_ 2 _ rfl; (with_reducible repeat (first | refine blk_drewN ?_ _ | refine blk_drew ?_ | refine blk_alloc ?_ _)); refine blk_put (cs := #[.slice Ao35 t503.length co35, .slice Ao33 t496.length co33, .int .i64 t499, .bool t500]) ?_ 1 _ rfl; (with_reducible repeat (first | refine blk_drewN ?_ _ | refine blk_drew ?_ | refine blk_alloc ?_ _)); refine blk_put (cs := #[.slice Ao31 t493.length co31, .slice Ao33 t496.length co33, .int .i64 t499, .bool t500]) ?_ 0 _ rfl; (with_reducible repeat (first | refine blk_drewN ?_ _ | refine blk_drew ?_ | refine blk_alloc ?_ _)); exact BK491.out) k_ hk_.2.1)⟩)) (below_size (by repeat (first | (with_reducible first | exact HB.out | apply below_alloc | apply pw_below_drewN | apply below_drew1 | refine below_set ?_ GE491.out) | exact HB.out)))); have n7_ := Aside0.mk (Kd.N_lower (Kd.N_mono (ok' := fun k_ => some k_ ≠ (v513 : Value).ownBlock ∧ some k_ ≠ (.slice Ao25 t482.length co25 : Value).ownBlock ∧ some k_ ≠ (.slice Ao27 t485.length co27 : Value).ownBlock ∧ some k_ ≠ (.slice Ao35 t503.length co35 : Value).ownBlock ∧ some k_ ≠ (.slice Ao37 t506.length co37 : Value).ownBlock ∧ k_ ≠ gb491) (Kd.S_N (Kd.S_bound (Kd.S_apart' ho1 (Kd.S_typed ho0) (by decide)))) (fun k_ hk_ => ⟨hk_.1.2, (Kd.fresh' (Kd.N_lt (by (with_reducible repeat (first | apply Kd.N_alloc | apply Kd.N_drewN | apply Kd.N_drew)); exact (Kd.N_mono (Kd.N_far (p := ⟨gb491, 3, none⟩) (Kd.N_far (p := ⟨gb491, 2, none⟩) (Kd.N_far (p := ⟨gb491, 1, none⟩) (Kd.N_far (p := ⟨gb491, 0, none⟩) (Kd.N_mono HO484.out (fun k_ hk => (⟨hk, hk.1.1.2⟩ : _ ∧ k_ ≠ gb491))) (fun _ hk => hk.2) (.slice Ao35 t503.length co35)) (fun _ hk => hk.2) (.slice Ao37 t506.length co37)) (fun _ hk => hk.2) (.int .i64 t509)) (fun _ hk => hk.2) (.bool t510)) (fun _ h_ => h_.1)))) k_ hk_.2.1), (Kd.fresh' (Kd.N_lt (by (with_reducible repeat (first | apply Kd.N_alloc | apply Kd.N_drewN | apply Kd.N_drew)); exact (Kd.N_mono (Kd.N_far (p := ⟨gb491, 3, none⟩) (Kd.N_far (p := ⟨gb491, 2, none⟩) (Kd.N_far (p := ⟨gb491, 1, none⟩) (Kd.N_far (p := ⟨gb491, 0, none⟩) (Kd.N_mono HO487.out (fun k_ hk => (⟨hk, hk.1.1.2⟩ : _ ∧ k_ ≠ gb491))) (fun _ hk => hk.2) (.slice Ao35 t503.length co35)) (fun _ hk => hk.2) (.slice Ao37 t506.length co37)) (fun _ hk => hk.2) (.int .i64 t509)) (fun _ hk => hk.2) (.bool t510)) (fun _ h_ => h_.1)))) k_ hk_.2.1), (Kd.fresh' (Kd.N_lt (by (with_reducible repeat (first | apply Kd.N_alloc | apply Kd.N_drewN | apply Kd.N_drew)); exact (Kd.N_mono (Kd.N_far (p := ⟨gb491, 3, none⟩) (Kd.N_far (p := ⟨gb491, 2, none⟩) (Kd.N_far (p := ⟨gb491, 1, none⟩) (Kd.N_far (p := ⟨gb491, 0, none⟩) (Kd.N_mono HO505.out (fun k_ hk => (⟨hk, hk.2.2.2⟩ : _ ∧ k_ ≠ gb491))) (fun _ hk => hk.2) (.slice Ao35 t503.length co35)) (fun _ hk => hk.2) (.slice Ao37 t506.length co37)) (fun _ hk => hk.2) (.int .i64 t509)) (fun _ hk => hk.2) (.bool t510)) (fun _ h_ => h_.1)))) k_ hk_.2.1), (Kd.fresh' (Kd.N_lt (by (with_reducible repeat (first | apply Kd.N_alloc | apply Kd.N_drewN | apply Kd.N_drew)); exact (Kd.N_mono (Kd.N_far (p := ⟨gb491, 3, none⟩) (Kd.N_far (p := ⟨gb491, 2, none⟩) (Kd.N_far (p := ⟨gb491, 1, none⟩) (Kd.N_far (p := ⟨gb491, 0, none⟩) (Kd.N_mono HO508.out (fun k_ hk => (⟨hk, hk.2.2.2⟩ : _ ∧ k_ ≠ gb491))) (fun _ hk => hk.2) (.slice Ao35 t503.length co35)) (fun _ hk => hk.2) (.slice Ao37 t506.length co37)) (fun _ hk => hk.2) (.int .i64 t509)) (fun _ hk => hk.2) (.bool t510)) (fun _ h_ => h_.1)))) k_ hk_.2.1), (Kd.freshB (g := gb491) (o := .cells #[.slice Ao35 t503.length co35, .slice Ao37 t506.length co37, .int .i64 t509, .bool t510] 25 (0, 0)) (by (with_reducible repeat (first | refine blk_drewN ?_ _ | refine blk_drew ?_ | refine blk_alloc ?_ _)); refine blk_put (cs := #[.slice Ao35 t503.length co35, .slice Ao37 t506.length co37, .int .i64 t509, .bool t500]) ?_ 3 _ rfl; (with_reducible repeat (first | refine blk_drewN ?_ _ | refine blk_drew ?_ | refine blk_alloc ?_ _)); refine blk_put (cs := #[.slice Ao35 t503.length co35, .slice Ao37 t506.length co37, .int .i64 t499, .bool t500]) ?_ 2 _ rfl; (with_reducible repeat (first | refine blk_drewN ?_ _ | refine blk_drew ?_ | refine blk_alloc ?_ _)); refine blk_put (cs := #[.slice Ao35 t503.length co35, .slice Ao33 t496.length co33, .int .i64 t499, .bool t500]) ?_ 1 _ rfl; (with_reducible repeat (first | refine blk_drewN ?_ _ | refine blk_drew ?_ | refine blk_alloc ?_ _)); refine blk_put (cs := #[.slice Ao31 t493.length co31, .slice Ao33 t496.length co33, .int .i64 t499, .bool t500]) ?_ 0 _ rfl; (with_reducible repeat (first | refine blk_drewN ?_ _ | refine blk_drew ?_ | refine blk_alloc ?_ _)); exact BK491.out) k_ hk_.2.1)⟩)) (below_size (by repeat (first | (with_reducible first | exact HB.out | apply below_alloc | apply pw_below_drewN | apply below_drew1 | refine below_set ?_ GE491.out) | exact HB.out)))); have n8_ := Aside0.mk (blk_below (g := gb491) (o := .cells #[.slice Ao35 t503.length co35, .slice Ao37 t506.length co37, .int .i64 t509, .bool t510] 25 (0, 0)) (by (with_reducible repeat (first | refine blk_drewN ?_ _ | refine blk_drew ?_ | refine blk_alloc ?_ _)); refine blk_put (cs := #[.slice Ao35 t503.length co35, .slice Ao37 t506.length co37, .int .i64 t509, .bool t500]) ?_ 3 _ rfl; (with_reducible repeat (first | refine blk_drewN ?_ _ | refine blk_drew ?_ | refine blk_alloc ?_ _)); refine blk_put (cs := #[.slice Ao35 t503.length co35, .slice Ao37 t506.length co37, .int .i64 t499, .bool t500]) ?_ 2 _ rfl; (with_reducible repeat (first | refine blk_drewN ?_ _ | refine blk_drew ?_ | refine blk_alloc ?_ _)); refine blk_put (cs := #[.slice Ao35 t503.length co35, .slice Ao33 t496.length co33, .int .i64 t499, .bool t500]) ?_ 1 _ rfl; (with_reducible repeat (first | refine blk_drewN ?_ _ | refine blk_drew ?_ | refine blk_alloc ?_ _)); refine blk_put (cs := #[.slice Ao31 t493.length co31, .slice Ao33 t496.length co33, .int .i64 t499, .bool t500]) ?_ 0 _ rfl; (with_reducible repeat (first | refine blk_drewN ?_ _ | refine blk_drew ?_ | refine blk_alloc ?_ _)); exact BK491.out) hb); have n9_ := Aside0.mk (below_step (by repeat (first | (with_reducible first | exact HB.out | apply below_alloc | apply pw_below_drewN | apply below_drew1 | refine below_set ?_ GE491.out) | exact HB.out)) hb); clear HO484; clear HO487; clear HO495; clear HO498; clear HO505; clear HO508; clear BK491; clear HB; have HO484 := n0_; have HO487 := n1_; have HO495 := n2_; have HO498 := n3_; have HO505 := n4_; have HO508 := n5_; have HO514 := n6_; have HO517 := n7_; have BK491 := n8_; have HB := n9_; clear n0_ n1_ n2_ n3_ n4_ n5_ n6_ n7_ n8_ n9_; (try clear hb); (try clear hb2); (try clear hk); (try clear hi); (try clear ho0); (try clear ho1); obtain ⟨Ao39, co39, eo39⟩ := Kd.N_slice HO514.out; subst eo39; obtain ⟨Ao40, co40, eo40⟩ := Kd.N_slice HO517.out; subst eo40) | ((with_reducible refine gate_callee (f := 29) rfl ?_); refine goesL_ (some 53) rfl rfl Try.func29 (by kernel_rfl) rfl #[.agg #[.slice Ao39 t512.length co39, .slice Ao40 t515.length co40, .int .i64 t518, .bool t519], .slice A2 l2.length c2] rfl (by (try simp only [List.map_toArray, List.map_cons, List.map_nil]); first | done | rfl | (simp only [List.length_drop, List.length_take]; rfl)) ?_; (with_reducible refine (mapsheetslaw24_written.calls kj4 (fun k_ => (some k_ ≠ (.slice Ao40 t515.length co40 : Value).ownBlock ∧ (some k_ ≠ (.slice Ao25 t482.length co25 : Value).ownBlock ∧ (some k_ ≠ (.slice Ao27 t485.length co27 : Value).ownBlock ∧ (some k_ ≠ (.slice Ao35 t503.length co35 : Value).ownBlock ∧ (some k_ ≠ (.slice Ao37 t506.length co37 : Value).ownBlock ∧ k_ ≠ gb491)))))) _ _ t512 (fun k_ => (some k_ ≠ (.slice Ao39 t512.length co39 : Value).ownBlock ∧ (some k_ ≠ (.slice Ao25 t482.length co25 : Value).ownBlock ∧ (some k_ ≠ (.slice Ao27 t485.length co27 : Value).ownBlock ∧ (some k_ ≠ (.slice Ao35 t503.length co35 : Value).ownBlock ∧ (some k_ ≠ (.slice Ao37 t506.length co37 : Value).ownBlock ∧ k_ ≠ gb491)))))) _ _ t515 t518 t519 _ _ l2 t520 t523 t526 t527 t528 t529 _ ?side1 ?side2 ?side3 ?side4 A16.out).mono ?_); (case side1 => exact Kd.N_V (HO514.out)); (case side2 => exact Kd.N_V (HO517.out)); (case side3 => repeat (first | exact (Kd.C_below HR2.out HB.out) | (with_reducible refine Kd.C_alloc ?_ _) | (with_reducible refine Kd.C_drewN ?_ _) | (with_reducible refine Kd.C_drew ?_))); (case side4 => exact HC2.out); rintro e w41 ⟨v521, v524, rfl, ho0, ho1, hb⟩; refine ⟨_, rfl, ?_⟩; have n0_ := Aside0.mk (Kd.N_below (by (with_reducible repeat (first | apply Kd.N_alloc | apply Kd.N_drewN | apply Kd.N_drew)); exact HO484.out) hb); have n1_ := Aside0.mk (Kd.N_below (by (with_reducible repeat (first | apply Kd.N_alloc | apply Kd.N_drewN | apply Kd.N_drew)); exact HO487.out) hb); have n2_ := Aside0.mk (Kd.V_below (by (with_reducible repeat (first | apply Kd.V_alloc | apply Kd.V_drewN | apply Kd.V_drew)); exact HO495.out) hb); have n3_ := Aside0.mk (Kd.V_below (by (with_reducible repeat (first | apply Kd.V_alloc | apply Kd.V_drewN | apply Kd.V_drew)); exact HO498.out) hb); have n4_ := Aside0.mk (Kd.N_below (by (with_reducible repeat (first | apply Kd.N_alloc | apply Kd.N_drewN | apply Kd.N_drew)); exact HO505.out) hb); have n5_ := Aside0.mk (Kd.N_below (by (with_reducible repeat (first | apply Kd.N_alloc | apply Kd.N_drewN | apply Kd.N_drew)); exact HO508.out) hb); have n6_ := Aside0.mk (Kd.N_below (by (with_reducible repeat (first | apply Kd.N_alloc | apply Kd.N_drewN | apply Kd.N_drew)); exact HO514.out) hb); have n7_ := Aside0.mk (Kd.N_below (by (with_reducible repeat (first | apply Kd.N_alloc | apply Kd.N_drewN | apply Kd.N_drew)); exact HO517.out) hb); have n8_ := Aside0.mk (Kd.V_lower (Kd.V_mono (ok' := fun k_ => some k_ ≠ (.slice Ao25 t482.length co25 : Value).ownBlock ∧ some k_ ≠ (.slice Ao27 t485.length co27 : Value).ownBlock ∧ some k_ ≠ (.slice Ao35 t503.length co35 : Value).ownBlock ∧ some k_ ≠ (.slice Ao37 t506.length co37 : Value).ownBlock ∧ k_ ≠ gb491) ho0 (fun k_ hk_ => ⟨Or.elim hk_ (fun hs_ => Or.elim hs_ (fun hs_ => hs_.2.1) (fun hs_ => hs_.2.1)) (fun hn_ => (Kd.fresh' (Kd.N_lt (by (with_reducible repeat (first | apply Kd.N_alloc | apply Kd.N_drewN | apply Kd.N_drew)); exact HO484.out)) k_ hn_)), Or.elim hk_ (fun hs_ => Or.elim hs_ (fun hs_ => hs_.2.2.1) (fun hs_ => hs_.2.2.1)) (fun hn_ => (Kd.fresh' (Kd.N_lt (by (with_reducible repeat (first | apply Kd.N_alloc | apply Kd.N_drewN | apply Kd.N_drew)); exact HO487.out)) k_ hn_)), Or.elim hk_ (fun hs_ => Or.elim hs_ (fun hs_ => hs_.2.2.2.1) (fun hs_ => hs_.2.2.2.1)) (fun hn_ => (Kd.fresh' (Kd.N_lt (by (with_reducible repeat (first | apply Kd.N_alloc | apply Kd.N_drewN | apply Kd.N_drew)); exact HO505.out)) k_ hn_)), Or.elim hk_ (fun hs_ => Or.elim hs_ (fun hs_ => hs_.2.2.2.2.1) (fun hs_ => hs_.2.2.2.2.1)) (fun hn_ => (Kd.fresh' (Kd.N_lt (by (with_reducible repeat (first | apply Kd.N_alloc | apply Kd.N_drewN | apply Kd.N_drew)); exact HO508.out)) k_ hn_)), Or.elim hk_ (fun hs_ => Or.elim hs_ (fun hs_ => hs_.2.2.2.2.2) (fun hs_ => hs_.2.2.2.2.2)) (fun hn_ => (Kd.freshB (g := gb491) (o := .cells #[.slice Ao35 t503.length co35, .slice Ao37 t506.length co37, .int .i64 t509, .bool t510] 25 (0, 0)) (by (with_reducible repeat (first | refine blk_drewN ?_ _ | refine blk_drew ?_ | refine blk_alloc ?_ _)); exact BK491.out) k_ hn_))⟩)) (below_size (by repeat (first | (with_reducible first | exact HB.out | apply below_alloc | apply pw_below_drewN | apply below_drew1 | refine below_set ?_ GE491.out) | exact HB.out)))); have n9_ := Aside0.mk (Kd.V_lower (Kd.V_mono (ok' := fun k_ => some k_ ≠ (.slice Ao25 t482.length co25 : Value).ownBlock ∧ some k_ ≠ (.slice Ao27 t485.length co27 : Value).ownBlock ∧ some k_ ≠ (.slice Ao35 t503.length co35 : Value).ownBlock ∧ some k_ ≠ (.slice Ao37 t506.length co37 : Value).ownBlock ∧ k_ ≠ gb491) ho1 (fun k_ hk_ => ⟨Or.elim hk_ (fun hs_ => Or.elim hs_ (fun hs_ => hs_.2.1) (fun hs_ => hs_.2.1)) (fun hn_ => (Kd.fresh' (Kd.N_lt (by (with_reducible repeat (first | apply Kd.N_alloc | apply Kd.N_drewN | apply Kd.N_drew)); exact HO484.out)) k_ hn_)), Or.elim hk_ (fun hs_ => Or.elim hs_ (fun hs_ => hs_.2.2.1) (fun hs_ => hs_.2.2.1)) (fun hn_ => (Kd.fresh' (Kd.N_lt (by (with_reducible repeat (first | apply Kd.N_alloc | apply Kd.N_drewN | apply Kd.N_drew)); exact HO487.out)) k_ hn_)), Or.elim hk_ (fun hs_ => Or.elim hs_ (fun hs_ => hs_.2.2.2.1) (fun hs_ => hs_.2.2.2.1)) (fun hn_ => (Kd.fresh' (Kd.N_lt (by (with_reducible repeat (first | apply Kd.N_alloc | apply Kd.N_drewN | apply Kd.N_drew)); exact HO505.out)) k_ hn_)), Or.elim hk_ (fun hs_ => Or.elim hs_ (fun hs_ => hs_.2.2.2.2.1) (fun hs_ => hs_.2.2.2.2.1)) (fun hn_ => (Kd.fresh' (Kd.N_lt (by (with_reducible repeat (first | apply Kd.N_alloc | apply Kd.N_drewN | apply Kd.N_drew)); exact HO508.out)) k_ hn_)), Or.elim hk_ (fun hs_ => Or.elim hs_ (fun hs_ => hs_.2.2.2.2.2) (fun hs_ => hs_.2.2.2.2.2)) (fun hn_ => (Kd.freshB (g := gb491) (o := .cells #[.slice Ao35 t503.length co35, .slice Ao37 t506.length co37, .int .i64 t509, .bool t510] 25 (0, 0)) (by (with_reducible repeat (first | refine blk_drewN ?_ _ | refine blk_drew ?_ | refine blk_alloc ?_ _)); exact BK491.out) k_ hn_))⟩)) (below_size (by repeat (first | (with_reducible first | exact HB.out | apply below_alloc | apply pw_below_drewN | apply below_drew1 | refine below_set ?_ GE491.out) | exact HB.out)))); have n10_ := Aside0.mk (blk_below (g := gb491) (o := .cells #[.slice Ao35 t503.length co35, .slice Ao37 t506.length co37, .int .i64 t509, .bool t510] 25 (0, 0)) (by (with_reducible repeat (first | refine blk_drewN ?_ _ | refine blk_drew ?_ | refine blk_alloc ?_ _)); exact BK491.out) hb); have n11_ := Aside0.mk (below_step (by repeat (first | (with_reducible first | exact HB.out | apply below_alloc | apply pw_below_drewN | apply below_drew1 | refine below_set ?_ GE491.out) | exact HB.out)) hb); clear HO484; clear HO487; clear HO495; clear HO498; clear HO505; clear HO508; clear HO514; clear HO517; clear BK491; clear HB; have HO484 := n0_; have HO487 := n1_; have HO495 := n2_; have HO498 := n3_; have HO505 := n4_; have HO508 := n5_; have HO514 := n6_; have HO517 := n7_; have HO522 := n8_; have HO525 := n9_; have BK491 := n10_; have HB := n11_; clear n0_ n1_ n2_ n3_ n4_ n5_ n6_ n7_ n8_ n9_ n10_ n11_; (try clear hb); (try clear hb2); (try clear hk); (try clear hi); (try clear ho0); (try clear ho1)) | ((with_reducible refine gate_dst (N := 12) rfl ?_); (try (refine gate_guard (by rfl) ?_; dsimp only)); refine box_event ?hg (N := 12) ?hd (cs := #[.slice none 0 0, .slice none 0 0, .int .i64 0, .bool false]) (t := 25) ?hr ?_; (case hd => rfl); (case hg => rfl); (case hr => first | (go_simp; done) | (go_simp; rfl)); intro gb530 hg w42 hbox hb; have n0_ := Aside0.mk (Kd.N_below (Kd.N_elderB (by (with_reducible repeat (first | apply Kd.N_alloc | apply Kd.N_drewN | apply Kd.N_drew)); exact HO484.out) gb530 (Nat.le_of_eq hg.symm)) hb); have n1_ := Aside0.mk (Kd.N_below (Kd.N_elderB (by (with_reducible repeat (first | apply Kd.N_alloc | apply Kd.N_drewN | apply Kd.N_drew)); exact HO487.out) gb530 (Nat.le_of_eq hg.symm)) hb); have n2_ := Aside0.mk (Kd.V_below (Kd.V_elderB (by (with_reducible repeat (first | apply Kd.V_alloc | apply Kd.V_drewN | apply Kd.V_drew)); exact HO495.out) gb530 (Nat.le_of_eq hg.symm)) hb); have n3_ := Aside0.mk (Kd.V_below (Kd.V_elderB (by (with_reducible repeat (first | apply Kd.V_alloc | apply Kd.V_drewN | apply Kd.V_drew)); exact HO498.out) gb530 (Nat.le_of_eq hg.symm)) hb); have n4_ := Aside0.mk (Kd.N_below (Kd.N_elderB (by (with_reducible repeat (first | apply Kd.N_alloc | apply Kd.N_drewN | apply Kd.N_drew)); exact HO505.out) gb530 (Nat.le_of_eq hg.symm)) hb); have n5_ := Aside0.mk (Kd.N_below (Kd.N_elderB (by (with_reducible repeat (first | apply Kd.N_alloc | apply Kd.N_drewN | apply Kd.N_drew)); exact HO508.out) gb530 (Nat.le_of_eq hg.symm)) hb); have n6_ := Aside0.mk (Kd.N_below (Kd.N_elderB (by (with_reducible repeat (first | apply Kd.N_alloc | apply Kd.N_drewN | apply Kd.N_drew)); exact HO514.out) gb530 (Nat.le_of_eq hg.symm)) hb); have n7_ := Aside0.mk (Kd.N_below (Kd.N_elderB (by (with_reducible repeat (first | apply Kd.N_alloc | apply Kd.N_drewN | apply Kd.N_drew)); exact HO517.out) gb530 (Nat.le_of_eq hg.symm)) hb); have n8_ := Aside0.mk (Kd.V_below (Kd.V_elderB (by (with_reducible repeat (first | apply Kd.V_alloc | apply Kd.V_drewN | apply Kd.V_drew)); exact HO522.out) gb530 (Nat.le_of_eq hg.symm)) hb); have n9_ := Aside0.mk (Kd.V_below (Kd.V_elderB (by (with_reducible repeat (first | apply Kd.V_alloc | apply Kd.V_drewN | apply Kd.V_drew)); exact HO525.out) gb530 (Nat.le_of_eq hg.symm)) hb); have n10_ := Aside0.mk (blk_below (g := gb491) (o := .cells #[.slice Ao35 t503.length co35, .slice Ao37 t506.length co37, .int .i64 t509, .bool t510] 25 (0, 0)) (by (with_reducible repeat (first | refine blk_drewN ?_ _ | refine blk_drew ?_ | refine blk_alloc ?_ _)); exact BK491.out) hb); have n11_ := Aside0.mk (below_step (by repeat (first | (with_reducible first | exact HB.out | apply below_alloc | apply pw_below_drewN | apply below_drew1 | refine below_set ?_ GE491.out) | exact HB.out)) hb); have n12_ := Aside0.mk (hbox); have n13_ := Aside0.mk ((by rw [hg]; exact (below_size (by repeat (first | (with_reducible first | exact HB.out | apply below_alloc | apply pw_below_drewN | apply below_drew1 | refine below_set ?_ GE491.out) | exact HB.out))) : w.heap.size ≤ gb530)); have n14_ := Aside0.mk ((by rw [hg]; exact (below_size (by repeat (first | (with_reducible first | exact HB.out | apply below_alloc | apply pw_below_drewN | apply below_drew1 | refine below_set ?_ GE491.out) | exact HB.out))) : w.heap.size ≤ gb530)); have n15_ := Aside0.mk ((by rw [hg]; exact Nat.ne_of_lt (blk_lt (g := gb491) (o := .cells #[.slice Ao35 t503.length co35, .slice Ao37 t506.length co37, .int .i64 t509, .bool t510] 25 (0, 0)) (by (with_reducible repeat (first | refine blk_drewN ?_ _ | refine blk_drew ?_ | refine blk_alloc ?_ _)); exact BK491.out)) : gb491 ≠ gb530)); have n16_ := Aside0.mk ((by rw [hg]; exact Nat.ne_of_gt (blk_lt (g := gb491) (o := .cells #[.slice Ao35 t503.length co35, .slice Ao37 t506.length co37, .int .i64 t509, .bool t510] 25 (0, 0)) (by (with_reducible repeat (first | refine blk_drewN ?_ _ | refine blk_drew ?_ | refine blk_alloc ?_ _)); exact BK491.out)) : gb530 ≠ gb491)); clear HO484; clear HO487; clear HO495; clear HO498; clear HO505; clear HO508; clear HO514; clear HO517; clear HO522; clear HO525; clear BK491; clear HB; have HO484 := n0_; have HO487 := n1_; have HO495 := n2_; have HO498 := n3_; have HO505 := n4_; have HO508 := n5_; have HO514 := n6_; have HO517 := n7_; have HO522 := n8_; have HO525 := n9_; have BK491 := n10_; have HB := n11_; have BK530 := n12_; have GW530 := n13_; have GE530 := n14_; have NB491_530 := n15_; have NB530_491 := n16_; clear n0_ n1_ n2_ n3_ n4_ n5_ n6_ n7_ n8_ n9_ n10_ n11_ n12_ n13_ n14_ n15_ n16_; clear hb hbox hg; obtain ⟨Ao43, co43, eo43⟩ := Kd.V_slice HO522.out; subst eo43; have hnb44 := NB530_491.out; have hnc44 := NB491_530.out; have hcz45_0 : w42.cell? ⟨gb530, 0, none⟩ = some (.slice none 0 0) := (blk_cell BK530.out 0).trans rfl; have hcz45_1 : w42.cell? ⟨gb530, 1, none⟩ = some (.slice none 0 0) := (blk_cell BK530.out 1).trans rfl; have hcz45_2 : w42.cell? ⟨gb530, 2, none⟩ = some (.int .i64 0) := (blk_cell BK530.out 2).trans rfl; have hcz45_3 : w42.cell? ⟨gb530, 3, none⟩ = some (.bool false) := (blk_cell BK530.out 3).trans rfl; have hfz45_0 := blk_frozen BK530.out 0; have hfz45_1 := blk_frozen BK530.out 1; have hfz45_2 := blk_frozen BK530.out 2; have hfz45_3 := blk_frozen BK530.out 3; obtain ⟨Ao46, co46, eo46⟩ := Kd.V_slice HO525.out; subst eo46))
                have n0_ : Aside0 (Kd.N (Kd.slice 5 (Kd.int .u8)) 26 ((((w42.setCell ⟨gb530, 0, none⟩ (.slice Ao43 t520.length co43)).setCell ⟨gb530, 1, none⟩ (.slice Ao46 t523.length co46)).setCell ⟨gb530, 2, none⟩ (.int .i64 t526)).setCell ⟨gb530, 3, none⟩ (.bool t527)) w.heap.size (fun k_ => some k_ ≠ (.slice Ao27 t485.length co27 : Value).ownBlock ∧ some k_ ≠ (.slice Ao35 t503.length co35 : Value).ownBlock ∧ some k_ ≠ (.slice Ao37 t506.length co37 : Value).ownBlock ∧ some k_ ≠ (.slice Ao39 t512.length co39 : Value).ownBlock ∧ some k_ ≠ (.slice Ao40 t515.length co40 : Value).ownBlock ∧ k_ ≠ gb491 ∧ k_ ≠ gb530) (.slice Ao25 t482.length co25) t482) := ⟨by (with_reducible repeat (first | apply Kd.N_alloc | apply Kd.N_drewN | apply Kd.N_drew)); exact Kd.N_mono (Kd.N_far (p := ⟨gb530, 3, none⟩) (Kd.N_far (p := ⟨gb530, 2, none⟩) (Kd.N_far (p := ⟨gb530, 1, none⟩) (Kd.N_far (p := ⟨gb530, 0, none⟩) (Kd.N_mono HO484.out (fun k_ hk => (⟨hk, hk.2⟩ : _ ∧ k_ ≠ gb530))) (fun _ hk => hk.2) (.slice Ao43 t520.length co43)) (fun _ hk => hk.2) (.slice Ao46 t523.length co46)) (fun _ hk => hk.2) (.int .i64 t526)) (fun _ hk => hk.2) (.bool t527)) (fun _ hk => ⟨hk.1.1.1.1.1.1.1, ⟨hk.1.1.1.1.1.2, ⟨hk.1.1.1.1.2, ⟨hk.1.1.1.2, ⟨hk.1.1.2, ⟨hk.1.1.1.1.1.1.2, hk.1.2⟩⟩⟩⟩⟩⟩)⟩
                have n1_ : Aside0 (Kd.N k53 53 ((((w42.setCell ⟨gb530, 0, none⟩ (.slice Ao43 t520.length co43)).setCell ⟨gb530, 1, none⟩ (.slice Ao46 t523.length co46)).setCell ⟨gb530, 2, none⟩ (.int .i64 t526)).setCell ⟨gb530, 3, none⟩ (.bool t527)) w.heap.size (fun k_ => some k_ ≠ (.slice Ao25 t482.length co25 : Value).ownBlock ∧ some k_ ≠ (.slice Ao35 t503.length co35 : Value).ownBlock ∧ some k_ ≠ (.slice Ao37 t506.length co37 : Value).ownBlock ∧ some k_ ≠ (.slice Ao39 t512.length co39 : Value).ownBlock ∧ some k_ ≠ (.slice Ao40 t515.length co40 : Value).ownBlock ∧ k_ ≠ gb491 ∧ k_ ≠ gb530) (.slice Ao27 t485.length co27) t485) := ⟨by (with_reducible repeat (first | apply Kd.N_alloc | apply Kd.N_drewN | apply Kd.N_drew)); exact Kd.N_mono (Kd.N_far (p := ⟨gb530, 3, none⟩) (Kd.N_far (p := ⟨gb530, 2, none⟩) (Kd.N_far (p := ⟨gb530, 1, none⟩) (Kd.N_far (p := ⟨gb530, 0, none⟩) (Kd.N_mono HO487.out (fun k_ hk => (⟨hk, hk.2⟩ : _ ∧ k_ ≠ gb530))) (fun _ hk => hk.2) (.slice Ao43 t520.length co43)) (fun _ hk => hk.2) (.slice Ao46 t523.length co46)) (fun _ hk => hk.2) (.int .i64 t526)) (fun _ hk => hk.2) (.bool t527)) (fun _ hk => ⟨hk.1.1.1.1.1.1.1, ⟨hk.1.1.1.1.1.2, ⟨hk.1.1.1.1.2, ⟨hk.1.1.1.2, ⟨hk.1.1.2, ⟨hk.1.1.1.1.1.1.2, hk.1.2⟩⟩⟩⟩⟩⟩)⟩
                have n2_ : Aside0 (Kd.V (Kd.slice 5 (Kd.int .u8)) 26 ((((w42.setCell ⟨gb530, 0, none⟩ (.slice Ao43 t520.length co43)).setCell ⟨gb530, 1, none⟩ (.slice Ao46 t523.length co46)).setCell ⟨gb530, 2, none⟩ (.int .i64 t526)).setCell ⟨gb530, 3, none⟩ (.bool t527)) w.heap.size (fun k_ => some k_ ≠ (.slice Ao35 t503.length co35 : Value).ownBlock ∧ some k_ ≠ (.slice Ao37 t506.length co37 : Value).ownBlock ∧ some k_ ≠ (.slice Ao39 t512.length co39 : Value).ownBlock ∧ some k_ ≠ (.slice Ao40 t515.length co40 : Value).ownBlock ∧ k_ ≠ gb491 ∧ k_ ≠ gb530) (.slice Ao31 t493.length co31) t493) := ⟨by (with_reducible repeat (first | apply Kd.V_alloc | apply Kd.V_drewN | apply Kd.V_drew)); exact Kd.V_mono (Kd.V_far (p := ⟨gb530, 3, none⟩) (Kd.V_far (p := ⟨gb530, 2, none⟩) (Kd.V_far (p := ⟨gb530, 1, none⟩) (Kd.V_far (p := ⟨gb530, 0, none⟩) (Kd.V_mono HO495.out (fun k_ hk => (⟨hk, hk.2⟩ : _ ∧ k_ ≠ gb530))) (fun _ hk => hk.2) (.slice Ao43 t520.length co43)) (fun _ hk => hk.2) (.slice Ao46 t523.length co46)) (fun _ hk => hk.2) (.int .i64 t526)) (fun _ hk => hk.2) (.bool t527)) (fun _ hk => ⟨hk.1.1.1.1.1.2, ⟨hk.1.1.1.1.2, ⟨hk.1.1.1.2, ⟨hk.1.1.2, ⟨hk.1.1.1.1.1.1, hk.1.2⟩⟩⟩⟩⟩)⟩
                have n3_ : Aside0 (Kd.V k53 53 ((((w42.setCell ⟨gb530, 0, none⟩ (.slice Ao43 t520.length co43)).setCell ⟨gb530, 1, none⟩ (.slice Ao46 t523.length co46)).setCell ⟨gb530, 2, none⟩ (.int .i64 t526)).setCell ⟨gb530, 3, none⟩ (.bool t527)) w.heap.size (fun k_ => some k_ ≠ (.slice Ao35 t503.length co35 : Value).ownBlock ∧ some k_ ≠ (.slice Ao37 t506.length co37 : Value).ownBlock ∧ some k_ ≠ (.slice Ao39 t512.length co39 : Value).ownBlock ∧ some k_ ≠ (.slice Ao40 t515.length co40 : Value).ownBlock ∧ k_ ≠ gb491 ∧ k_ ≠ gb530) (.slice Ao33 t496.length co33) t496) := ⟨by (with_reducible repeat (first | apply Kd.V_alloc | apply Kd.V_drewN | apply Kd.V_drew)); exact Kd.V_mono (Kd.V_far (p := ⟨gb530, 3, none⟩) (Kd.V_far (p := ⟨gb530, 2, none⟩) (Kd.V_far (p := ⟨gb530, 1, none⟩) (Kd.V_far (p := ⟨gb530, 0, none⟩) (Kd.V_mono HO498.out (fun k_ hk => (⟨hk, hk.2⟩ : _ ∧ k_ ≠ gb530))) (fun _ hk => hk.2) (.slice Ao43 t520.length co43)) (fun _ hk => hk.2) (.slice Ao46 t523.length co46)) (fun _ hk => hk.2) (.int .i64 t526)) (fun _ hk => hk.2) (.bool t527)) (fun _ hk => ⟨hk.1.1.1.1.1.2, ⟨hk.1.1.1.1.2, ⟨hk.1.1.1.2, ⟨hk.1.1.2, ⟨hk.1.1.1.1.1.1, hk.1.2⟩⟩⟩⟩⟩)⟩
                have n4_ : Aside0 (Kd.N (Kd.slice 5 (Kd.int .u8)) 26 ((((w42.setCell ⟨gb530, 0, none⟩ (.slice Ao43 t520.length co43)).setCell ⟨gb530, 1, none⟩ (.slice Ao46 t523.length co46)).setCell ⟨gb530, 2, none⟩ (.int .i64 t526)).setCell ⟨gb530, 3, none⟩ (.bool t527)) w.heap.size (fun k_ => some k_ ≠ (.slice Ao25 t482.length co25 : Value).ownBlock ∧ some k_ ≠ (.slice Ao27 t485.length co27 : Value).ownBlock ∧ some k_ ≠ (.slice Ao37 t506.length co37 : Value).ownBlock ∧ some k_ ≠ (.slice Ao39 t512.length co39 : Value).ownBlock ∧ some k_ ≠ (.slice Ao40 t515.length co40 : Value).ownBlock ∧ k_ ≠ gb491 ∧ k_ ≠ gb530) (.slice Ao35 t503.length co35) t503) := ⟨by (with_reducible repeat (first | apply Kd.N_alloc | apply Kd.N_drewN | apply Kd.N_drew)); exact Kd.N_mono (Kd.N_far (p := ⟨gb530, 3, none⟩) (Kd.N_far (p := ⟨gb530, 2, none⟩) (Kd.N_far (p := ⟨gb530, 1, none⟩) (Kd.N_far (p := ⟨gb530, 0, none⟩) (Kd.N_mono HO505.out (fun k_ hk => (⟨hk, hk.2⟩ : _ ∧ k_ ≠ gb530))) (fun _ hk => hk.2) (.slice Ao43 t520.length co43)) (fun _ hk => hk.2) (.slice Ao46 t523.length co46)) (fun _ hk => hk.2) (.int .i64 t526)) (fun _ hk => hk.2) (.bool t527)) (fun _ hk => ⟨hk.1.1.1.1.2.1, ⟨hk.1.1.1.1.2.2.1, ⟨hk.1.1.1.1.1, ⟨hk.1.1.1.2, ⟨hk.1.1.2, ⟨hk.1.1.1.1.2.2.2, hk.1.2⟩⟩⟩⟩⟩⟩)⟩
                have n5_ : Aside0 (Kd.N k53 53 ((((w42.setCell ⟨gb530, 0, none⟩ (.slice Ao43 t520.length co43)).setCell ⟨gb530, 1, none⟩ (.slice Ao46 t523.length co46)).setCell ⟨gb530, 2, none⟩ (.int .i64 t526)).setCell ⟨gb530, 3, none⟩ (.bool t527)) w.heap.size (fun k_ => some k_ ≠ (.slice Ao25 t482.length co25 : Value).ownBlock ∧ some k_ ≠ (.slice Ao27 t485.length co27 : Value).ownBlock ∧ some k_ ≠ (.slice Ao35 t503.length co35 : Value).ownBlock ∧ some k_ ≠ (.slice Ao39 t512.length co39 : Value).ownBlock ∧ some k_ ≠ (.slice Ao40 t515.length co40 : Value).ownBlock ∧ k_ ≠ gb491 ∧ k_ ≠ gb530) (.slice Ao37 t506.length co37) t506) := ⟨by (with_reducible repeat (first | apply Kd.N_alloc | apply Kd.N_drewN | apply Kd.N_drew)); exact Kd.N_mono (Kd.N_far (p := ⟨gb530, 3, none⟩) (Kd.N_far (p := ⟨gb530, 2, none⟩) (Kd.N_far (p := ⟨gb530, 1, none⟩) (Kd.N_far (p := ⟨gb530, 0, none⟩) (Kd.N_mono HO508.out (fun k_ hk => (⟨hk, hk.2⟩ : _ ∧ k_ ≠ gb530))) (fun _ hk => hk.2) (.slice Ao43 t520.length co43)) (fun _ hk => hk.2) (.slice Ao46 t523.length co46)) (fun _ hk => hk.2) (.int .i64 t526)) (fun _ hk => hk.2) (.bool t527)) (fun _ hk => ⟨hk.1.1.1.1.2.1, ⟨hk.1.1.1.1.2.2.1, ⟨hk.1.1.1.1.1, ⟨hk.1.1.1.2, ⟨hk.1.1.2, ⟨hk.1.1.1.1.2.2.2, hk.1.2⟩⟩⟩⟩⟩⟩)⟩
                have n6_ : Aside0 (Kd.N (Kd.slice 5 (Kd.int .u8)) 26 ((((w42.setCell ⟨gb530, 0, none⟩ (.slice Ao43 t520.length co43)).setCell ⟨gb530, 1, none⟩ (.slice Ao46 t523.length co46)).setCell ⟨gb530, 2, none⟩ (.int .i64 t526)).setCell ⟨gb530, 3, none⟩ (.bool t527)) w.heap.size (fun k_ => some k_ ≠ (.slice Ao25 t482.length co25 : Value).ownBlock ∧ some k_ ≠ (.slice Ao27 t485.length co27 : Value).ownBlock ∧ some k_ ≠ (.slice Ao35 t503.length co35 : Value).ownBlock ∧ some k_ ≠ (.slice Ao37 t506.length co37 : Value).ownBlock ∧ some k_ ≠ (.slice Ao40 t515.length co40 : Value).ownBlock ∧ k_ ≠ gb491 ∧ k_ ≠ gb530) (.slice Ao39 t512.length co39) t512) := ⟨by (with_reducible repeat (first | apply Kd.N_alloc | apply Kd.N_drewN | apply Kd.N_drew)); exact Kd.N_mono (Kd.N_far (p := ⟨gb530, 3, none⟩) (Kd.N_far (p := ⟨gb530, 2, none⟩) (Kd.N_far (p := ⟨gb530, 1, none⟩) (Kd.N_far (p := ⟨gb530, 0, none⟩) (Kd.N_mono HO514.out (fun k_ hk => (⟨hk, hk.2⟩ : _ ∧ k_ ≠ gb530))) (fun _ hk => hk.2) (.slice Ao43 t520.length co43)) (fun _ hk => hk.2) (.slice Ao46 t523.length co46)) (fun _ hk => hk.2) (.int .i64 t526)) (fun _ hk => hk.2) (.bool t527)) (fun _ hk => ⟨hk.1.1.2.1, ⟨hk.1.1.2.2.1, ⟨hk.1.1.2.2.2.1, ⟨hk.1.1.2.2.2.2.1, ⟨hk.1.1.1, ⟨hk.1.1.2.2.2.2.2, hk.1.2⟩⟩⟩⟩⟩⟩)⟩
                have n7_ : Aside0 (Kd.N k53 53 ((((w42.setCell ⟨gb530, 0, none⟩ (.slice Ao43 t520.length co43)).setCell ⟨gb530, 1, none⟩ (.slice Ao46 t523.length co46)).setCell ⟨gb530, 2, none⟩ (.int .i64 t526)).setCell ⟨gb530, 3, none⟩ (.bool t527)) w.heap.size (fun k_ => some k_ ≠ (.slice Ao25 t482.length co25 : Value).ownBlock ∧ some k_ ≠ (.slice Ao27 t485.length co27 : Value).ownBlock ∧ some k_ ≠ (.slice Ao35 t503.length co35 : Value).ownBlock ∧ some k_ ≠ (.slice Ao37 t506.length co37 : Value).ownBlock ∧ some k_ ≠ (.slice Ao39 t512.length co39 : Value).ownBlock ∧ k_ ≠ gb491 ∧ k_ ≠ gb530) (.slice Ao40 t515.length co40) t515) := ⟨by (with_reducible repeat (first | apply Kd.N_alloc | apply Kd.N_drewN | apply Kd.N_drew)); exact Kd.N_mono (Kd.N_far (p := ⟨gb530, 3, none⟩) (Kd.N_far (p := ⟨gb530, 2, none⟩) (Kd.N_far (p := ⟨gb530, 1, none⟩) (Kd.N_far (p := ⟨gb530, 0, none⟩) (Kd.N_mono HO517.out (fun k_ hk => (⟨hk, hk.2⟩ : _ ∧ k_ ≠ gb530))) (fun _ hk => hk.2) (.slice Ao43 t520.length co43)) (fun _ hk => hk.2) (.slice Ao46 t523.length co46)) (fun _ hk => hk.2) (.int .i64 t526)) (fun _ hk => hk.2) (.bool t527)) (fun _ hk => ⟨hk.1.1.2.1, ⟨hk.1.1.2.2.1, ⟨hk.1.1.2.2.2.1, ⟨hk.1.1.2.2.2.2.1, ⟨hk.1.1.1, ⟨hk.1.1.2.2.2.2.2, hk.1.2⟩⟩⟩⟩⟩⟩)⟩
                have n8_ : Aside0 (Kd.V (Kd.slice 5 (Kd.int .u8)) 26 ((((w42.setCell ⟨gb530, 0, none⟩ (.slice Ao43 t520.length co43)).setCell ⟨gb530, 1, none⟩ (.slice Ao46 t523.length co46)).setCell ⟨gb530, 2, none⟩ (.int .i64 t526)).setCell ⟨gb530, 3, none⟩ (.bool t527)) w.heap.size (fun k_ => some k_ ≠ (.slice Ao25 t482.length co25 : Value).ownBlock ∧ some k_ ≠ (.slice Ao27 t485.length co27 : Value).ownBlock ∧ some k_ ≠ (.slice Ao35 t503.length co35 : Value).ownBlock ∧ some k_ ≠ (.slice Ao37 t506.length co37 : Value).ownBlock ∧ k_ ≠ gb491 ∧ k_ ≠ gb530) (.slice Ao43 t520.length co43) t520) := ⟨by (with_reducible repeat (first | apply Kd.V_alloc | apply Kd.V_drewN | apply Kd.V_drew)); exact Kd.V_mono (Kd.V_far (p := ⟨gb530, 3, none⟩) (Kd.V_far (p := ⟨gb530, 2, none⟩) (Kd.V_far (p := ⟨gb530, 1, none⟩) (Kd.V_far (p := ⟨gb530, 0, none⟩) (Kd.V_mono HO522.out (fun k_ hk => (⟨hk, hk.2⟩ : _ ∧ k_ ≠ gb530))) (fun _ hk => hk.2) (.slice Ao43 t520.length co43)) (fun _ hk => hk.2) (.slice Ao46 t523.length co46)) (fun _ hk => hk.2) (.int .i64 t526)) (fun _ hk => hk.2) (.bool t527)) (fun _ hk => ⟨hk.1.1.1, ⟨hk.1.1.2.1, ⟨hk.1.1.2.2.1, ⟨hk.1.1.2.2.2.1, ⟨hk.1.1.2.2.2.2, hk.1.2⟩⟩⟩⟩⟩)⟩
                have n9_ : Aside0 (Kd.V k53 53 ((((w42.setCell ⟨gb530, 0, none⟩ (.slice Ao43 t520.length co43)).setCell ⟨gb530, 1, none⟩ (.slice Ao46 t523.length co46)).setCell ⟨gb530, 2, none⟩ (.int .i64 t526)).setCell ⟨gb530, 3, none⟩ (.bool t527)) w.heap.size (fun k_ => some k_ ≠ (.slice Ao25 t482.length co25 : Value).ownBlock ∧ some k_ ≠ (.slice Ao27 t485.length co27 : Value).ownBlock ∧ some k_ ≠ (.slice Ao35 t503.length co35 : Value).ownBlock ∧ some k_ ≠ (.slice Ao37 t506.length co37 : Value).ownBlock ∧ k_ ≠ gb491 ∧ k_ ≠ gb530) (.slice Ao46 t523.length co46) t523) := ⟨by (with_reducible repeat (first | apply Kd.V_alloc | apply Kd.V_drewN | apply Kd.V_drew)); exact Kd.V_mono (Kd.V_far (p := ⟨gb530, 3, none⟩) (Kd.V_far (p := ⟨gb530, 2, none⟩) (Kd.V_far (p := ⟨gb530, 1, none⟩) (Kd.V_far (p := ⟨gb530, 0, none⟩) (Kd.V_mono HO525.out (fun k_ hk => (⟨hk, hk.2⟩ : _ ∧ k_ ≠ gb530))) (fun _ hk => hk.2) (.slice Ao43 t520.length co43)) (fun _ hk => hk.2) (.slice Ao46 t523.length co46)) (fun _ hk => hk.2) (.int .i64 t526)) (fun _ hk => hk.2) (.bool t527)) (fun _ hk => ⟨hk.1.1.1, ⟨hk.1.1.2.1, ⟨hk.1.1.2.2.1, ⟨hk.1.1.2.2.2.1, ⟨hk.1.1.2.2.2.2, hk.1.2⟩⟩⟩⟩⟩)⟩
                have n10_ : Aside0 (((((w42.setCell ⟨gb530, 0, none⟩ (.slice Ao43 t520.length co43)).setCell ⟨gb530, 1, none⟩ (.slice Ao46 t523.length co46)).setCell ⟨gb530, 2, none⟩ (.int .i64 t526)).setCell ⟨gb530, 3, none⟩ (.bool t527)).heap[gb491]? = some (.cells #[.slice Ao35 t503.length co35, .slice Ao37 t506.length co37, .int .i64 t509, .bool t510] 25 (0, 0))) := ⟨by (with_reducible repeat (first | refine blk_drewN ?_ _ | refine blk_drew ?_ | refine blk_alloc ?_ _)); refine blk_far ?_ NB491_530.out _; (with_reducible repeat (first | refine blk_drewN ?_ _ | refine blk_drew ?_ | refine blk_alloc ?_ _)); refine blk_far ?_ NB491_530.out _; (with_reducible repeat (first | refine blk_drewN ?_ _ | refine blk_drew ?_ | refine blk_alloc ?_ _)); refine blk_far ?_ NB491_530.out _; (with_reducible repeat (first | refine blk_drewN ?_ _ | refine blk_drew ?_ | refine blk_alloc ?_ _)); refine blk_far ?_ NB491_530.out _; (with_reducible repeat (first | refine blk_drewN ?_ _ | refine blk_drew ?_ | refine blk_alloc ?_ _)); exact BK491.out⟩
                have n11_ : Aside0 (((((w42.setCell ⟨gb530, 0, none⟩ (.slice Ao43 t520.length co43)).setCell ⟨gb530, 1, none⟩ (.slice Ao46 t523.length co46)).setCell ⟨gb530, 2, none⟩ (.int .i64 t526)).setCell ⟨gb530, 3, none⟩ (.bool t527)).heap[gb530]? = some (.cells #[.slice Ao43 t520.length co43, .slice Ao46 t523.length co46, .int .i64 t526, .bool t527] 25 (0, 0))) := ⟨by (with_reducible repeat (first | refine blk_drewN ?_ _ | refine blk_drew ?_ | refine blk_alloc ?_ _)); refine blk_put (cs := #[.slice Ao43 t520.length co43, .slice Ao46 t523.length co46, .int .i64 t526, .bool false]) ?_ 3 _ rfl; (with_reducible repeat (first | refine blk_drewN ?_ _ | refine blk_drew ?_ | refine blk_alloc ?_ _)); refine blk_put (cs := #[.slice Ao43 t520.length co43, .slice Ao46 t523.length co46, .int .i64 0, .bool false]) ?_ 2 _ rfl; (with_reducible repeat (first | refine blk_drewN ?_ _ | refine blk_drew ?_ | refine blk_alloc ?_ _)); refine blk_put (cs := #[.slice Ao43 t520.length co43, .slice none 0 0, .int .i64 0, .bool false]) ?_ 1 _ rfl; (with_reducible repeat (first | refine blk_drewN ?_ _ | refine blk_drew ?_ | refine blk_alloc ?_ _)); refine blk_put (cs := #[.slice none 0 0, .slice none 0 0, .int .i64 0, .bool false]) ?_ 0 _ rfl; (with_reducible repeat (first | refine blk_drewN ?_ _ | refine blk_drew ?_ | refine blk_alloc ?_ _)); exact BK530.out⟩
                have n12_ : Aside0 (Below w.heap.size w ((((w42.setCell ⟨gb530, 0, none⟩ (.slice Ao43 t520.length co43)).setCell ⟨gb530, 1, none⟩ (.slice Ao46 t523.length co46)).setCell ⟨gb530, 2, none⟩ (.int .i64 t526)).setCell ⟨gb530, 3, none⟩ (.bool t527))) := ⟨by repeat (first | (with_reducible first | exact HB.out | apply below_alloc | apply pw_below_drewN | apply below_drew1 | refine below_set ?_ GE491.out | refine below_set ?_ GE530.out) | exact HB.out)⟩
                (try clear HO484)
                (try clear HO487)
                (try clear HO495)
                (try clear HO498)
                (try clear HO505)
                (try clear HO508)
                (try clear HO514)
                (try clear HO517)
                (try clear HO522)
                (try clear HO525)
                (try clear BK491)
                (try clear BK530)
                (try clear HB)
                generalize ((((w42.setCell ⟨gb530, 0, none⟩ (.slice Ao43 t520.length co43)).setCell ⟨gb530, 1, none⟩ (.slice Ao46 t523.length co46)).setCell ⟨gb530, 2, none⟩ (.int .i64 t526)).setCell ⟨gb530, 3, none⟩ (.bool t527)) = w47 at n0_ n1_ n2_ n3_ n4_ n5_ n6_ n7_ n8_ n9_ n10_ n11_ n12_ ⊢
                have HO484 := n0_
                have HO487 := n1_
                have HO495 := n2_
                have HO498 := n3_
                have HO505 := n4_
                have HO508 := n5_
                have HO514 := n6_
                have HO517 := n7_
                have HO522 := n8_
                have HO525 := n9_
                have BK491 := n10_
                have BK530 := n11_
                have HB := n12_
                clear n0_ n1_ n2_ n3_ n4_ n5_ n6_ n7_ n8_ n9_ n10_ n11_ n12_
                have n0_ := Aside0.mk (Kd.N_drew HO484.out)
                have n1_ := Aside0.mk (Kd.N_drew HO487.out)
                have n2_ := Aside0.mk (Kd.V_drew HO495.out)
                have n3_ := Aside0.mk (Kd.V_drew HO498.out)
                have n4_ := Aside0.mk (Kd.N_drew HO505.out)
                have n5_ := Aside0.mk (Kd.N_drew HO508.out)
                have n6_ := Aside0.mk (Kd.N_drew HO514.out)
                have n7_ := Aside0.mk (Kd.N_drew HO517.out)
                have n8_ := Aside0.mk (Kd.V_drew HO522.out)
                have n9_ := Aside0.mk (Kd.V_drew HO525.out)
                have n10_ := Aside0.mk (blk_drew BK491.out)
                have n11_ := Aside0.mk (blk_drew BK530.out)
                have n12_ := Aside0.mk (below_drew1 HB.out)
                clear HO484
                clear HO487
                clear HO495
                clear HO498
                clear HO505
                clear HO508
                clear HO514
                clear HO517
                clear HO522
                clear HO525
                clear BK491
                clear BK530
                clear HB
                have HO484 := n0_
                have HO487 := n1_
                have HO495 := n2_
                have HO498 := n3_
                have HO505 := n4_
                have HO508 := n5_
                have HO514 := n6_
                have HO517 := n7_
                have HO522 := n8_
                have HO525 := n9_
                have BK491 := n10_
                have BK530 := n11_
                have HB := n12_
                clear n0_ n1_ n2_ n3_ n4_ n5_ n6_ n7_ n8_ n9_ n10_ n11_ n12_
                refine start_ (n := 16) (S := fun w' => w'.cell? ⟨gb491, 0, none⟩ = some (.slice Ao35 t503.length co35) ∧ w'.cell? ⟨gb491, 1, none⟩ = some (.slice Ao37 t506.length co37) ∧ w'.cell? ⟨gb491, 2, none⟩ = some (.int .i64 t509) ∧ w'.cell? ⟨gb491, 3, none⟩ = some (.bool t510) ∧ w'.cell? ⟨gb530, 0, none⟩ = some (.slice Ao43 t520.length co43) ∧ w'.cell? ⟨gb530, 1, none⟩ = some (.slice Ao46 t523.length co46) ∧ w'.cell? ⟨gb530, 2, none⟩ = some (.int .i64 t526) ∧ w'.cell? ⟨gb530, 3, none⟩ = some (.bool t527)) (ds := []) #[false, false, false, false, false, false, false, false, false, false, false, false, false, false, false, false] (by kernel_rfl) rfl rfl ⟨(blk_cell BK491.out 0).trans rfl, (blk_cell BK491.out 1).trans rfl, (blk_cell BK491.out 2).trans rfl, (blk_cell BK491.out 3).trans rfl, (blk_cell BK530.out 0).trans rfl, (blk_cell BK530.out 1).trans rfl, (blk_cell BK530.out 2).trans rfl, (blk_cell BK530.out 3).trans rfl⟩ (fun hHeld => ?_); refine with_tabW mapsheetslaw24_DeviceLoses.tab9 mapsheetslaw24_DeviceLoses.bits9 (fun HT_ HW_ => ?_)
                generalize w47.drew = w48 at HO484 HO487 HO495 HO498 HO505 HO508 HO514 HO517 HO522 HO525 BK491 BK530 HB hHeld ⊢
                refine pure_ (i := 0) (N := some 57) (v := ?_) (a' := ?_) #[true, false, false, false, false, false, false, false, false, false, false, false, false, false, false, false] rfl rfl (any_of HT_.out (by kernel_rfl)) (fun _ _ _ h => h) (Or.inl ⟨by rfl, ?_⟩) ?_ ?_
                rotate_left
                · intro w'
                  go_simp
                  with_reducible rfl
                rotate_left
                · simp only [Act.put, List.setIfInBounds_toArray, List.set_cons_zero, List.set_cons_succ, i64_w, i32_w]
                  rfl
                refine pure_ (i := 1) (N := some 58) (v := ?_) (a' := ?_) #[true, true, false, false, false, false, false, false, false, false, false, false, false, false, false, false] rfl rfl (any_of HT_.out (by kernel_rfl)) (fun _ _ _ h => h) (Or.inl ⟨by rfl, ?_⟩) ?_ ?_
                rotate_left
                · intro w'
                  go_simp
                  with_reducible rfl
                rotate_left
                · simp only [Act.put, List.setIfInBounds_toArray, List.set_cons_zero, List.set_cons_succ, i64_w, i32_w]
                  rfl
                refine pure_ (i := 2) (N := some 59) (v := ?_) (a' := ?_) #[true, true, true, false, false, false, false, false, false, false, false, false, false, false, false, false] rfl rfl (any_of HT_.out (by kernel_rfl)) (fun _ _ _ h => h) (Or.inl ⟨by rfl, ?_⟩) ?_ ?_
                rotate_left
                · intro w'
                  go_simp
                  with_reducible rfl
                rotate_left
                · simp only [Act.put, List.setIfInBounds_toArray, List.set_cons_zero, List.set_cons_succ, i64_w, i32_w]
                  rfl
                refine pure_ (i := 3) (N := some 60) (v := ?_) (a' := ?_) #[true, true, true, true, false, false, false, false, false, false, false, false, false, false, false, false] rfl rfl (any_of HT_.out (by kernel_rfl)) (fun _ _ _ h => h) (Or.inl ⟨by rfl, ?_⟩) ?_ ?_
                rotate_left
                · intro w'
                  go_simp
                  with_reducible rfl
                rotate_left
                · simp only [Act.put, List.setIfInBounds_toArray, List.set_cons_zero, List.set_cons_succ, i64_w, i32_w]
                  rfl
                refine pure_ (i := 4) (N := some 61) (v := ?_) (a' := ?_) #[true, true, true, true, true, false, false, false, false, false, false, false, false, false, false, false] rfl rfl (any_of HT_.out (by kernel_rfl)) (fun _ _ _ h => h) (Or.inl ⟨by rfl, ?_⟩) ?_ ?_
                rotate_left
                · intro w'
                  go_simp
                  with_reducible rfl
                rotate_left
                · simp only [Act.put, List.setIfInBounds_toArray, List.set_cons_zero, List.set_cons_succ, i64_w, i32_w]
                  rfl
                refine pure_ (i := 5) (N := some 62) (v := ?_) (a' := ?_) #[true, true, true, true, true, true, false, false, false, false, false, false, false, false, false, false] rfl rfl (any_of HT_.out (by kernel_rfl)) (fun _ _ _ h => h) (Or.inl ⟨by rfl, ?_⟩) ?_ ?_
                rotate_left
                · intro w'
                  go_simp
                  with_reducible rfl
                rotate_left
                · simp only [Act.put, List.setIfInBounds_toArray, List.set_cons_zero, List.set_cons_succ, i64_w, i32_w]
                  rfl
                refine pure_ (i := 6) (N := some 63) (v := ?_) (a' := ?_) #[true, true, true, true, true, true, true, false, false, false, false, false, false, false, false, false] rfl rfl (any_of HT_.out (by kernel_rfl)) (fun _ _ _ h => h) (Or.inl ⟨by rfl, ?_⟩) ?_ ?_
                rotate_left
                · intro w'
                  go_simp
                  with_reducible rfl
                rotate_left
                · simp only [Act.put, List.setIfInBounds_toArray, List.set_cons_zero, List.set_cons_succ, i64_w, i32_w]
                  rfl
                refine take_ (i := 7) (N := some 64) (v := ?_) (a' := ?_) #[true, true, true, true, true, true, true, true, false, false, false, false, false, false, false, false] rfl rfl (take_ofW HT_.out HW_.out (by kernel_rfl)) (fun _ _ _ h => h) (Or.inl ⟨by rfl, ?_⟩) hHeld ?_ ?_
                rotate_left
                · rintro w' ⟨s0, s1, s2, s3, s4, s5, s6, s7⟩
                  go_simp
                  with_reducible rfl
                rotate_left
                · simp only [Act.put, List.setIfInBounds_toArray, List.set_cons_zero, List.set_cons_succ, i64_w, i32_w]
                  rfl
                refine take_ (i := 8) (N := some 65) (v := ?_) (a' := ?_) #[true, true, true, true, true, true, true, true, true, false, false, false, false, false, false, false] rfl rfl (take_ofW HT_.out HW_.out (by kernel_rfl)) (fun _ _ _ h => h) (Or.inl ⟨by rfl, ?_⟩) hHeld ?_ ?_
                rotate_left
                · rintro w' ⟨s0, s1, s2, s3, s4, s5, s6, s7⟩
                  go_simp
                  with_reducible rfl
                rotate_left
                · simp only [Act.put, List.setIfInBounds_toArray, List.set_cons_zero, List.set_cons_succ, i64_w, i32_w]
                  rfl
                refine one_ (i := 9) (N := some 66) #[true, true, true, true, true, true, true, true, true, true, false, false, false, false, false, false] rfl rfl (one_of HT_.out (by kernel_rfl)) (by decide) (fun K hK => ?_)
                refine goes_ Try.func25 (by kernel_rfl) rfl #[.agg #[.slice Ao43 t520.length co43, .slice Ao46 t523.length co46, .int .i64 t526, .bool t527], .slice none 0 0] (by rfl) rfl rfl (by (try simp only [List.map_toArray, List.map_cons, List.map_nil]); first | done | rfl | (simp only [List.length_drop, List.length_take]; rfl)) ?_
                refine (device_Crash.calls kj4 _ _ t520 _ _ t523 t526 t527 _ _ ([] : List Int) t531 t534 t537 t538 _ ?side1 ?side2 ?side3 ?side4 ?side5 ?side6 A19.out).mono ?_
                (case side1 => repeat (first | exact (Kd.V_reads' HO522.out).2.2 | (with_reducible refine Kd.C_alloc ?_ _) | (with_reducible refine Kd.C_drewN ?_ _) | (with_reducible refine Kd.C_drew ?_)))
                (case side2 => exact (Kd.V_reads' HO522.out).2.1)
                (case side3 => repeat (first | exact (Kd.V_reads' HO525.out).2.2 | (with_reducible refine Kd.C_alloc ?_ _) | (with_reducible refine Kd.C_drewN ?_ _) | (with_reducible refine Kd.C_drew ?_)))
                (case side4 => exact (Kd.V_reads' HO525.out).2.1)
                (case side5 => exact Kd.C_nil _ _)
                (case side6 => exact Nat.le_refl _)
                rintro e w49 ⟨v532, v535, rfl, ho0, ho1, hb⟩
                refine ⟨_, rfl, ?_⟩
                have n0_ := Aside0.mk (Kd.N_mono (Kd.N_told (Kd.N_told (Kd.N_old (by (with_reducible repeat (first | apply Kd.N_alloc | apply Kd.N_drewN | apply Kd.N_drew)); exact HO484.out) hb) (by first | exact Kd.N_base ho0 | exact Kd.S_base ho0)) (by first | exact Kd.N_base ho1 | exact Kd.S_base ho1)) (fun _ h_ => h_.1))
                have n1_ := Aside0.mk (Kd.N_mono (Kd.N_told (Kd.N_told (Kd.N_old (by (with_reducible repeat (first | apply Kd.N_alloc | apply Kd.N_drewN | apply Kd.N_drew)); exact HO487.out) hb) (by first | exact Kd.N_base ho0 | exact Kd.S_base ho0)) (by first | exact Kd.N_base ho1 | exact Kd.S_base ho1)) (fun _ h_ => h_.1))
                have n2_ := Aside0.mk (Kd.V_mono (Kd.V_told (Kd.V_told (Kd.V_old (by (with_reducible repeat (first | apply Kd.V_alloc | apply Kd.V_drewN | apply Kd.V_drew)); exact HO495.out) hb) (by first | exact Kd.N_base ho0 | exact Kd.S_base ho0)) (by first | exact Kd.N_base ho1 | exact Kd.S_base ho1)) (fun _ h_ => h_.1))
                have n3_ := Aside0.mk (Kd.V_mono (Kd.V_told (Kd.V_told (Kd.V_old (by (with_reducible repeat (first | apply Kd.V_alloc | apply Kd.V_drewN | apply Kd.V_drew)); exact HO498.out) hb) (by first | exact Kd.N_base ho0 | exact Kd.S_base ho0)) (by first | exact Kd.N_base ho1 | exact Kd.S_base ho1)) (fun _ h_ => h_.1))
                have n4_ := Aside0.mk (Kd.N_mono (Kd.N_told (Kd.N_told (Kd.N_old (by (with_reducible repeat (first | apply Kd.N_alloc | apply Kd.N_drewN | apply Kd.N_drew)); exact HO505.out) hb) (by first | exact Kd.N_base ho0 | exact Kd.S_base ho0)) (by first | exact Kd.N_base ho1 | exact Kd.S_base ho1)) (fun _ h_ => h_.1))
                have n5_ := Aside0.mk (Kd.N_mono (Kd.N_told (Kd.N_told (Kd.N_old (by (with_reducible repeat (first | apply Kd.N_alloc | apply Kd.N_drewN | apply Kd.N_drew)); exact HO508.out) hb) (by first | exact Kd.N_base ho0 | exact Kd.S_base ho0)) (by first | exact Kd.N_base ho1 | exact Kd.S_base ho1)) (fun _ h_ => h_.1))
                have n6_ := Aside0.mk (Kd.N_mono (Kd.N_told (Kd.N_told (Kd.N_old (by (with_reducible repeat (first | apply Kd.N_alloc | apply Kd.N_drewN | apply Kd.N_drew)); exact HO514.out) hb) (by first | exact Kd.N_base ho0 | exact Kd.S_base ho0)) (by first | exact Kd.N_base ho1 | exact Kd.S_base ho1)) (fun _ h_ => h_.1))
                have n7_ := Aside0.mk (Kd.N_mono (Kd.N_told (Kd.N_told (Kd.N_old (by (with_reducible repeat (first | apply Kd.N_alloc | apply Kd.N_drewN | apply Kd.N_drew)); exact HO517.out) hb) (by first | exact Kd.N_base ho0 | exact Kd.S_base ho0)) (by first | exact Kd.N_base ho1 | exact Kd.S_base ho1)) (fun _ h_ => h_.1))
                have n8_ := Aside0.mk (Kd.V_mono (Kd.V_told (Kd.V_told (Kd.V_old (by (with_reducible repeat (first | apply Kd.V_alloc | apply Kd.V_drewN | apply Kd.V_drew)); exact HO522.out) hb) (by first | exact Kd.N_base ho0 | exact Kd.S_base ho0)) (by first | exact Kd.N_base ho1 | exact Kd.S_base ho1)) (fun _ h_ => h_.1))
                have n9_ := Aside0.mk (Kd.V_mono (Kd.V_told (Kd.V_told (Kd.V_old (by (with_reducible repeat (first | apply Kd.V_alloc | apply Kd.V_drewN | apply Kd.V_drew)); exact HO525.out) hb) (by first | exact Kd.N_base ho0 | exact Kd.S_base ho0)) (by first | exact Kd.N_base ho1 | exact Kd.S_base ho1)) (fun _ h_ => h_.1))
                have n10_ := Aside0.mk (Kd.N_lower (Kd.N_mono (ok' := fun k_ => some k_ ≠ (v535 : Value).ownBlock ∧ some k_ ≠ (.slice Ao25 t482.length co25 : Value).ownBlock ∧ some k_ ≠ (.slice Ao27 t485.length co27 : Value).ownBlock ∧ some k_ ≠ (.slice Ao35 t503.length co35 : Value).ownBlock ∧ some k_ ≠ (.slice Ao37 t506.length co37 : Value).ownBlock ∧ some k_ ≠ (.slice Ao39 t512.length co39 : Value).ownBlock ∧ some k_ ≠ (.slice Ao40 t515.length co40 : Value).ownBlock ∧ k_ ≠ gb491 ∧ k_ ≠ gb530) ho0 (fun k_ hk_ => ⟨hk_.2, (Kd.fresh' (Kd.N_lt (by (with_reducible repeat (first | apply Kd.N_alloc | apply Kd.N_drewN | apply Kd.N_drew)); exact HO484.out)) k_ hk_.1), (Kd.fresh' (Kd.N_lt (by (with_reducible repeat (first | apply Kd.N_alloc | apply Kd.N_drewN | apply Kd.N_drew)); exact HO487.out)) k_ hk_.1), (Kd.fresh' (Kd.N_lt (by (with_reducible repeat (first | apply Kd.N_alloc | apply Kd.N_drewN | apply Kd.N_drew)); exact HO505.out)) k_ hk_.1), (Kd.fresh' (Kd.N_lt (by (with_reducible repeat (first | apply Kd.N_alloc | apply Kd.N_drewN | apply Kd.N_drew)); exact HO508.out)) k_ hk_.1), (Kd.fresh' (Kd.N_lt (by (with_reducible repeat (first | apply Kd.N_alloc | apply Kd.N_drewN | apply Kd.N_drew)); exact HO514.out)) k_ hk_.1), (Kd.fresh' (Kd.N_lt (by (with_reducible repeat (first | apply Kd.N_alloc | apply Kd.N_drewN | apply Kd.N_drew)); exact HO517.out)) k_ hk_.1), (Kd.freshB (g := gb491) (o := .cells #[.slice Ao35 t503.length co35, .slice Ao37 t506.length co37, .int .i64 t509, .bool t510] 25 (0, 0)) (by (with_reducible repeat (first | refine blk_drewN ?_ _ | refine blk_drew ?_ | refine blk_alloc ?_ _)); exact BK491.out) k_ hk_.1), (Kd.freshB (g := gb530) (o := .cells #[.slice Ao43 t520.length co43, .slice Ao46 t523.length co46, .int .i64 t526, .bool t527] 25 (0, 0)) (by (with_reducible repeat (first | refine blk_drewN ?_ _ | refine blk_drew ?_ | refine blk_alloc ?_ _)); exact BK530.out) k_ hk_.1)⟩)) (below_size (by repeat (first | (with_reducible first | exact HB.out | apply below_alloc | apply pw_below_drewN | apply below_drew1 | refine below_set ?_ GE491.out | refine below_set ?_ GE530.out) | exact HB.out))))
                have n11_ := Aside0.mk (Kd.N_lower (Kd.N_mono (ok' := fun k_ => some k_ ≠ (v532 : Value).ownBlock ∧ some k_ ≠ (.slice Ao25 t482.length co25 : Value).ownBlock ∧ some k_ ≠ (.slice Ao27 t485.length co27 : Value).ownBlock ∧ some k_ ≠ (.slice Ao35 t503.length co35 : Value).ownBlock ∧ some k_ ≠ (.slice Ao37 t506.length co37 : Value).ownBlock ∧ some k_ ≠ (.slice Ao39 t512.length co39 : Value).ownBlock ∧ some k_ ≠ (.slice Ao40 t515.length co40 : Value).ownBlock ∧ k_ ≠ gb491 ∧ k_ ≠ gb530) ho1 (fun k_ hk_ => ⟨hk_.2, (Kd.fresh' (Kd.N_lt (by (with_reducible repeat (first | apply Kd.N_alloc | apply Kd.N_drewN | apply Kd.N_drew)); exact HO484.out)) k_ hk_.1), (Kd.fresh' (Kd.N_lt (by (with_reducible repeat (first | apply Kd.N_alloc | apply Kd.N_drewN | apply Kd.N_drew)); exact HO487.out)) k_ hk_.1), (Kd.fresh' (Kd.N_lt (by (with_reducible repeat (first | apply Kd.N_alloc | apply Kd.N_drewN | apply Kd.N_drew)); exact HO505.out)) k_ hk_.1), (Kd.fresh' (Kd.N_lt (by (with_reducible repeat (first | apply Kd.N_alloc | apply Kd.N_drewN | apply Kd.N_drew)); exact HO508.out)) k_ hk_.1), (Kd.fresh' (Kd.N_lt (by (with_reducible repeat (first | apply Kd.N_alloc | apply Kd.N_drewN | apply Kd.N_drew)); exact HO514.out)) k_ hk_.1), (Kd.fresh' (Kd.N_lt (by (with_reducible repeat (first | apply Kd.N_alloc | apply Kd.N_drewN | apply Kd.N_drew)); exact HO517.out)) k_ hk_.1), (Kd.freshB (g := gb491) (o := .cells #[.slice Ao35 t503.length co35, .slice Ao37 t506.length co37, .int .i64 t509, .bool t510] 25 (0, 0)) (by (with_reducible repeat (first | refine blk_drewN ?_ _ | refine blk_drew ?_ | refine blk_alloc ?_ _)); exact BK491.out) k_ hk_.1), (Kd.freshB (g := gb530) (o := .cells #[.slice Ao43 t520.length co43, .slice Ao46 t523.length co46, .int .i64 t526, .bool t527] 25 (0, 0)) (by (with_reducible repeat (first | refine blk_drewN ?_ _ | refine blk_drew ?_ | refine blk_alloc ?_ _)); exact BK530.out) k_ hk_.1)⟩)) (below_size (by repeat (first | (with_reducible first | exact HB.out | apply below_alloc | apply pw_below_drewN | apply below_drew1 | refine below_set ?_ GE491.out | refine below_set ?_ GE530.out) | exact HB.out))))
                have n12_ := Aside0.mk (blk_below (g := gb491) (o := .cells #[.slice Ao35 t503.length co35, .slice Ao37 t506.length co37, .int .i64 t509, .bool t510] 25 (0, 0)) (by (with_reducible repeat (first | refine blk_drewN ?_ _ | refine blk_drew ?_ | refine blk_alloc ?_ _)); exact BK491.out) hb)
                have n13_ := Aside0.mk (blk_below (g := gb530) (o := .cells #[.slice Ao43 t520.length co43, .slice Ao46 t523.length co46, .int .i64 t526, .bool t527] 25 (0, 0)) (by (with_reducible repeat (first | refine blk_drewN ?_ _ | refine blk_drew ?_ | refine blk_alloc ?_ _)); exact BK530.out) hb)
                have n14_ := Aside0.mk (below_step (by repeat (first | (with_reducible first | exact HB.out | apply below_alloc | apply pw_below_drewN | apply below_drew1 | refine below_set ?_ GE491.out | refine below_set ?_ GE530.out) | exact HB.out)) hb)
                clear HO484
                clear HO487
                clear HO495
                clear HO498
                clear HO505
                clear HO508
                clear HO514
                clear HO517
                clear HO522
                clear HO525
                clear BK491
                clear BK530
                clear HB
                have HO484 := n0_
                have HO487 := n1_
                have HO495 := n2_
                have HO498 := n3_
                have HO505 := n4_
                have HO508 := n5_
                have HO514 := n6_
                have HO517 := n7_
                have HO522 := n8_
                have HO525 := n9_
                have HO533 := n10_
                have HO536 := n11_
                have BK491 := n12_
                have BK530 := n13_
                have HB := n14_
                clear n0_ n1_ n2_ n3_ n4_ n5_ n6_ n7_ n8_ n9_ n10_ n11_ n12_ n13_ n14_
                (try clear hb)
                (try clear hb2)
                (try clear hk)
                (try clear hi)
                (try clear ho0)
                (try clear ho1)
                obtain ⟨Ao50, co50, eo50⟩ := Kd.N_slice HO533.out
                (first | subst eo50 | (injection eo50 with f1_ f2_ f3_; have f4_ := f1_.symm; have f5_ := f3_.symm; clear f1_ f2_ f3_; subst f4_; subst f5_))
                obtain ⟨Ao51, co51, eo51⟩ := Kd.N_slice HO536.out
                (first | subst eo51 | (injection eo51 with f1_ f2_ f3_; have f4_ := f1_.symm; have f5_ := f3_.symm; clear f1_ f2_ f3_; subst f4_; subst f5_))
                refine hK.out _ _ ⟨(blk_cell BK491.out 0).trans rfl, (blk_cell BK491.out 1).trans rfl, (blk_cell BK491.out 2).trans rfl, (blk_cell BK491.out 3).trans rfl, (blk_cell BK530.out 0).trans rfl, (blk_cell BK530.out 1).trans rfl, (blk_cell BK530.out 2).trans rfl, (blk_cell BK530.out 3).trans rfl⟩ (fun hHeld => ?_)
                clear hK K
                refine norm_ (a' := ?_) ?_ ?_
                rotate_left
                · show Act.put _ (some 66) _ = _
                  simp only [Act.put, List.setIfInBounds_toArray, List.set_cons_zero, List.set_cons_succ, i64_w, i32_w]
                  rfl
                refine one_ (i := 10) (N := some 67) #[true, true, true, true, true, true, true, true, true, true, true, false, false, false, false, false] rfl rfl (one_of HT_.out (by kernel_rfl)) (by decide) (fun K hK => ?_)
                refine goes_ Try.func28 (by kernel_rfl) rfl #[.agg #[.slice Ao35 t503.length co35, .slice Ao37 t506.length co37, .int .i64 t509, .bool t510], .agg #[.slice Ao50 t531.length co50, .slice Ao51 t534.length co51, .int .i64 t537, .bool t538], .int .i64 (-1)] (by rfl) rfl rfl (by (try simp only [List.map_toArray, List.map_cons, List.map_nil]); first | done | rfl | (simp only [List.length_drop, List.length_take]; rfl)) ?_
                with_reducible refine (mapsheetslaw24_same.calls kj4 _ _ t503 _ _ t506 t509 t510 _ _ t531 _ _ t534 t537 t538 (-1) true _ ?side1 ?side2 ?side3 ?side4 ?side5 ?side6 ?side7 ?side8 A20.out).mono ?_
                (case side1 => repeat (first | exact (Kd.N_reads' HO505.out).2.2 | (with_reducible refine Kd.C_alloc ?_ _) | (with_reducible refine Kd.C_drewN ?_ _) | (with_reducible refine Kd.C_drew ?_)))
                (case side2 => exact (Kd.N_reads' HO505.out).2.1)
                (case side3 => repeat (first | exact (Kd.N_reads' HO508.out).2.2 | (with_reducible refine Kd.C_alloc ?_ _) | (with_reducible refine Kd.C_drewN ?_ _) | (with_reducible refine Kd.C_drew ?_)))
                (case side4 => exact (Kd.N_reads' HO508.out).2.1)
                (case side5 => repeat (first | exact (Kd.N_reads' HO533.out).2.2 | (with_reducible refine Kd.C_alloc ?_ _) | (with_reducible refine Kd.C_drewN ?_ _) | (with_reducible refine Kd.C_drew ?_)))
                (case side6 => exact (Kd.N_reads' HO533.out).2.1)
                (case side7 => repeat (first | exact (Kd.N_reads' HO536.out).2.2 | (with_reducible refine Kd.C_alloc ?_ _) | (with_reducible refine Kd.C_drewN ?_ _) | (with_reducible refine Kd.C_drew ?_)))
                (case side8 => exact (Kd.N_reads' HO536.out).2.1)
                rintro e w52 ⟨rfl, hb⟩
                refine ⟨_, rfl, ?_⟩
                have n0_ := Aside0.mk (Kd.N_below (by (with_reducible repeat (first | apply Kd.N_alloc | apply Kd.N_drewN | apply Kd.N_drew)); exact HO484.out) hb)
                have n1_ := Aside0.mk (Kd.N_below (by (with_reducible repeat (first | apply Kd.N_alloc | apply Kd.N_drewN | apply Kd.N_drew)); exact HO487.out) hb)
                have n2_ := Aside0.mk (Kd.V_below (by (with_reducible repeat (first | apply Kd.V_alloc | apply Kd.V_drewN | apply Kd.V_drew)); exact HO495.out) hb)
                have n3_ := Aside0.mk (Kd.V_below (by (with_reducible repeat (first | apply Kd.V_alloc | apply Kd.V_drewN | apply Kd.V_drew)); exact HO498.out) hb)
                have n4_ := Aside0.mk (Kd.N_below (by (with_reducible repeat (first | apply Kd.N_alloc | apply Kd.N_drewN | apply Kd.N_drew)); exact HO505.out) hb)
                have n5_ := Aside0.mk (Kd.N_below (by (with_reducible repeat (first | apply Kd.N_alloc | apply Kd.N_drewN | apply Kd.N_drew)); exact HO508.out) hb)
                have n6_ := Aside0.mk (Kd.N_below (by (with_reducible repeat (first | apply Kd.N_alloc | apply Kd.N_drewN | apply Kd.N_drew)); exact HO514.out) hb)
                have n7_ := Aside0.mk (Kd.N_below (by (with_reducible repeat (first | apply Kd.N_alloc | apply Kd.N_drewN | apply Kd.N_drew)); exact HO517.out) hb)
                have n8_ := Aside0.mk (Kd.V_below (by (with_reducible repeat (first | apply Kd.V_alloc | apply Kd.V_drewN | apply Kd.V_drew)); exact HO522.out) hb)
                have n9_ := Aside0.mk (Kd.V_below (by (with_reducible repeat (first | apply Kd.V_alloc | apply Kd.V_drewN | apply Kd.V_drew)); exact HO525.out) hb)
                have n10_ := Aside0.mk (Kd.N_below (by (with_reducible repeat (first | apply Kd.N_alloc | apply Kd.N_drewN | apply Kd.N_drew)); exact HO533.out) hb)
                have n11_ := Aside0.mk (Kd.N_below (by (with_reducible repeat (first | apply Kd.N_alloc | apply Kd.N_drewN | apply Kd.N_drew)); exact HO536.out) hb)
                have n12_ := Aside0.mk (blk_below (g := gb491) (o := .cells #[.slice Ao35 t503.length co35, .slice Ao37 t506.length co37, .int .i64 t509, .bool t510] 25 (0, 0)) (by (with_reducible repeat (first | refine blk_drewN ?_ _ | refine blk_drew ?_ | refine blk_alloc ?_ _)); exact BK491.out) hb)
                have n13_ := Aside0.mk (blk_below (g := gb530) (o := .cells #[.slice Ao43 t520.length co43, .slice Ao46 t523.length co46, .int .i64 t526, .bool t527] 25 (0, 0)) (by (with_reducible repeat (first | refine blk_drewN ?_ _ | refine blk_drew ?_ | refine blk_alloc ?_ _)); exact BK530.out) hb)
                have n14_ := Aside0.mk (below_step (by repeat (first | (with_reducible first | exact HB.out | apply below_alloc | apply pw_below_drewN | apply below_drew1 | refine below_set ?_ GE491.out | refine below_set ?_ GE530.out) | exact HB.out)) hb)
                clear HO484
                clear HO487
                clear HO495
                clear HO498
                clear HO505
                clear HO508
                clear HO514
                clear HO517
                clear HO522
                clear HO525
                clear HO533
                clear HO536
                clear BK491
                clear BK530
                clear HB
                have HO484 := n0_
                have HO487 := n1_
                have HO495 := n2_
                have HO498 := n3_
                have HO505 := n4_
                have HO508 := n5_
                have HO514 := n6_
                have HO517 := n7_
                have HO522 := n8_
                have HO525 := n9_
                have HO533 := n10_
                have HO536 := n11_
                have BK491 := n12_
                have BK530 := n13_
                have HB := n14_
                clear n0_ n1_ n2_ n3_ n4_ n5_ n6_ n7_ n8_ n9_ n10_ n11_ n12_ n13_ n14_
                (try clear hb)
                (try clear hb2)
                (try clear hk)
                (try clear hi)
                refine hK.out _ _ ⟨(blk_cell BK491.out 0).trans rfl, (blk_cell BK491.out 1).trans rfl, (blk_cell BK491.out 2).trans rfl, (blk_cell BK491.out 3).trans rfl, (blk_cell BK530.out 0).trans rfl, (blk_cell BK530.out 1).trans rfl, (blk_cell BK530.out 2).trans rfl, (blk_cell BK530.out 3).trans rfl⟩ (fun hHeld => ?_)
                clear hK K
                refine norm_ (a' := ?_) ?_ ?_
                rotate_left
                · show Act.put _ (some 67) _ = _
                  simp only [Act.put, List.setIfInBounds_toArray, List.set_cons_zero, List.set_cons_succ, i64_w, i32_w]
                  rfl
                refine pure_ (i := 11) (N := some 68) (v := ?_) (a' := ?_) #[true, true, true, true, true, true, true, true, true, true, true, true, false, false, false, false] rfl rfl (any_of HT_.out (by kernel_rfl)) (fun _ _ _ h => h) (Or.inl ⟨by rfl, ?_⟩) ?_ ?_
                rotate_left
                · intro w'
                  go_simp
                  with_reducible rfl
                rotate_left
                · simp only [Act.put, List.setIfInBounds_toArray, List.set_cons_zero, List.set_cons_succ, i64_w, i32_w]
                  rfl
                refine pure_ (i := 12) (N := some 69) (v := ?_) (a' := ?_) #[true, true, true, true, true, true, true, true, true, true, true, true, true, false, false, false] rfl rfl (any_of HT_.out (by kernel_rfl)) (fun _ _ _ h => h) (Or.inl ⟨by rfl, ?_⟩) ?_ ?_
                rotate_left
                · intro w'
                  go_simp
                  with_reducible rfl
                rotate_left
                · simp only [Act.put, List.setIfInBounds_toArray, List.set_cons_zero, List.set_cons_succ, i64_w, i32_w]
                  rfl
                refine one_ (i := 13) (N := some 70) #[true, true, true, true, true, true, true, true, true, true, true, true, true, true, false, false] rfl rfl (one_of HT_.out (by kernel_rfl)) (by decide) (fun K hK => ?_)
                refine goes_ Try.func12 (by kernel_rfl) rfl #[] (by rfl) rfl rfl (by (try simp only [List.map_toArray, List.map_cons, List.map_nil]); first | done | rfl | (simp only [List.length_drop, List.length_take]; rfl)) ?_
                with_reducible refine (mapsheetslaw24_awake.calls  t540 _ A22.out).mono ?_
                rintro e w53 ⟨rfl, hb⟩
                refine ⟨_, rfl, ?_⟩
                have n0_ := Aside0.mk (Kd.N_below (by (with_reducible repeat (first | apply Kd.N_alloc | apply Kd.N_drewN | apply Kd.N_drew)); exact HO484.out) hb)
                have n1_ := Aside0.mk (Kd.N_below (by (with_reducible repeat (first | apply Kd.N_alloc | apply Kd.N_drewN | apply Kd.N_drew)); exact HO487.out) hb)
                have n2_ := Aside0.mk (Kd.V_below (by (with_reducible repeat (first | apply Kd.V_alloc | apply Kd.V_drewN | apply Kd.V_drew)); exact HO495.out) hb)
                have n3_ := Aside0.mk (Kd.V_below (by (with_reducible repeat (first | apply Kd.V_alloc | apply Kd.V_drewN | apply Kd.V_drew)); exact HO498.out) hb)
                have n4_ := Aside0.mk (Kd.N_below (by (with_reducible repeat (first | apply Kd.N_alloc | apply Kd.N_drewN | apply Kd.N_drew)); exact HO505.out) hb)
                have n5_ := Aside0.mk (Kd.N_below (by (with_reducible repeat (first | apply Kd.N_alloc | apply Kd.N_drewN | apply Kd.N_drew)); exact HO508.out) hb)
                have n6_ := Aside0.mk (Kd.N_below (by (with_reducible repeat (first | apply Kd.N_alloc | apply Kd.N_drewN | apply Kd.N_drew)); exact HO514.out) hb)
                have n7_ := Aside0.mk (Kd.N_below (by (with_reducible repeat (first | apply Kd.N_alloc | apply Kd.N_drewN | apply Kd.N_drew)); exact HO517.out) hb)
                have n8_ := Aside0.mk (Kd.V_below (by (with_reducible repeat (first | apply Kd.V_alloc | apply Kd.V_drewN | apply Kd.V_drew)); exact HO522.out) hb)
                have n9_ := Aside0.mk (Kd.V_below (by (with_reducible repeat (first | apply Kd.V_alloc | apply Kd.V_drewN | apply Kd.V_drew)); exact HO525.out) hb)
                have n10_ := Aside0.mk (Kd.N_below (by (with_reducible repeat (first | apply Kd.N_alloc | apply Kd.N_drewN | apply Kd.N_drew)); exact HO533.out) hb)
                have n11_ := Aside0.mk (Kd.N_below (by (with_reducible repeat (first | apply Kd.N_alloc | apply Kd.N_drewN | apply Kd.N_drew)); exact HO536.out) hb)
                have n12_ := Aside0.mk (blk_below (g := gb491) (o := .cells #[.slice Ao35 t503.length co35, .slice Ao37 t506.length co37, .int .i64 t509, .bool t510] 25 (0, 0)) (by (with_reducible repeat (first | refine blk_drewN ?_ _ | refine blk_drew ?_ | refine blk_alloc ?_ _)); exact BK491.out) hb)
                have n13_ := Aside0.mk (blk_below (g := gb530) (o := .cells #[.slice Ao43 t520.length co43, .slice Ao46 t523.length co46, .int .i64 t526, .bool t527] 25 (0, 0)) (by (with_reducible repeat (first | refine blk_drewN ?_ _ | refine blk_drew ?_ | refine blk_alloc ?_ _)); exact BK530.out) hb)
                have n14_ := Aside0.mk (below_step (by repeat (first | (with_reducible first | exact HB.out | apply below_alloc | apply pw_below_drewN | apply below_drew1 | refine below_set ?_ GE491.out | refine below_set ?_ GE530.out) | exact HB.out)) hb)
                clear HO484
                clear HO487
                clear HO495
                clear HO498
                clear HO505
                clear HO508
                clear HO514
                clear HO517
                clear HO522
                clear HO525
                clear HO533
                clear HO536
                clear BK491
                clear BK530
                clear HB
                have HO484 := n0_
                have HO487 := n1_
                have HO495 := n2_
                have HO498 := n3_
                have HO505 := n4_
                have HO508 := n5_
                have HO514 := n6_
                have HO517 := n7_
                have HO522 := n8_
                have HO525 := n9_
                have HO533 := n10_
                have HO536 := n11_
                have BK491 := n12_
                have BK530 := n13_
                have HB := n14_
                clear n0_ n1_ n2_ n3_ n4_ n5_ n6_ n7_ n8_ n9_ n10_ n11_ n12_ n13_ n14_
                (try clear hb)
                (try clear hb2)
                (try clear hk)
                (try clear hi)
                refine hK.out _ _ ⟨(blk_cell BK491.out 0).trans rfl, (blk_cell BK491.out 1).trans rfl, (blk_cell BK491.out 2).trans rfl, (blk_cell BK491.out 3).trans rfl, (blk_cell BK530.out 0).trans rfl, (blk_cell BK530.out 1).trans rfl, (blk_cell BK530.out 2).trans rfl, (blk_cell BK530.out 3).trans rfl⟩ (fun hHeld => ?_)
                clear hK K
                refine norm_ (a' := ?_) ?_ ?_
                rotate_left
                · show Act.put _ (some 70) _ = _
                  simp only [Act.put, List.setIfInBounds_toArray, List.set_cons_zero, List.set_cons_succ, i64_w, i32_w]
                  rfl
                refine pure_ (i := 14) (N := some 71) (v := ?_) (a' := ?_) #[true, true, true, true, true, true, true, true, true, true, true, true, true, true, true, false] rfl rfl (any_of HT_.out (by kernel_rfl)) (fun _ _ _ h => h) (Or.inl ⟨by rfl, ?_⟩) ?_ ?_
                rotate_left
                · intro w'
                  go_simp
                  with_reducible rfl
                rotate_left
                · simp only [Act.put, List.setIfInBounds_toArray, List.set_cons_zero, List.set_cons_succ, i64_w, i32_w]
                  rfl
                refine pure_ (i := 15) (N := some 8) (v := ?_) (a' := ?_) #[true, true, true, true, true, true, true, true, true, true, true, true, true, true, true, true] rfl rfl (any_of HT_.out (by kernel_rfl)) (fun _ _ _ h => h) (Or.inl ⟨by rfl, ?_⟩) ?_ ?_
                rotate_left
                · intro w'
                  go_simp
                  with_reducible rfl
                rotate_left
                · simp only [Act.put, List.setIfInBounds_toArray, List.set_cons_zero, List.set_cons_succ, i64_w, i32_w]
                  rfl
                refine done_ (done_of HT_.out (by kernel_rfl)) ?_
                try go_wp2
                go_ret
                exact ⟨by first | rfl | (simp [errW_none, errW_some] <;> rfl) | (simp [*, errW_none, errW_some] <;> rfl), by repeat (first | (with_reducible first | exact HB.out | apply below_alloc | apply pw_below_drewN | apply below_drew1 | refine below_set ?_ GE491.out | refine below_set ?_ GE530.out) | exact HB.out)⟩
              · replace c21 := Bool.eq_false_iff.mpr c21
                subst c21
                have H1 : (none) = some r := by rw [if_neg (show ¬ (false = true) by decide)] at H; exact H
                clear H
                have H := H1
                clear H1
                exact absurd H (by simp)
            · rw [if_neg c18] at H
              have c18b0 : (t511 == 0) = false := beq_eq_false_iff_ne.mpr c18
              have c18b1 : (t511 != 0) = true := bne_iff_ne.mpr c18
              exact absurd H (by simp)
          · rw [if_neg c17] at H
            have c17b0 : (t502 == 0) = false := beq_eq_false_iff_ne.mpr c17
            have c17b1 : (t502 != 0) = true := bne_iff_ne.mpr c17
            exact absurd H (by simp)
        · rw [if_neg c12] at H
          have c12b0 : (t490 == 0) = false := beq_eq_false_iff_ne.mpr c12
          have c12b1 : (t490 != 0) = true := bne_iff_ne.mpr c12
          replace H := Option.bind_eq_some_iff.mp H
          obtain ⟨t492, A540, H⟩ := H
          replace H : (some t492) = some r := H
          have A54 := Aside0.mk A540
          clear A540
          obtain rfl := Option.some.inj H
          go_wp2_with (first | ((with_reducible refine gate_callee (f := 19) rfl ?_); refine goesL_ (some 30) rfl rfl Try.func19 (by kernel_rfl) rfl #[.int .i64 a0] rfl (by (try simp only [List.map_toArray, List.map_cons, List.map_nil]); first | done | rfl | (simp only [List.length_drop, List.length_take]; rfl)) ?_; (with_reducible refine (device_New.calls kj4 a0 t482 t485 t488 t489 t490 _ A11.out).mono ?_); rintro e w55 ⟨v483, v486, rfl, ho0, ho1, hb⟩; refine ⟨_, rfl, ?_⟩; have n0_ := Aside0.mk (Kd.N_lower (Kd.N_mono (ok' := fun k_ => some k_ ≠ (v486 : Value).ownBlock) (Kd.S_N (Kd.S_bound (Kd.S_apart' ho0 (Kd.S_typed ho1) (by decide)))) (fun k_ hk_ => hk_.1.2)) (below_size (by repeat (first | (with_reducible first | exact HB.out | apply below_alloc | apply pw_below_drewN | apply below_drew1) | exact HB.out)))); have n1_ := Aside0.mk (Kd.N_lower (Kd.N_mono (ok' := fun k_ => some k_ ≠ (v483 : Value).ownBlock) (Kd.S_N (Kd.S_bound (Kd.S_apart' ho1 (Kd.S_typed ho0) (by decide)))) (fun k_ hk_ => hk_.1.2)) (below_size (by repeat (first | (with_reducible first | exact HB.out | apply below_alloc | apply pw_below_drewN | apply below_drew1) | exact HB.out)))); have n2_ := Aside0.mk (below_step (by repeat (first | (with_reducible first | exact HB.out | apply below_alloc | apply pw_below_drewN | apply below_drew1) | exact HB.out)) hb); clear HB; have HO484 := n0_; have HO487 := n1_; have HB := n2_; clear n0_ n1_ n2_; (try clear hb); (try clear hb2); (try clear hk); (try clear hi); (try clear ho0); (try clear ho1)) | ((with_reducible refine gate_dst (N := 9) rfl ?_); (try (refine gate_guard (by rfl) ?_; dsimp only)); refine box_event ?hg (N := 9) ?hd (cs := #[.slice none 0 0, .slice none 0 0, .int .i64 0, .bool false]) (t := 25) ?hr ?_; (case hd => rfl); (case hg => rfl); (case hr => first | (go_simp; done) | (go_simp; rfl)); intro gb491 hg w56 hbox hb; have n0_ := Aside0.mk (Kd.N_below (Kd.N_elderB (by (with_reducible repeat (first | apply Kd.N_alloc | apply Kd.N_drewN | apply Kd.N_drew)); exact HO484.out) gb491 (Nat.le_of_eq hg.symm)) hb); have n1_ := Aside0.mk (Kd.N_below (Kd.N_elderB (by (with_reducible repeat (first | apply Kd.N_alloc | apply Kd.N_drewN | apply Kd.N_drew)); exact HO487.out) gb491 (Nat.le_of_eq hg.symm)) hb); have n2_ := Aside0.mk (below_step (by repeat (first | (with_reducible first | exact HB.out | apply below_alloc | apply pw_below_drewN | apply below_drew1) | exact HB.out)) hb); have n3_ := Aside0.mk (hbox); have n4_ := Aside0.mk ((by rw [hg]; exact (below_size (by repeat (first | (with_reducible first | exact HB.out | apply below_alloc | apply pw_below_drewN | apply below_drew1) | exact HB.out))) : w.heap.size ≤ gb491)); have n5_ := Aside0.mk ((by rw [hg]; exact (below_size (by repeat (first | (with_reducible first | exact HB.out | apply below_alloc | apply pw_below_drewN | apply below_drew1) | exact HB.out))) : w.heap.size ≤ gb491)); clear HO484; clear HO487; clear HB; have HO484 := n0_; have HO487 := n1_; have HB := n2_; have BK491 := n3_; have GW491 := n4_; have GE491 := n5_; clear n0_ n1_ n2_ n3_ n4_ n5_; clear hb hbox hg; obtain ⟨Ao57, co57, eo57⟩ := Kd.N_slice HO484.out; subst eo57; have hcz58_0 : w56.cell? ⟨gb491, 0, none⟩ = some (.slice none 0 0) := (blk_cell BK491.out 0).trans rfl; have hcz58_1 : w56.cell? ⟨gb491, 1, none⟩ = some (.slice none 0 0) := (blk_cell BK491.out 1).trans rfl; have hcz58_2 : w56.cell? ⟨gb491, 2, none⟩ = some (.int .i64 0) := (blk_cell BK491.out 2).trans rfl; have hcz58_3 : w56.cell? ⟨gb491, 3, none⟩ = some (.bool false) := (blk_cell BK491.out 3).trans rfl; have hfz58_0 := blk_frozen BK491.out 0; have hfz58_1 := blk_frozen BK491.out 1; have hfz58_2 := blk_frozen BK491.out 2; have hfz58_3 := blk_frozen BK491.out 3; obtain ⟨Ao59, co59, eo59⟩ := Kd.N_slice HO487.out; subst eo59) | ((with_reducible refine gate_callee (f := 12) rfl ?_); refine goesL_ (some 35) rfl rfl Try.func12 (by kernel_rfl) rfl #[] rfl (by (try simp only [List.map_toArray, List.map_cons, List.map_nil]); first | done | rfl | (simp only [List.length_drop, List.length_take]; rfl)) ?_; (with_reducible refine (mapsheetslaw24_awake.calls  t492 _ A54.out).mono ?_); rintro e w60 ⟨rfl, hb⟩; refine ⟨_, rfl, ?_⟩; have n0_ := Aside0.mk (Kd.N_below (by (with_reducible repeat (first | apply Kd.N_alloc | apply Kd.N_drewN | apply Kd.N_drew)); exact (Kd.N_mono (Kd.N_far (p := ⟨gb491, 3, none⟩) (Kd.N_far (p := ⟨gb491, 2, none⟩) (Kd.N_far (p := ⟨gb491, 1, none⟩) (Kd.N_far (p := ⟨gb491, 0, none⟩) (Kd.N_mono HO484.out (fun k_ hk => (⟨hk, hk.2⟩ : _ ∧ k_ ≠ gb491))) (fun _ hk => hk.2) (.slice Ao57 t482.length co57)) (fun _ hk => hk.2) (.slice Ao59 t485.length co59)) (fun _ hk => hk.2) (.int .i64 t488)) (fun _ hk => hk.2) (.bool t489)) (fun _ h_ => h_.1))) hb); have n1_ := Aside0.mk (Kd.N_below (by (with_reducible repeat (first | apply Kd.N_alloc | apply Kd.N_drewN | apply Kd.N_drew)); exact (Kd.N_mono (Kd.N_far (p := ⟨gb491, 3, none⟩) (Kd.N_far (p := ⟨gb491, 2, none⟩) (Kd.N_far (p := ⟨gb491, 1, none⟩) (Kd.N_far (p := ⟨gb491, 0, none⟩) (Kd.N_mono HO487.out (fun k_ hk => (⟨hk, hk.2⟩ : _ ∧ k_ ≠ gb491))) (fun _ hk => hk.2) (.slice Ao57 t482.length co57)) (fun _ hk => hk.2) (.slice Ao59 t485.length co59)) (fun _ hk => hk.2) (.int .i64 t488)) (fun _ hk => hk.2) (.bool t489)) (fun _ h_ => h_.1))) hb); have n2_ := Aside0.mk (blk_below (g := gb491) (o := .cells #[.slice Ao57 t482.length co57, .slice Ao59 t485.length co59, .int .i64 t488, .bool t489] 25 (0, 0)) (by (with_reducible repeat (first | refine blk_drewN ?_ _ | refine blk_drew ?_ | refine blk_alloc ?_ _)); refine blk_put (cs := #[.slice Ao57 t482.length co57, .slice Ao59 t485.length co59, .int .i64 t488, .bool false]) ?_ 3 _ rfl; (with_reducible repeat (first | refine blk_drewN ?_ _ | refine blk_drew ?_ | refine blk_alloc ?_ _)); refine blk_put (cs := #[.slice Ao57 t482.length co57, .slice Ao59 t485.length co59, .int .i64 0, .bool false]) ?_ 2 _ rfl; (with_reducible repeat (first | refine blk_drewN ?_ _ | refine blk_drew ?_ | refine blk_alloc ?_ _)); refine blk_put (cs := #[.slice Ao57 t482.length co57, .slice none 0 0, .int .i64 0, .bool false]) ?_ 1 _ rfl; (with_reducible repeat (first | refine blk_drewN ?_ _ | refine blk_drew ?_ | refine blk_alloc ?_ _)); refine blk_put (cs := #[.slice none 0 0, .slice none 0 0, .int .i64 0, .bool false]) ?_ 0 _ rfl; (with_reducible repeat (first | refine blk_drewN ?_ _ | refine blk_drew ?_ | refine blk_alloc ?_ _)); exact BK491.out) hb); have n3_ := Aside0.mk (below_step (by repeat (first | (with_reducible first | exact HB.out | apply below_alloc | apply pw_below_drewN | apply below_drew1 | refine below_set ?_ GE491.out) | exact HB.out)) hb); clear HO484; clear HO487; clear BK491; clear HB; have HO484 := n0_; have HO487 := n1_; have BK491 := n2_; have HB := n3_; clear n0_ n1_ n2_ n3_; (try clear hb); (try clear hb2); (try clear hk); (try clear hi)))
          go_ret
          exact ⟨by first | rfl | (simp [errW_none, errW_some] <;> rfl) | (simp [*, errW_none, errW_some] <;> rfl), by repeat (first | (with_reducible first | exact HB.out | apply below_alloc | apply pw_below_drewN | apply below_drew1 | refine below_set ?_ GE491.out) | exact HB.out)⟩

end Go.Proofs.Ytjicigagejihhaa.PA
