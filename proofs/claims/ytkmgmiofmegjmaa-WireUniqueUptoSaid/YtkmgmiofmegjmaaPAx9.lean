-- Written by wip/pp.py of this repository, on the kit's print program. Not trusted: Lean checks it.
import Derived.Test.YtkmgmiofmegjmaaPAx0
import Derived.Test.YtkmgmiofmegjmaaPAx1
import Derived.Test.YtkmgmiofmegjmaaPAx2
import Derived.Test.YtkmgmiofmegjmaaPAx3
import Derived.Test.YtkmgmiofmegjmaaPAx4
namespace Go.Proofs.Ytkmgmiofmegjmaa.PA
open Go.RowKit Go.Proofs.YtkmgmiofmegjmaaW.PrintWords Go.Proofs.YtkmgmiofmegjmaaW.PrintLast Go.Proofs.YtkmgmiofmegjmaaW.PrintMore
attribute [local go_sem] max2_int min2_int max_two min_two max_three min_three max_four min_four   -- for this text's walks alone
set_option linter.unusedVariables false
set_option linter.unusedSimpArgs false

abbrev T7 := true
abbrev F7 := false
/-! ### mapsheetslaw02_WireUnique: function 7 -/
def mapsheetslaw02_WireUnique.j0 : Nat → List Int → Int → Int → Int → ByteArray → Int → Int → List Int → Int → Int → Bool → Option (Bool)
 | 0, _, _, _, _, _, _, _, _, _, _, _ => none
 | k + 1, x0, x5, x6, x7, x8, x9, x10, x11, x12, x13, x61 => if x61 = true then (none) else (if x7 = 0 then ((wire_PutInt.f ([] : List Int) x5).bind fun t462 => (if 0 ≤ x6 then (if x6 ≤ (x0.length : Int) then ((mapsheetsref02_Same.f k t462 (x0.take (x6 : Int).toNat)).bind fun t466 => (if t466 = true then (if x10 = 0 then ((wire_PutText.f ([] : List Int) x8).bind fun t467 => (if 0 ≤ x9 then (if x9 ≤ (x0.length : Int) then ((mapsheetsref02_Same.f k t467 (x0.take (x9 : Int).toNat)).bind fun t471 => (if t471 = true then (if x13 = 0 then ((wire_PutList.f k ([] : List Int) x11).bind fun t472 => (if 0 ≤ x12 then (if x12 ≤ (x0.length : Int) then ((mapsheetsref02_Same.f k t472 (x0.take (x12 : Int).toNat)).bind fun t476 => (if t476 = true then (if ((x7 == 0) == (decide (x6 > 0))) = true then (if ((x10 == 0) == (decide (x9 > 0))) = true then (if ((x13 == 0) == (decide (x12 > 0))) = true then ((mapsheetslaw02_awake.f k).bind fun t477 => (some t477)) else (none)) else (none)) else (none)) else (none))) else (none)) else (none))) else (if ((x7 == 0) == (decide (x6 > 0))) = true then (if ((x10 == 0) == (decide (x9 > 0))) = true then (if ((x13 == 0) == (decide (x12 > 0))) = true then ((mapsheetslaw02_awake.f k).bind fun t478 => (some t478)) else (none)) else (none)) else (none))) else (none))) else (none)) else (none))) else (if x13 = 0 then ((wire_PutList.f k ([] : List Int) x11).bind fun t479 => (if 0 ≤ x12 then (if x12 ≤ (x0.length : Int) then ((mapsheetsref02_Same.f k t479 (x0.take (x12 : Int).toNat)).bind fun t483 => (if t483 = true then (if ((x7 == 0) == (decide (x6 > 0))) = true then (if ((x10 == 0) == (decide (x9 > 0))) = true then (if ((x13 == 0) == (decide (x12 > 0))) = true then ((mapsheetslaw02_awake.f k).bind fun t484 => (some t484)) else (none)) else (none)) else (none)) else (none))) else (none)) else (none))) else (if ((x7 == 0) == (decide (x6 > 0))) = true then (if ((x10 == 0) == (decide (x9 > 0))) = true then (if ((x13 == 0) == (decide (x12 > 0))) = true then ((mapsheetslaw02_awake.f k).bind fun t485 => (some t485)) else (none)) else (none)) else (none)))) else (none))) else (none)) else (none))) else (if x10 = 0 then ((wire_PutText.f ([] : List Int) x8).bind fun t486 => (if 0 ≤ x9 then (if x9 ≤ (x0.length : Int) then ((mapsheetsref02_Same.f k t486 (x0.take (x9 : Int).toNat)).bind fun t490 => (if t490 = true then (if x13 = 0 then ((wire_PutList.f k ([] : List Int) x11).bind fun t491 => (if 0 ≤ x12 then (if x12 ≤ (x0.length : Int) then ((mapsheetsref02_Same.f k t491 (x0.take (x12 : Int).toNat)).bind fun t495 => (if t495 = true then (if ((x7 == 0) == (decide (x6 > 0))) = true then (if ((x10 == 0) == (decide (x9 > 0))) = true then (if ((x13 == 0) == (decide (x12 > 0))) = true then ((mapsheetslaw02_awake.f k).bind fun t496 => (some t496)) else (none)) else (none)) else (none)) else (none))) else (none)) else (none))) else (if ((x7 == 0) == (decide (x6 > 0))) = true then (if ((x10 == 0) == (decide (x9 > 0))) = true then (if ((x13 == 0) == (decide (x12 > 0))) = true then ((mapsheetslaw02_awake.f k).bind fun t497 => (some t497)) else (none)) else (none)) else (none))) else (none))) else (none)) else (none))) else (if x13 = 0 then ((wire_PutList.f k ([] : List Int) x11).bind fun t498 => (if 0 ≤ x12 then (if x12 ≤ (x0.length : Int) then ((mapsheetsref02_Same.f k t498 (x0.take (x12 : Int).toNat)).bind fun t502 => (if t502 = true then (if ((x7 == 0) == (decide (x6 > 0))) = true then (if ((x10 == 0) == (decide (x9 > 0))) = true then (if ((x13 == 0) == (decide (x12 > 0))) = true then ((mapsheetslaw02_awake.f k).bind fun t503 => (some t503)) else (none)) else (none)) else (none)) else (none))) else (none)) else (none))) else (if ((x7 == 0) == (decide (x6 > 0))) = true then (if ((x10 == 0) == (decide (x9 > 0))) = true then (if ((x13 == 0) == (decide (x12 > 0))) = true then ((mapsheetslaw02_awake.f k).bind fun t504 => (some t504)) else (none)) else (none)) else (none)))))
def mapsheetslaw02_WireUnique.f (k : Nat) (l0 : List Int) (a1 : Int) : Option (Bool) := (wire_Int.f k l0).bind fun bt451 => ((wire_Text.f k l0 a1).bind fun bt454 => ((wire_List.f k l0 a1).bind fun bt457 => (if bt451.2.1 < 0 then (mapsheetslaw02_WireUnique.j0 k l0 bt451.1 bt451.2.1 bt451.2.2 bt454.1 bt454.2.1 bt454.2.2 bt457.1 bt457.2.1 bt457.2.2 true) else (if bt451.2.1 > (l0.length : Int) then (mapsheetslaw02_WireUnique.j0 k l0 bt451.1 bt451.2.1 bt451.2.2 bt454.1 bt454.2.1 bt454.2.2 bt457.1 bt457.2.1 bt457.2.2 true) else (if bt454.2.1 < 0 then (mapsheetslaw02_WireUnique.j0 k l0 bt451.1 bt451.2.1 bt451.2.2 bt454.1 bt454.2.1 bt454.2.2 bt457.1 bt457.2.1 bt457.2.2 true) else (if bt454.2.1 > (l0.length : Int) then (mapsheetslaw02_WireUnique.j0 k l0 bt451.1 bt451.2.1 bt451.2.2 bt454.1 bt454.2.1 bt454.2.2 bt457.1 bt457.2.1 bt457.2.2 true) else (if bt457.2.1 < 0 then (mapsheetslaw02_WireUnique.j0 k l0 bt451.1 bt451.2.1 bt451.2.2 bt454.1 bt454.2.1 bt454.2.2 bt457.1 bt457.2.1 bt457.2.2 true) else (mapsheetslaw02_WireUnique.j0 k l0 bt451.1 bt451.2.1 bt451.2.2 bt454.1 bt454.2.1 bt454.2.2 bt457.1 bt457.2.1 bt457.2.2 (decide (bt457.2.1 > (l0.length : Int)))))))))))
theorem mapsheetslaw02_WireUnique.mono_l : ∀ k, (∀ y0 y1 y2 y3 y4 y5 y6 y7 y8 y9 y10, LeO (mapsheetslaw02_WireUnique.j0 k y0 y1 y2 y3 y4 y5 y6 y7 y8 y9 y10) (mapsheetslaw02_WireUnique.j0 (k + 1) y0 y1 y2 y3 y4 y5 y6 y7 y8 y9 y10))
 | 0 => fun _ _ _ _ _ _ _ _ _ _ _ r h => by simp [mapsheetslaw02_WireUnique.j0] at h
 | k + 1 => by
  have ih0 := mapsheetslaw02_WireUnique.mono_l k
  ·intro y0 y1 y2 y3 y4 y5 y6 y7 y8 y9 y10
   unfold mapsheetslaw02_WireUnique.j0
   repeat' first
   | (with_reducible exact ih0 _ _ _ _ _ _ _ _ _ _ _)
   | (with_reducible exact mapsheetslaw02_awake.mono _)
   | (with_reducible exact mapsheetsref02_Same.mono _ _ _)
   | (with_reducible exact wire_Int.mono _ _)
   | (with_reducible exact wire_List.mono _ _ _)
   | (with_reducible exact wire_PutList.mono _ _ _)
   | (with_reducible exact wire_Text.mono _ _ _)
   | (with_reducible exact LeO.refl _)
   | (with_reducible exact LeO.none _)
   | (with_reducible refine LeO.ite ?_ ?_)
   | (with_reducible refine LeO.bind ?_ (fun _ => ?_))
   | exact ih0 _ _ _ _ _ _ _ _ _ _ _
   | exact mapsheetslaw02_awake.mono _
   | exact mapsheetsref02_Same.mono _ _ _
   | exact wire_Int.mono _ _
   | exact wire_List.mono _ _ _
   | exact wire_PutList.mono _ _ _
   | exact wire_Text.mono _ _ _
   | exact LeO.none _
   | refine LeO.ite ?_ ?_
   | refine LeO.bind ?_ (fun _ => ?_)
theorem mapsheetslaw02_WireUnique.mono : ∀ a0 a1 k, LeO (mapsheetslaw02_WireUnique.f k a0 a1) (mapsheetslaw02_WireUnique.f (k + 1) a0 a1) := by
 intro a0 a1 k
 have ih0 := mapsheetslaw02_WireUnique.mono_l k
 unfold mapsheetslaw02_WireUnique.f
 repeat' first
   | (with_reducible exact ih0 _ _ _ _ _ _ _ _ _ _ _)
   | (with_reducible exact mapsheetslaw02_awake.mono _)
   | (with_reducible exact mapsheetsref02_Same.mono _ _ _)
   | (with_reducible exact wire_Int.mono _ _)
   | (with_reducible exact wire_List.mono _ _ _)
   | (with_reducible exact wire_PutList.mono _ _ _)
   | (with_reducible exact wire_Text.mono _ _ _)
   | (with_reducible exact LeO.refl _)
   | (with_reducible exact LeO.none _)
   | (with_reducible refine LeO.ite ?_ ?_)
   | (with_reducible refine LeO.bind ?_ (fun _ => ?_))
   | exact ih0 _ _ _ _ _ _ _ _ _ _ _
   | exact mapsheetslaw02_awake.mono _
   | exact mapsheetsref02_Same.mono _ _ _
   | exact wire_Int.mono _ _
   | exact wire_List.mono _ _ _
   | exact wire_PutList.mono _ _ _
   | exact wire_Text.mono _ _ _
   | exact LeO.none _
   | refine LeO.ite ?_ ?_
   | refine LeO.bind ?_ (fun _ => ?_)
def mapsheetslaw02_WireUnique.T6 : Bool × List (List Nat × List Nat) := (true, [([], []), ([0], [0]), ([1], [1]), ([2], [2]), ([3, 2, 2], [2, 3]), ([2], [2]), ([2], [2]), ([5, 6, 2], [2, 5, 6]), ([4, 7, 4, 2], [2, 4, 7]), ([8, 2], [2, 8]), ([2, 9], [2, 9]), ([10, 8], [10]), ([11], [11]), ([12, 11], [11, 12]), ([13, 11, 11], [11, 13]), ([14], [14]), ([15, 14, 14], [14, 15]), ([14], [14]), ([14], [14]), ([17, 18, 14], [14, 17, 18]), ([16, 19, 16, 14], [14, 16, 19]), ([20, 14], [14, 20]), ([14, 21, 11], [11, 14, 21]), ([11, 22], [11, 22]), ([23, 20], [23]), ([24], [24]), ([25, 24], [24, 25]), ([26, 24, 24], [24, 26]), ([27], [27]), ([28, 27, 27], [27, 28]), ([27], [27]), ([27], [27]), ([30, 31, 27], [27, 30, 31]), ([29, 32, 29, 27], [27, 29, 32]), ([33, 27], [27, 33]), ([27, 34, 24], [24, 27, 34]), ([24, 35], [24, 35])])
def mapsheetslaw02_WireUnique.B6 : List Nat := [0, 1, 3, 7, 15, 7, 7, 103, 255, 511, 1023, 2047, 4095, 8191, 16383, 32767, 65535, 32767, 32767, 425983, 1048575, 2097151, 4194303, 8388607, 16777215, 33554431, 67108863, 134217727, 268435455, 536870911, 268435455, 268435455, 3489660927, 8589934591, 17179869183, 34359738367, 68719476735]
theorem mapsheetslaw02_WireUnique.tab6 : rtab .any (opsOf Try.f7 6) = mapsheetslaw02_WireUnique.T6 := by kernel_rfl
theorem mapsheetslaw02_WireUnique.bits6 : waitsOk mapsheetslaw02_WireUnique.T6.2 mapsheetslaw02_WireUnique.B6 = true := by kernel_rfl
set_option maxHeartbeats 8000000 in
set_option maxRecDepth 100000 in
theorem mapsheetslaw02_WireUnique.calls (k : Nat) (A0 : Option Addr) (c0 : Nat) (l0 : List Int) (a1 : Int) (r : Bool) (w : World) (hr0 : Kd.C (Kd.int .u8) w A0 l0.length l0) (hc0 : l0.length ≤ c0) (h : mapsheetslaw02_WireUnique.f k l0 a1 = some r) :
  Calls Try.prog 7 #[.slice A0 l0.length c0, .int .i64 a1] w fun e w' => e = .returned (.bool r) ∧ Below w.heap.size w w' := by
 have HR0 := Aside0.mk hr0
 have HC0 := Aside0.mk hc0
 clear hr0 hc0
 have HB := Aside0.mk (Below.refl w.heap.size w)
 have H : ((wire_Int.f k l0).bind fun bt451 => ((wire_Text.f k l0 a1).bind fun bt454 => ((wire_List.f k l0 a1).bind fun bt457 => (if bt451.2.1 < 0 then (mapsheetslaw02_WireUnique.j0 k l0 bt451.1 bt451.2.1 bt451.2.2 bt454.1 bt454.2.1 bt454.2.2 bt457.1 bt457.2.1 bt457.2.2 true) else (if bt451.2.1 > (l0.length : Int) then (mapsheetslaw02_WireUnique.j0 k l0 bt451.1 bt451.2.1 bt451.2.2 bt454.1 bt454.2.1 bt454.2.2 bt457.1 bt457.2.1 bt457.2.2 true) else (if bt454.2.1 < 0 then (mapsheetslaw02_WireUnique.j0 k l0 bt451.1 bt451.2.1 bt451.2.2 bt454.1 bt454.2.1 bt454.2.2 bt457.1 bt457.2.1 bt457.2.2 true) else (if bt454.2.1 > (l0.length : Int) then (mapsheetslaw02_WireUnique.j0 k l0 bt451.1 bt451.2.1 bt451.2.2 bt454.1 bt454.2.1 bt454.2.2 bt457.1 bt457.2.1 bt457.2.2 true) else (if bt457.2.1 < 0 then (mapsheetslaw02_WireUnique.j0 k l0 bt451.1 bt451.2.1 bt451.2.2 bt454.1 bt454.2.1 bt454.2.2 bt457.1 bt457.2.1 bt457.2.2 true) else (mapsheetslaw02_WireUnique.j0 k l0 bt451.1 bt451.2.1 bt451.2.2 bt454.1 bt454.2.1 bt454.2.2 bt457.1 bt457.2.1 bt457.2.2 (decide (bt457.2.1 > (l0.length : Int)))))))))))) = some r := h
 clear h
 replace H := Option.bind_eq_some_iff.mp H
 obtain ⟨⟨t451, t452, t453⟩, A30, H⟩ := H
 (try dsimp only at H)
 have A3 := Aside0.mk A30
 clear A30
 replace H := Option.bind_eq_some_iff.mp H
 obtain ⟨⟨t454, t455, t456⟩, A40, H⟩ := H
 (try dsimp only at H)
 have A4 := Aside0.mk A40
 clear A40
 replace H := Option.bind_eq_some_iff.mp H
 obtain ⟨⟨t457, t458, t459⟩, A50, H⟩ := H
 (try dsimp only at H)
 have A5 := Aside0.mk A50
 clear A50
 have HC6 := Aside0.mk H
 clear H
 go_enter Try.func7, Try.ntmps7
 go_upto_region 4 with (first | ((with_reducible refine gate_callee (f := 11) rfl ?_); refine goesL_ (some 16) rfl rfl Try.func11 (by kernel_rfl) rfl #[.slice A0 l0.length c0] rfl (by (try simp only [List.map_toArray, List.map_cons, List.map_nil]); first | done | rfl | (simp only [List.length_drop, List.length_take]; rfl)) ?_; (with_reducible refine (wire_Int.calls k _ _ l0 t451 t452 t453 _ ?side1 ?side2 A3.out).mono ?_); (case side1 => repeat (first | exact HR0.out | (with_reducible refine Kd.C_alloc ?_ _) | (with_reducible refine Kd.C_drewN ?_ _) | (with_reducible refine Kd.C_drew ?_))); (case side2 => exact HC0.out); rintro e w' ⟨rfl, ⟨nd, rfl⟩⟩; refine ⟨_, rfl, ?_⟩) | ((with_reducible refine gate_callee (f := 17) rfl ?_); refine goesL_ (some 23) rfl rfl Try.func17 (by kernel_rfl) rfl #[.slice A0 l0.length c0, .int .i64 a1] rfl (by (try simp only [List.map_toArray, List.map_cons, List.map_nil]); first | done | rfl | (simp only [List.length_drop, List.length_take]; rfl)) ?_; (with_reducible refine (wire_Text.calls k _ _ l0 a1 t454 t455 t456 _ ?side1 ?side2 A4.out).mono ?_); (case side1 => repeat (first | exact HR0.out | (with_reducible refine Kd.C_alloc ?_ _) | (with_reducible refine Kd.C_drewN ?_ _) | (with_reducible refine Kd.C_drew ?_))); (case side2 => exact HC0.out); rintro e w7 ⟨rfl, hb⟩; refine ⟨_, rfl, ?_⟩; have n0_ := Aside0.mk (below_step (by repeat (first | (with_reducible first | exact HB.out | apply below_alloc | apply pw_below_drewN | apply below_drew1) | exact HB.out)) hb); clear HB; have HB := n0_; clear n0_; (try clear hb); (try clear hb2); (try clear hk); (try clear hi)) | ((with_reducible refine gate_callee (f := 21) rfl ?_); refine goesL_ (some 30) rfl rfl Try.func21 (by kernel_rfl) rfl #[.slice A0 l0.length c0, .int .i64 a1] rfl (by (try simp only [List.map_toArray, List.map_cons, List.map_nil]); first | done | rfl | (simp only [List.length_drop, List.length_take]; rfl)) ?_; (with_reducible refine (wire_List.calls k _ _ l0 a1 t457 t458 t459 _ ?side1 ?side2 A5.out).mono ?_); (case side1 => repeat (first | exact (Kd.C_below HR0.out HB.out) | (with_reducible refine Kd.C_alloc ?_ _) | (with_reducible refine Kd.C_drewN ?_ _) | (with_reducible refine Kd.C_drew ?_))); (case side2 => exact HC0.out); rintro e w8 ⟨v460, rfl, ho0, hb⟩; refine ⟨_, rfl, ?_⟩; have n0_ := Aside0.mk (Kd.R_lower ho0 (below_size (by repeat (first | (with_reducible first | exact HB.out | apply below_alloc | apply pw_below_drewN | apply below_drew1) | exact HB.out)))); have n1_ := Aside0.mk (below_step (by repeat (first | (with_reducible first | exact HB.out | apply below_alloc | apply pw_below_drewN | apply below_drew1) | exact HB.out)) hb); clear HB; have HO461 := n0_; have HB := n1_; clear n0_ n1_; (try clear hb); (try clear hb2); (try clear hk); (try clear hi); (try clear ho0)))
 (try simp only [Act.put, List.setIfInBounds_toArray, List.set_cons_zero, List.set_cons_succ])
 go_cut [61] (fun v61 wc => ∃ (kq : Nat) (x61_5 : Bool), v61 = .bool x61_5 ∧ Aside0 (mapsheetslaw02_WireUnique.j0 kq l0 t451 t452 t453 t454 t455 t456 t457 t458 t459 x61_5 = some r) ∧ Aside0 (kq ≤ k) ∧ Aside0 (Kd.R (Kd.int .i64) 3 wc w.heap.size (fun _ => True) v460 t457) ∧ Aside0 (Below w.heap.size w wc))
 case first =>
  have H := HC6.out
  clear HC6
  by_cases c9 : t452 < 0
  ·rw [if_pos c9] at H
   have c9b0 : decide (t452 < 0) = true := decide_eq_true c9
   clear c9
   (first | rw [c9b0] | (simp only [i64_w, i32_w]; rw [c9b0]) | skip)
   have H' := Aside0.mk H
   clear H
   go_wp2
   go_meet
   case rel => exact ⟨_, (true), (by first | rfl | (simp; done) | (simp [*]; done)), H', ⟨by first | omega | exact Nat.le_refl _⟩, ⟨by (with_reducible repeat (first | apply Kd.R_alloc | apply Kd.R_drewN | apply Kd.R_drew)); exact HO461.out⟩, ⟨by repeat (first | (with_reducible first | exact HB.out | apply below_alloc | apply pw_below_drewN | apply below_drew1) | exact HB.out)⟩⟩
  ·rw [if_neg c9] at H
   have c9b0 : decide (t452 < 0) = false := decide_eq_false c9
   clear c9
   (first | rw [c9b0] | (simp only [i64_w, i32_w]; rw [c9b0]) | skip)
   by_cases c10 : t452 > (l0.length : Int)
   ·rw [if_pos c10] at H
    have c10b0 : decide ((l0.length : Int) < t452) = true := decide_eq_true c10
    clear c10
    have H' := Aside0.mk H
    clear H
    go_wp2
    go_meet
    case rel => exact ⟨_, (true), (by first | rfl | (simp; done) | (simp [*]; done)), H', ⟨by first | omega | exact Nat.le_refl _⟩, ⟨by (with_reducible repeat (first | apply Kd.R_alloc | apply Kd.R_drewN | apply Kd.R_drew)); exact HO461.out⟩, ⟨by repeat (first | (with_reducible first | exact HB.out | apply below_alloc | apply pw_below_drewN | apply below_drew1) | exact HB.out)⟩⟩
   ·rw [if_neg c10] at H
    have c10b0 : decide ((l0.length : Int) < t452) = false := decide_eq_false c10
    clear c10
    by_cases c11 : t455 < 0
    ·rw [if_pos c11] at H
     have c11b0 : decide (t455 < 0) = true := decide_eq_true c11
     clear c11
     have H' := Aside0.mk H
     clear H
     go_wp2
     go_meet
     case rel => exact ⟨_, (true), (by first | rfl | (simp; done) | (simp [*]; done)), H', ⟨by first | omega | exact Nat.le_refl _⟩, ⟨by (with_reducible repeat (first | apply Kd.R_alloc | apply Kd.R_drewN | apply Kd.R_drew)); exact HO461.out⟩, ⟨by repeat (first | (with_reducible first | exact HB.out | apply below_alloc | apply pw_below_drewN | apply below_drew1) | exact HB.out)⟩⟩
    ·rw [if_neg c11] at H
     have c11b0 : decide (t455 < 0) = false := decide_eq_false c11
     clear c11
     by_cases c12 : t455 > (l0.length : Int)
     ·rw [if_pos c12] at H
      have c12b0 : decide ((l0.length : Int) < t455) = true := decide_eq_true c12
      clear c12
      have H' := Aside0.mk H
      clear H
      go_wp2
      go_meet
      case rel => exact ⟨_, (true), (by first | rfl | (simp; done) | (simp [*]; done)), H', ⟨by first | omega | exact Nat.le_refl _⟩, ⟨by (with_reducible repeat (first | apply Kd.R_alloc | apply Kd.R_drewN | apply Kd.R_drew)); exact HO461.out⟩, ⟨by repeat (first | (with_reducible first | exact HB.out | apply below_alloc | apply pw_below_drewN | apply below_drew1) | exact HB.out)⟩⟩
     ·rw [if_neg c12] at H
      have c12b0 : decide ((l0.length : Int) < t455) = false := decide_eq_false c12
      clear c12
      by_cases c13 : t458 < 0
      ·rw [if_pos c13] at H
       have c13b0 : decide (t458 < 0) = true := decide_eq_true c13
       clear c13
       have H' := Aside0.mk H
       clear H
       go_wp2
       go_meet
       case rel => exact ⟨_, (true), (by first | rfl | (simp; done) | (simp [*]; done)), H', ⟨by first | omega | exact Nat.le_refl _⟩, ⟨by (with_reducible repeat (first | apply Kd.R_alloc | apply Kd.R_drewN | apply Kd.R_drew)); exact HO461.out⟩, ⟨by repeat (first | (with_reducible first | exact HB.out | apply below_alloc | apply pw_below_drewN | apply below_drew1) | exact HB.out)⟩⟩
      ·rw [if_neg c13] at H
       have c13b0 : decide (t458 < 0) = false := decide_eq_false c13
       clear c13
       have H' := Aside0.mk H
       clear H
       go_wp2
       go_meet
       case rel => exact ⟨_, (decide (t458 > (l0.length : Int))), (by first | rfl | (simp; done) | (simp [*]; done)), H', ⟨by first | omega | exact Nat.le_refl _⟩, ⟨by (with_reducible repeat (first | apply Kd.R_alloc | apply Kd.R_drewN | apply Kd.R_drew)); exact HO461.out⟩, ⟨by repeat (first | (with_reducible first | exact HB.out | apply below_alloc | apply pw_below_drewN | apply below_drew1) | exact HB.out)⟩⟩
 case rest =>
  clear HC6
  try clear c1
  try clear c2
  try clear p2
  try clear c7
  try clear c9
  try clear c9b0
  try clear c10
  try clear c10b0
  try clear c11
  try clear c11b0
  try clear c12
  try clear c12b0
  try clear c13
  try clear c13b0
  obtain ⟨kq, x61_5, rfl, HA, HJ5, HO_11, HB⟩ := hcut
  cases kq with
  | zero => exact absurd HA.out (by simp [mapsheetslaw02_WireUnique.j0])
  | succ kj5 =>
   have H := HA.out
   clear HA
   simp only [mapsheetslaw02_WireUnique.j0] at H
   by_cases c14 : x61_5 = true
   ·subst c14
    have H1 : (none) = some r := by rw [if_pos rfl] at H; exact H
    clear H
    have H := H1
    clear H1
    exact absurd H (by simp)
   ·replace c14 := Bool.eq_false_iff.mpr c14
    subst c14
    have H1 : (if t453 = 0 then ((wire_PutInt.f ([] : List Int) t451).bind fun t462 => (if 0 ≤ t452 then (if t452 ≤ (l0.length : Int) then ((mapsheetsref02_Same.f kj5 t462 (l0.take (t452 : Int).toNat)).bind fun t466 => (if t466 = true then (if t456 = 0 then ((wire_PutText.f ([] : List Int) t454).bind fun t467 => (if 0 ≤ t455 then (if t455 ≤ (l0.length : Int) then ((mapsheetsref02_Same.f kj5 t467 (l0.take (t455 : Int).toNat)).bind fun t471 => (if t471 = true then (if t459 = 0 then ((wire_PutList.f kj5 ([] : List Int) t457).bind fun t472 => (if 0 ≤ t458 then (if t458 ≤ (l0.length : Int) then ((mapsheetsref02_Same.f kj5 t472 (l0.take (t458 : Int).toNat)).bind fun t476 => (if t476 = true then (if ((t453 == 0) == (decide (t452 > 0))) = true then (if ((t456 == 0) == (decide (t455 > 0))) = true then (if ((t459 == 0) == (decide (t458 > 0))) = true then ((mapsheetslaw02_awake.f kj5).bind fun t477 => (some t477)) else (none)) else (none)) else (none)) else (none))) else (none)) else (none))) else (if ((t453 == 0) == (decide (t452 > 0))) = true then (if ((t456 == 0) == (decide (t455 > 0))) = true then (if ((t459 == 0) == (decide (t458 > 0))) = true then ((mapsheetslaw02_awake.f kj5).bind fun t478 => (some t478)) else (none)) else (none)) else (none))) else (none))) else (none)) else (none))) else (if t459 = 0 then ((wire_PutList.f kj5 ([] : List Int) t457).bind fun t479 => (if 0 ≤ t458 then (if t458 ≤ (l0.length : Int) then ((mapsheetsref02_Same.f kj5 t479 (l0.take (t458 : Int).toNat)).bind fun t483 => (if t483 = true then (if ((t453 == 0) == (decide (t452 > 0))) = true then (if ((t456 == 0) == (decide (t455 > 0))) = true then (if ((t459 == 0) == (decide (t458 > 0))) = true then ((mapsheetslaw02_awake.f kj5).bind fun t484 => (some t484)) else (none)) else (none)) else (none)) else (none))) else (none)) else (none))) else (if ((t453 == 0) == (decide (t452 > 0))) = true then (if ((t456 == 0) == (decide (t455 > 0))) = true then (if ((t459 == 0) == (decide (t458 > 0))) = true then ((mapsheetslaw02_awake.f kj5).bind fun t485 => (some t485)) else (none)) else (none)) else (none)))) else (none))) else (none)) else (none))) else (if t456 = 0 then ((wire_PutText.f ([] : List Int) t454).bind fun t486 => (if 0 ≤ t455 then (if t455 ≤ (l0.length : Int) then ((mapsheetsref02_Same.f kj5 t486 (l0.take (t455 : Int).toNat)).bind fun t490 => (if t490 = true then (if t459 = 0 then ((wire_PutList.f kj5 ([] : List Int) t457).bind fun t491 => (if 0 ≤ t458 then (if t458 ≤ (l0.length : Int) then ((mapsheetsref02_Same.f kj5 t491 (l0.take (t458 : Int).toNat)).bind fun t495 => (if t495 = true then (if ((t453 == 0) == (decide (t452 > 0))) = true then (if ((t456 == 0) == (decide (t455 > 0))) = true then (if ((t459 == 0) == (decide (t458 > 0))) = true then ((mapsheetslaw02_awake.f kj5).bind fun t496 => (some t496)) else (none)) else (none)) else (none)) else (none))) else (none)) else (none))) else (if ((t453 == 0) == (decide (t452 > 0))) = true then (if ((t456 == 0) == (decide (t455 > 0))) = true then (if ((t459 == 0) == (decide (t458 > 0))) = true then ((mapsheetslaw02_awake.f kj5).bind fun t497 => (some t497)) else (none)) else (none)) else (none))) else (none))) else (none)) else (none))) else (if t459 = 0 then ((wire_PutList.f kj5 ([] : List Int) t457).bind fun t498 => (if 0 ≤ t458 then (if t458 ≤ (l0.length : Int) then ((mapsheetsref02_Same.f kj5 t498 (l0.take (t458 : Int).toNat)).bind fun t502 => (if t502 = true then (if ((t453 == 0) == (decide (t452 > 0))) = true then (if ((t456 == 0) == (decide (t455 > 0))) = true then (if ((t459 == 0) == (decide (t458 > 0))) = true then ((mapsheetslaw02_awake.f kj5).bind fun t503 => (some t503)) else (none)) else (none)) else (none)) else (none))) else (none)) else (none))) else (if ((t453 == 0) == (decide (t452 > 0))) = true then (if ((t456 == 0) == (decide (t455 > 0))) = true then (if ((t459 == 0) == (decide (t458 > 0))) = true then ((mapsheetslaw02_awake.f kj5).bind fun t504 => (some t504)) else (none)) else (none)) else (none))))) = some r := by rw [if_neg (show ¬ (false = true) by decide)] at H; exact H
    clear H
    have H := H1
    clear H1
    by_cases c15 : t453 = 0
    ·rw [if_pos c15] at H
     have c15b0 : (t453 == 0) = true := beq_iff_eq.mpr c15
     have c15b1 : (t453 != 0) = false := bne_eq_false_iff_eq.mpr c15
     clear c15
     replace H := Option.bind_eq_some_iff.mp H
     obtain ⟨t462, A160, H⟩ := H
     (try dsimp only at H)
     have A16 := Aside0.mk A160
     clear A160
     by_cases c17 : 0 ≤ t452
     ·rw [if_pos c17] at H
      have c17b0 := eq_true c17
      have c17b1 : decide (0 ≤ t452) = true := decide_eq_true c17
      clear c17
      by_cases c18 : t452 ≤ (l0.length : Int)
      ·rw [if_pos c18] at H
       have c18b0 := eq_true c18
       have c18b1 : decide (t452 ≤ (l0.length : Int)) = true := decide_eq_true c18
       clear c18
       replace H := Option.bind_eq_some_iff.mp H
       obtain ⟨t466, A190, H⟩ := H
       (try dsimp only at H)
       have A19 := Aside0.mk A190
       clear A190
       by_cases c20 : t466 = true
       ·subst c20
        have H1 : (if t456 = 0 then ((wire_PutText.f ([] : List Int) t454).bind fun t467 => (if 0 ≤ t455 then (if t455 ≤ (l0.length : Int) then ((mapsheetsref02_Same.f kj5 t467 (l0.take (t455 : Int).toNat)).bind fun t471 => (if t471 = true then (if t459 = 0 then ((wire_PutList.f kj5 ([] : List Int) t457).bind fun t472 => (if 0 ≤ t458 then (if t458 ≤ (l0.length : Int) then ((mapsheetsref02_Same.f kj5 t472 (l0.take (t458 : Int).toNat)).bind fun t476 => (if t476 = true then (if ((t453 == 0) == (decide (t452 > 0))) = true then (if ((t456 == 0) == (decide (t455 > 0))) = true then (if ((t459 == 0) == (decide (t458 > 0))) = true then ((mapsheetslaw02_awake.f kj5).bind fun t477 => (some t477)) else (none)) else (none)) else (none)) else (none))) else (none)) else (none))) else (if ((t453 == 0) == (decide (t452 > 0))) = true then (if ((t456 == 0) == (decide (t455 > 0))) = true then (if ((t459 == 0) == (decide (t458 > 0))) = true then ((mapsheetslaw02_awake.f kj5).bind fun t478 => (some t478)) else (none)) else (none)) else (none))) else (none))) else (none)) else (none))) else (if t459 = 0 then ((wire_PutList.f kj5 ([] : List Int) t457).bind fun t479 => (if 0 ≤ t458 then (if t458 ≤ (l0.length : Int) then ((mapsheetsref02_Same.f kj5 t479 (l0.take (t458 : Int).toNat)).bind fun t483 => (if t483 = true then (if ((t453 == 0) == (decide (t452 > 0))) = true then (if ((t456 == 0) == (decide (t455 > 0))) = true then (if ((t459 == 0) == (decide (t458 > 0))) = true then ((mapsheetslaw02_awake.f kj5).bind fun t484 => (some t484)) else (none)) else (none)) else (none)) else (none))) else (none)) else (none))) else (if ((t453 == 0) == (decide (t452 > 0))) = true then (if ((t456 == 0) == (decide (t455 > 0))) = true then (if ((t459 == 0) == (decide (t458 > 0))) = true then ((mapsheetslaw02_awake.f kj5).bind fun t485 => (some t485)) else (none)) else (none)) else (none)))) = some r := by rw [if_pos rfl] at H; exact H
        clear H
        have H := H1
        clear H1
        by_cases c21 : t456 = 0
        ·rw [if_pos c21] at H
         have c21b0 : (t456 == 0) = true := beq_iff_eq.mpr c21
         have c21b1 : (t456 != 0) = false := bne_eq_false_iff_eq.mpr c21
         clear c21
         replace H := Option.bind_eq_some_iff.mp H
         obtain ⟨t467, A220, H⟩ := H
         (try dsimp only at H)
         have A22 := Aside0.mk A220
         clear A220
         by_cases c23 : 0 ≤ t455
         ·rw [if_pos c23] at H
          have c23b0 := eq_true c23
          have c23b1 : decide (0 ≤ t455) = true := decide_eq_true c23
          clear c23
          by_cases c24 : t455 ≤ (l0.length : Int)
          ·rw [if_pos c24] at H
           have c24b0 := eq_true c24
           have c24b1 : decide (t455 ≤ (l0.length : Int)) = true := decide_eq_true c24
           clear c24
           replace H := Option.bind_eq_some_iff.mp H
           obtain ⟨t471, A250, H⟩ := H
           (try dsimp only at H)
           have A25 := Aside0.mk A250
           clear A250
           by_cases c26 : t471 = true
           ·subst c26
            have H1 : (if t459 = 0 then ((wire_PutList.f kj5 ([] : List Int) t457).bind fun t472 => (if 0 ≤ t458 then (if t458 ≤ (l0.length : Int) then ((mapsheetsref02_Same.f kj5 t472 (l0.take (t458 : Int).toNat)).bind fun t476 => (if t476 = true then (if ((t453 == 0) == (decide (t452 > 0))) = true then (if ((t456 == 0) == (decide (t455 > 0))) = true then (if ((t459 == 0) == (decide (t458 > 0))) = true then ((mapsheetslaw02_awake.f kj5).bind fun t477 => (some t477)) else (none)) else (none)) else (none)) else (none))) else (none)) else (none))) else (if ((t453 == 0) == (decide (t452 > 0))) = true then (if ((t456 == 0) == (decide (t455 > 0))) = true then (if ((t459 == 0) == (decide (t458 > 0))) = true then ((mapsheetslaw02_awake.f kj5).bind fun t478 => (some t478)) else (none)) else (none)) else (none))) = some r := by rw [if_pos rfl] at H; exact H
            clear H
            have H := H1
            clear H1
            by_cases c27 : t459 = 0
            ·rw [if_pos c27] at H
             have c27b0 : (t459 == 0) = true := beq_iff_eq.mpr c27
             have c27b1 : (t459 != 0) = false := bne_eq_false_iff_eq.mpr c27
             clear c27
             replace H := Option.bind_eq_some_iff.mp H
             obtain ⟨t472, A280, H⟩ := H
             (try dsimp only at H)
             have A28 := Aside0.mk A280
             clear A280
             by_cases c29 : 0 ≤ t458
             ·rw [if_pos c29] at H
              have c29b0 := eq_true c29
              have c29b1 : decide (0 ≤ t458) = true := decide_eq_true c29
              clear c29
              by_cases c30 : t458 ≤ (l0.length : Int)
              ·rw [if_pos c30] at H
               have c30b0 := eq_true c30
               have c30b1 : decide (t458 ≤ (l0.length : Int)) = true := decide_eq_true c30
               clear c30
               replace H := Option.bind_eq_some_iff.mp H
               obtain ⟨t476, A310, H⟩ := H
               (try dsimp only at H)
               have A31 := Aside0.mk A310
               clear A310
               by_cases c32 : t476 = true
               ·subst c32
                have H1 : (if ((t453 == 0) == (decide (t452 > 0))) = true then (if ((t456 == 0) == (decide (t455 > 0))) = true then (if ((t459 == 0) == (decide (t458 > 0))) = true then ((mapsheetslaw02_awake.f kj5).bind fun t477 => (some t477)) else (none)) else (none)) else (none)) = some r := by rw [if_pos rfl] at H; exact H
                clear H
                have H := H1
                clear H1
                by_cases c33 : ((t453 == 0) == (decide (t452 > 0))) = true
                ·rw [if_pos c33] at H
                 have c33b0 : ((t453 == 0) == (decide (t452 > 0))) = true := c33
                 (first | (have c33b3 : decide (0 < t452) = true := by have h_ := c33; rw [show (t453 == 0) = true from by assumption] at h_; simpa using h_) | (have c33b3 : decide (0 < t452) = false := by have h_ := c33; rw [show (t453 == 0) = false from by assumption] at h_; simpa using h_) | skip)
                 (try (have c33b1 : decide ((t453 == 0) = (decide (t452 > 0))) = true := by simpa using c33))
                 (try (have c33b2 : ((t453 == 0) == (decide (t452 > 0))) = true := by simpa using c33))
                 clear c33
                 by_cases c34 : ((t456 == 0) == (decide (t455 > 0))) = true
                 ·rw [if_pos c34] at H
                  have c34b0 : ((t456 == 0) == (decide (t455 > 0))) = true := c34
                  (first | (have c34b3 : decide (0 < t455) = true := by have h_ := c34; rw [show (t456 == 0) = true from by assumption] at h_; simpa using h_) | (have c34b3 : decide (0 < t455) = false := by have h_ := c34; rw [show (t456 == 0) = false from by assumption] at h_; simpa using h_) | skip)
                  (try (have c34b1 : decide ((t456 == 0) = (decide (t455 > 0))) = true := by simpa using c34))
                  (try (have c34b2 : ((t456 == 0) == (decide (t455 > 0))) = true := by simpa using c34))
                  clear c34
                  by_cases c35 : ((t459 == 0) == (decide (t458 > 0))) = true
                  ·rw [if_pos c35] at H
                   have c35b0 : ((t459 == 0) == (decide (t458 > 0))) = true := c35
                   (first | (have c35b3 : decide (0 < t458) = true := by have h_ := c35; rw [show (t459 == 0) = true from by assumption] at h_; simpa using h_) | (have c35b3 : decide (0 < t458) = false := by have h_ := c35; rw [show (t459 == 0) = false from by assumption] at h_; simpa using h_) | skip)
                   (try (have c35b1 : decide ((t459 == 0) = (decide (t458 > 0))) = true := by simpa using c35))
                   (try (have c35b2 : ((t459 == 0) == (decide (t458 > 0))) = true := by simpa using c35))
                   clear c35
                   replace H := Option.bind_eq_some_iff.mp H
                   obtain ⟨t477, A360, H⟩ := H
                   (try dsimp only at H)
                   have A36 := Aside0.mk A360
                   clear A360
                   obtain rfl := Option.some.inj H
                   try go_wp2
                   have n0_ := Aside0.mk (Kd.R_drew HO_11.out)
                   have n1_ := Aside0.mk (below_drew1 HB.out)
                   clear HO_11
                   clear HB
                   have HO_11 := n0_
                   have HB := n1_
                   clear n0_ n1_
                   obtain ⟨i038, hi038, _, hsz38, _⟩ := info_parts info5
                   obtain ⟨hcut38, hA38, hC38⟩ := print_take_of (P := Try.prog) (Value.int .u8) 0 22 5 .i64 Try.underlying22 hi038 hsz38 A0 c0 l0 t452 (of_decide_eq_true (by first | (with_reducible assumption) | assumption)) (of_decide_eq_true (by first | (with_reducible assumption) | assumption)) HC0.out
                   have HR465 := Aside0.mk (Kd.C_of_reads (h1 := fun _ => rfl) (hA38 _ (Kd.reads_of_C HR0.out)))
                   have HC465 := Aside0.mk hC38
                   clear hA38 hC38 hi038 hsz38
                   obtain ⟨i042, hi042, _, hsz42, _⟩ := info_parts info5
                   obtain ⟨hcut42, hA42, hC42⟩ := print_take_of (P := Try.prog) (Value.int .u8) 0 22 5 .i64 Try.underlying22 hi042 hsz42 A0 c0 l0 t455 (of_decide_eq_true (by first | (with_reducible assumption) | assumption)) (of_decide_eq_true (by first | (with_reducible assumption) | assumption)) HC0.out
                   have HR470 := Aside0.mk (Kd.C_of_reads (h1 := fun _ => rfl) (hA42 _ (Kd.reads_of_C HR0.out)))
                   have HC470 := Aside0.mk hC42
                   clear hA42 hC42 hi042 hsz42
                   obtain ⟨i046, hi046, _, hsz46, _⟩ := info_parts info5
                   obtain ⟨hcut46, hA46, hC46⟩ := print_take_of (P := Try.prog) (Value.int .u8) 0 22 5 .i64 Try.underlying22 hi046 hsz46 A0 c0 l0 t458 (of_decide_eq_true (by first | (with_reducible assumption) | assumption)) (of_decide_eq_true (by first | (with_reducible assumption) | assumption)) HC0.out
                   have HR475 := Aside0.mk (Kd.C_of_reads (h1 := fun _ => rfl) (hA46 _ (Kd.reads_of_C HR0.out)))
                   have HC475 := Aside0.mk hC46
                   clear hA46 hC46 hi046 hsz46
                   refine start_ (n := 37) (S := fun w' => True) (ds := []) #[F7,F7,F7,F7,F7,F7,F7,F7,F7,F7,F7,F7,F7,F7,F7,F7,F7,F7,F7,F7,F7,F7,F7,F7,F7,F7,F7,F7,F7,F7,F7,F7,F7,F7,F7,F7,F7] (by kernel_rfl) rfl rfl trivial (fun hHeld => ?_); refine with_tabW mapsheetslaw02_WireUnique.tab6 mapsheetslaw02_WireUnique.bits6 (fun HT_ HW_ => ?_)
                   generalize wc.drew = w37 at HO_11 HB HR465 hHeld ⊢
                   refine pure_ (i := 0) (N := some 62) (v := ?_) (a' := ?_) #[T7,F7,F7,F7,F7,F7,F7,F7,F7,F7,F7,F7,F7,F7,F7,F7,F7,F7,F7,F7,F7,F7,F7,F7,F7,F7,F7,F7,F7,F7,F7,F7,F7,F7,F7,F7,F7] rfl rfl (any_of HT_.out (by kernel_rfl)) (fun _ _ _ h => h) (Or.inl ⟨by rfl, ?_⟩) ?_ ?_
                   rotate_left
                   ·intro w'
                    go_simp
                    with_reducible rfl
                   rotate_left
                   ·simp only [Act.put, List.setIfInBounds_toArray, List.set_cons_zero, List.set_cons_succ, i64_w, i32_w]
                    rfl
                   refine pure_ (i := 1) (N := some 63) (v := ?_) (a' := ?_) #[T7,T7,F7,F7,F7,F7,F7,F7,F7,F7,F7,F7,F7,F7,F7,F7,F7,F7,F7,F7,F7,F7,F7,F7,F7,F7,F7,F7,F7,F7,F7,F7,F7,F7,F7,F7,F7] rfl rfl (any_of HT_.out (by kernel_rfl)) (fun _ _ _ h => h) (Or.inl ⟨by rfl, ?_⟩) ?_ ?_
                   rotate_left
                   ·intro w'
                    go_simp
                    with_reducible rfl
                   rotate_left
                   ·simp only [Act.put, List.setIfInBounds_toArray, List.set_cons_zero, List.set_cons_succ, i64_w, i32_w]
                    rfl
                   refine pure_ (i := 2) (N := some 64) (v := ?_) (a' := ?_) #[T7,T7,T7,F7,F7,F7,F7,F7,F7,F7,F7,F7,F7,F7,F7,F7,F7,F7,F7,F7,F7,F7,F7,F7,F7,F7,F7,F7,F7,F7,F7,F7,F7,F7,F7,F7,F7] rfl rfl (any_of HT_.out (by kernel_rfl)) (fun _ _ _ h => h) (Or.inl ⟨by rfl, ?_⟩) ?_ ?_
                   rotate_left
                   ·intro w'
                    go_simp
                    with_reducible rfl
                   rotate_left
                   ·simp only [Act.put, List.setIfInBounds_toArray, List.set_cons_zero, List.set_cons_succ, i64_w, i32_w]
                    rfl
                   refine pure_ (i := 3) (N := some 65) (v := ?_) (a' := ?_) #[T7,T7,T7,T7,F7,F7,F7,F7,F7,F7,F7,F7,F7,F7,F7,F7,F7,F7,F7,F7,F7,F7,F7,F7,F7,F7,F7,F7,F7,F7,F7,F7,F7,F7,F7,F7,F7] rfl rfl (any_of HT_.out (by kernel_rfl)) (fun _ _ _ h => h) (Or.inl ⟨by rfl, ?_⟩) ?_ ?_
                   rotate_left
                   ·intro w'
                    go_simp
                    with_reducible rfl
                   rotate_left
                   ·simp only [Act.put, List.setIfInBounds_toArray, List.set_cons_zero, List.set_cons_succ, i64_w, i32_w]
                    rfl
                   refine pure_ (i := 5) (N := some 67) (v := ?_) (a' := ?_) #[T7,T7,T7,T7,F7,T7,F7,F7,F7,F7,F7,F7,F7,F7,F7,F7,F7,F7,F7,F7,F7,F7,F7,F7,F7,F7,F7,F7,F7,F7,F7,F7,F7,F7,F7,F7,F7] rfl rfl (any_of HT_.out (by kernel_rfl)) (fun _ _ _ h => h) (Or.inl ⟨by rfl, ?_⟩) ?_ ?_
                   rotate_left
                   ·intro w'
                    go_simp
                    with_reducible rfl
                   rotate_left
                   ·simp only [Act.put, List.setIfInBounds_toArray, List.set_cons_zero, List.set_cons_succ, i64_w, i32_w]
                    rfl
                   refine pure_ (i := 6) (N := some 68) (v := ?_) (a' := ?_) #[T7,T7,T7,T7,F7,T7,T7,F7,F7,F7,F7,F7,F7,F7,F7,F7,F7,F7,F7,F7,F7,F7,F7,F7,F7,F7,F7,F7,F7,F7,F7,F7,F7,F7,F7,F7,F7] rfl rfl (any_of HT_.out (by kernel_rfl)) (fun _ _ _ h => h) (Or.inl ⟨by rfl, ?_⟩) ?_ ?_
                   rotate_left
                   ·intro w'
                    go_simp
                    with_reducible rfl
                   rotate_left
                   ·simp only [Act.put, List.setIfInBounds_toArray, List.set_cons_zero, List.set_cons_succ, i64_w, i32_w]
                    rfl
                   refine pure_ (i := 7) (N := some 69) (v := ?_) (a' := ?_) #[T7,T7,T7,T7,F7,T7,T7,T7,F7,F7,F7,F7,F7,F7,F7,F7,F7,F7,F7,F7,F7,F7,F7,F7,F7,F7,F7,F7,F7,F7,F7,F7,F7,F7,F7,F7,F7] rfl rfl (any_of HT_.out (by kernel_rfl)) (fun _ _ _ h => h) (Or.inl ⟨by rfl, ?_⟩) ?_ ?_
                   rotate_left
                   ·intro w'
                    go_simp
                    with_reducible rfl
                   rotate_left
                   ·simp only [Act.put, List.setIfInBounds_toArray, List.set_cons_zero, List.set_cons_succ, i64_w, i32_w]
                    rfl
                   refine one_ (i := 4) (N := some 66) #[T7,T7,T7,T7,T7,T7,T7,T7,F7,F7,F7,F7,F7,F7,F7,F7,F7,F7,F7,F7,F7,F7,F7,F7,F7,F7,F7,F7,F7,F7,F7,F7,F7,F7,F7,F7,F7] rfl rfl (one_of HT_.out (by kernel_rfl)) (by decide) (fun K hK => ?_)
                   refine goes_ Try.func14 (by kernel_rfl) rfl #[.slice none 0 0, .int .i64 t451] (by rfl) rfl rfl (by (try simp only [List.map_toArray, List.map_cons, List.map_nil]); first | done | rfl | (simp only [List.length_drop, List.length_take]; rfl)) ?_
                   refine (wire_PutInt.calls _ _ ([] : List Int) t451 t462 _ ?side1 ?side2 A16.out).mono ?_
                   (case side1 => exact Kd.C_nil _ _)
                   (case side2 => exact Nat.le_refl _)
                   rintro e w39 ⟨v463, rfl, ho0, hb⟩
                   refine ⟨_, rfl, ?_⟩
                   have n0_ := Aside0.mk (Kd.R_below (by (with_reducible repeat (first | apply Kd.R_alloc | apply Kd.R_drewN | apply Kd.R_drew)); exact HO_11.out) hb)
                   have n1_ := Aside0.mk (Kd.R_lower ho0 (below_size (by repeat (first | (with_reducible first | exact HB.out | apply below_alloc | apply pw_below_drewN | apply below_drew1) | exact HB.out))))
                   have n2_ := Aside0.mk (below_step (by repeat (first | (with_reducible first | exact HB.out | apply below_alloc | apply pw_below_drewN | apply below_drew1) | exact HB.out)) hb)
                   clear HO_11
                   clear HB
                   have HO_11 := n0_
                   have HO464 := n1_
                   have HB := n2_
                   clear n0_ n1_ n2_
                   (try clear hb)
                   (try clear hb2)
                   (try clear hk)
                   (try clear hi)
                   (try clear ho0)
                   obtain ⟨Ao40, co40, eo40⟩ := Kd.R_slice HO464.out
                   (first | subst eo40 | (injection eo40 with f1_ f2_ f3_; have f4_ := f1_.symm; have f5_ := f3_.symm; clear f1_ f2_ f3_; subst f4_; subst f5_))
                   refine hK.out _ _ trivial (fun hHeld => ?_)
                   clear hK K
                   refine norm_ (a' := ?_) ?_ ?_
                   rotate_left
                   ·show Act.put _ (some 66) _ = _
                    simp only [Act.put, List.setIfInBounds_toArray, List.set_cons_zero, List.set_cons_succ, i64_w, i32_w]
                    rfl
                   refine one_ (i := 8) (N := some 70) #[T7,T7,T7,T7,T7,T7,T7,T7,T7,F7,F7,F7,F7,F7,F7,F7,F7,F7,F7,F7,F7,F7,F7,F7,F7,F7,F7,F7,F7,F7,F7,F7,F7,F7,F7,F7,F7] rfl rfl (one_of HT_.out (by kernel_rfl)) (by decide) (fun K hK => ?_)
                   refine goes_ Try.func13 (by kernel_rfl) rfl #[.slice Ao40 t462.length co40, .slice A0 (l0.take (t452 : Int).toNat).length c0] (by rfl) rfl rfl (by (try simp only [List.map_toArray, List.map_cons, List.map_nil]); first | done | (rw [show (l0.take (t452 : Int).toNat).length = t452.toNat from (by rw [List.length_take]; have h_ : (t452 : Int) ≤ (l0.length : Int) := of_decide_eq_true (by first | (with_reducible assumption) | assumption); omega)] <;> rfl) | rfl | (simp only [List.length_drop, List.length_take]; rfl)) ?_
                   with_reducible refine (mapsheetsref02_Same.calls kj5 _ _ t462 _ _ (l0.take (t452 : Int).toNat) true _ ?side1 ?side2 ?side3 ?side4 A19.out).mono ?_
                   (case side1 => repeat (first | exact (Kd.R_reads' HO464.out).2.2 | (with_reducible refine Kd.C_alloc ?_ _) | (with_reducible refine Kd.C_drewN ?_ _) | (with_reducible refine Kd.C_drew ?_)))
                   (case side2 => exact (Kd.R_reads' HO464.out).2.1)
                   (case side3 => repeat (first | exact (Kd.C_below HR465.out HB.out) | (with_reducible refine Kd.C_alloc ?_ _) | (with_reducible refine Kd.C_drewN ?_ _) | (with_reducible refine Kd.C_drew ?_)))
                   (case side4 => exact HC465.out)
                   rintro e w' ⟨rfl, ⟨nd, rfl⟩⟩
                   refine ⟨_, rfl, ?_⟩
                   refine hK.out _ _ trivial (fun hHeld => ?_)
                   clear hK K
                   refine norm_ (a' := ?_) ?_ ?_
                   rotate_left
                   ·show Act.put _ (some 70) _ = _
                    simp only [Act.put, List.setIfInBounds_toArray, List.set_cons_zero, List.set_cons_succ, i64_w, i32_w]
                    rfl
                   refine pure_ (i := 9) (N := some 71) (v := ?_) (a' := ?_) #[T7,T7,T7,T7,T7,T7,T7,T7,T7,T7,F7,F7,F7,F7,F7,F7,F7,F7,F7,F7,F7,F7,F7,F7,F7,F7,F7,F7,F7,F7,F7,F7,F7,F7,F7,F7,F7] rfl rfl (any_of HT_.out (by kernel_rfl)) (fun _ _ _ h => h) (Or.inl ⟨by rfl, ?_⟩) ?_ ?_
                   rotate_left
                   ·intro w'
                    go_simp
                    with_reducible rfl
                   rotate_left
                   ·simp only [Act.put, List.setIfInBounds_toArray, List.set_cons_zero, List.set_cons_succ, i64_w, i32_w]
                    rfl
                   refine pure_ (i := 10) (N := some 72) (v := ?_) (a' := ?_) #[T7,T7,T7,T7,T7,T7,T7,T7,T7,T7,T7,F7,F7,F7,F7,F7,F7,F7,F7,F7,F7,F7,F7,F7,F7,F7,F7,F7,F7,F7,F7,F7,F7,F7,F7,F7,F7] rfl rfl (any_of HT_.out (by kernel_rfl)) (fun _ _ _ h => h) (Or.inl ⟨by rfl, ?_⟩) ?_ ?_
                   rotate_left
                   ·intro w'
                    go_simp
                    with_reducible rfl
                   rotate_left
                   ·simp only [Act.put, List.setIfInBounds_toArray, List.set_cons_zero, List.set_cons_succ, i64_w, i32_w]
                    rfl
                   refine pure_ (i := 11) (N := some 73) (v := ?_) (a' := ?_) #[T7,T7,T7,T7,T7,T7,T7,T7,T7,T7,T7,T7,F7,F7,F7,F7,F7,F7,F7,F7,F7,F7,F7,F7,F7,F7,F7,F7,F7,F7,F7,F7,F7,F7,F7,F7,F7] rfl rfl (any_of HT_.out (by kernel_rfl)) (fun _ _ _ h => h) (Or.inl ⟨by rfl, ?_⟩) ?_ ?_
                   rotate_left
                   ·intro w'
                    go_simp
                    with_reducible rfl
                   rotate_left
                   ·simp only [Act.put, List.setIfInBounds_toArray, List.set_cons_zero, List.set_cons_succ, i64_w, i32_w]
                    rfl
                   refine pure_ (i := 12) (N := some 74) (v := ?_) (a' := ?_) #[T7,T7,T7,T7,T7,T7,T7,T7,T7,T7,T7,T7,T7,F7,F7,F7,F7,F7,F7,F7,F7,F7,F7,F7,F7,F7,F7,F7,F7,F7,F7,F7,F7,F7,F7,F7,F7] rfl rfl (any_of HT_.out (by kernel_rfl)) (fun _ _ _ h => h) (Or.inl ⟨by rfl, ?_⟩) ?_ ?_
                   rotate_left
                   ·intro w'
                    go_simp
                    with_reducible rfl
                   rotate_left
                   ·simp only [Act.put, List.setIfInBounds_toArray, List.set_cons_zero, List.set_cons_succ, i64_w, i32_w]
                    rfl
                   refine pure_ (i := 13) (N := some 75) (v := ?_) (a' := ?_) #[T7,T7,T7,T7,T7,T7,T7,T7,T7,T7,T7,T7,T7,T7,F7,F7,F7,F7,F7,F7,F7,F7,F7,F7,F7,F7,F7,F7,F7,F7,F7,F7,F7,F7,F7,F7,F7] rfl rfl (any_of HT_.out (by kernel_rfl)) (fun _ _ _ h => h) (Or.inl ⟨by rfl, ?_⟩) ?_ ?_
                   rotate_left
                   ·intro w'
                    go_simp
                    with_reducible rfl
                   rotate_left
                   ·simp only [Act.put, List.setIfInBounds_toArray, List.set_cons_zero, List.set_cons_succ, i64_w, i32_w]
                    rfl
                   refine pure_ (i := 14) (N := some 76) (v := ?_) (a' := ?_) #[T7,T7,T7,T7,T7,T7,T7,T7,T7,T7,T7,T7,T7,T7,T7,F7,F7,F7,F7,F7,F7,F7,F7,F7,F7,F7,F7,F7,F7,F7,F7,F7,F7,F7,F7,F7,F7] rfl rfl (any_of HT_.out (by kernel_rfl)) (fun _ _ _ h => h) (Or.inl ⟨by rfl, ?_⟩) ?_ ?_
                   rotate_left
                   ·intro w'
                    go_simp
                    with_reducible rfl
                   rotate_left
                   ·simp only [Act.put, List.setIfInBounds_toArray, List.set_cons_zero, List.set_cons_succ, i64_w, i32_w]
                    rfl
                   refine pure_ (i := 15) (N := some 77) (v := ?_) (a' := ?_) #[T7,T7,T7,T7,T7,T7,T7,T7,T7,T7,T7,T7,T7,T7,T7,T7,F7,F7,F7,F7,F7,F7,F7,F7,F7,F7,F7,F7,F7,F7,F7,F7,F7,F7,F7,F7,F7] rfl rfl (any_of HT_.out (by kernel_rfl)) (fun _ _ _ h => h) (Or.inl ⟨by rfl, ?_⟩) ?_ ?_
                   rotate_left
                   ·intro w'
                    go_simp
                    with_reducible rfl
                   rotate_left
                   ·simp only [Act.put, List.setIfInBounds_toArray, List.set_cons_zero, List.set_cons_succ, i64_w, i32_w]
                    rfl
                   refine pure_ (i := 17) (N := some 79) (v := ?_) (a' := ?_) #[T7,T7,T7,T7,T7,T7,T7,T7,T7,T7,T7,T7,T7,T7,T7,T7,F7,T7,F7,F7,F7,F7,F7,F7,F7,F7,F7,F7,F7,F7,F7,F7,F7,F7,F7,F7,F7] rfl rfl (any_of HT_.out (by kernel_rfl)) (fun _ _ _ h => h) (Or.inl ⟨by rfl, ?_⟩) ?_ ?_
                   rotate_left
                   ·intro w'
                    go_simp
                    with_reducible rfl
                   rotate_left
                   ·simp only [Act.put, List.setIfInBounds_toArray, List.set_cons_zero, List.set_cons_succ, i64_w, i32_w]
                    rfl
                   refine pure_ (i := 18) (N := some 80) (v := ?_) (a' := ?_) #[T7,T7,T7,T7,T7,T7,T7,T7,T7,T7,T7,T7,T7,T7,T7,T7,F7,T7,T7,F7,F7,F7,F7,F7,F7,F7,F7,F7,F7,F7,F7,F7,F7,F7,F7,F7,F7] rfl rfl (any_of HT_.out (by kernel_rfl)) (fun _ _ _ h => h) (Or.inl ⟨by rfl, ?_⟩) ?_ ?_
                   rotate_left
                   ·intro w'
                    go_simp
                    with_reducible rfl
                   rotate_left
                   ·simp only [Act.put, List.setIfInBounds_toArray, List.set_cons_zero, List.set_cons_succ, i64_w, i32_w]
                    rfl
                   refine pure_ (i := 19) (N := some 81) (v := ?_) (a' := ?_) #[T7,T7,T7,T7,T7,T7,T7,T7,T7,T7,T7,T7,T7,T7,T7,T7,F7,T7,T7,T7,F7,F7,F7,F7,F7,F7,F7,F7,F7,F7,F7,F7,F7,F7,F7,F7,F7] rfl rfl (any_of HT_.out (by kernel_rfl)) (fun _ _ _ h => h) (Or.inl ⟨by rfl, ?_⟩) ?_ ?_
                   rotate_left
                   ·intro w'
                    go_simp
                    with_reducible rfl
                   rotate_left
                   ·simp only [Act.put, List.setIfInBounds_toArray, List.set_cons_zero, List.set_cons_succ, i64_w, i32_w]
                    rfl
                   refine one_ (i := 16) (N := some 78) #[T7,T7,T7,T7,T7,T7,T7,T7,T7,T7,T7,T7,T7,T7,T7,T7,T7,T7,T7,T7,F7,F7,F7,F7,F7,F7,F7,F7,F7,F7,F7,F7,F7,F7,F7,F7,F7] rfl rfl (one_of HT_.out (by kernel_rfl)) (by decide) (fun K hK => ?_)
                   refine goes_ Try.func19 (by kernel_rfl) rfl #[.slice none 0 0, .string t454] (by rfl) rfl rfl (by (try simp only [List.map_toArray, List.map_cons, List.map_nil]); first | done | rfl | (simp only [List.length_drop, List.length_take]; rfl)) ?_
                   refine (wire_PutText.calls _ _ ([] : List Int) t454 t467 _ ?side1 ?side2 A22.out).mono ?_
                   (case side1 => exact Kd.C_nil _ _)
                   (case side2 => exact Nat.le_refl _)
                   rintro e w41 ⟨v468, rfl, ho0, hb⟩
                   refine ⟨_, rfl, ?_⟩
                   have n0_ := Aside0.mk (Kd.R_below (by (with_reducible repeat (first | apply Kd.R_alloc | apply Kd.R_drewN | apply Kd.R_drew)); exact HO_11.out) hb)
                   have n1_ := Aside0.mk (Kd.R_elder' (by (with_reducible repeat (first | apply Kd.R_alloc | apply Kd.R_drewN | apply Kd.R_drew)); exact HO464.out) (Kd.R_base ho0) hb)
                   have n2_ := Aside0.mk (Kd.R_lower (Kd.R_new' ho0 (Kd.R_lt (by (with_reducible repeat (first | apply Kd.R_alloc | apply Kd.R_drewN | apply Kd.R_drew)); exact HO464.out))) (below_size (by repeat (first | (with_reducible first | exact HB.out | apply below_alloc | apply pw_below_drewN | apply below_drew1) | exact HB.out))))
                   have n3_ := Aside0.mk (below_step (by repeat (first | (with_reducible first | exact HB.out | apply below_alloc | apply pw_below_drewN | apply below_drew1) | exact HB.out)) hb)
                   clear HO_11
                   clear HO464
                   clear HB
                   have HO_11 := n0_
                   have HO464 := n1_
                   have HO469 := n2_
                   have HB := n3_
                   clear n0_ n1_ n2_ n3_
                   (try clear hb)
                   (try clear hb2)
                   (try clear hk)
                   (try clear hi)
                   (try clear ho0)
                   obtain ⟨Ao43, co43, eo43⟩ := Kd.R_slice HO469.out
                   (first | subst eo43 | (injection eo43 with f1_ f2_ f3_; have f4_ := f1_.symm; have f5_ := f3_.symm; clear f1_ f2_ f3_; subst f4_; subst f5_))
                   refine hK.out _ _ trivial (fun hHeld => ?_)
                   clear hK K
                   refine norm_ (a' := ?_) ?_ ?_
                   rotate_left
                   ·show Act.put _ (some 78) _ = _
                    simp only [Act.put, List.setIfInBounds_toArray, List.set_cons_zero, List.set_cons_succ, i64_w, i32_w]
                    rfl
                   refine one_ (i := 20) (N := some 82) #[T7,T7,T7,T7,T7,T7,T7,T7,T7,T7,T7,T7,T7,T7,T7,T7,T7,T7,T7,T7,T7,F7,F7,F7,F7,F7,F7,F7,F7,F7,F7,F7,F7,F7,F7,F7,F7] rfl rfl (one_of HT_.out (by kernel_rfl)) (by decide) (fun K hK => ?_)
                   refine goes_ Try.func13 (by kernel_rfl) rfl #[.slice Ao43 t467.length co43, .slice A0 (l0.take (t455 : Int).toNat).length c0] (by rfl) rfl rfl (by (try simp only [List.map_toArray, List.map_cons, List.map_nil]); first | done | (rw [show (l0.take (t455 : Int).toNat).length = t455.toNat from (by rw [List.length_take]; have h_ : (t455 : Int) ≤ (l0.length : Int) := of_decide_eq_true (by first | (with_reducible assumption) | assumption); omega)] <;> rfl) | rfl | (simp only [List.length_drop, List.length_take]; rfl)) ?_
                   with_reducible refine (mapsheetsref02_Same.calls kj5 _ _ t467 _ _ (l0.take (t455 : Int).toNat) true _ ?side1 ?side2 ?side3 ?side4 A25.out).mono ?_
                   (case side1 => repeat (first | exact (Kd.R_reads' HO469.out).2.2 | (with_reducible refine Kd.C_alloc ?_ _) | (with_reducible refine Kd.C_drewN ?_ _) | (with_reducible refine Kd.C_drew ?_)))
                   (case side2 => exact (Kd.R_reads' HO469.out).2.1)
                   (case side3 => repeat (first | exact (Kd.C_below HR470.out HB.out) | (with_reducible refine Kd.C_alloc ?_ _) | (with_reducible refine Kd.C_drewN ?_ _) | (with_reducible refine Kd.C_drew ?_)))
                   (case side4 => exact HC470.out)
                   rintro e w' ⟨rfl, ⟨nd, rfl⟩⟩
                   refine ⟨_, rfl, ?_⟩
                   obtain ⟨Ao44, co44, eo44⟩ := Kd.R_slice HO_11.out
                   (first | subst eo44 | (injection eo44 with f1_ f2_ f3_; have f4_ := f1_.symm; have f5_ := f3_.symm; clear f1_ f2_ f3_; subst f4_; subst f5_))
                   refine hK.out _ _ trivial (fun hHeld => ?_)
                   clear hK K
                   refine norm_ (a' := ?_) ?_ ?_
                   rotate_left
                   ·show Act.put _ (some 82) _ = _
                    simp only [Act.put, List.setIfInBounds_toArray, List.set_cons_zero, List.set_cons_succ, i64_w, i32_w]
                    rfl
                   refine pure_ (i := 21) (N := some 83) (v := ?_) (a' := ?_) #[T7,T7,T7,T7,T7,T7,T7,T7,T7,T7,T7,T7,T7,T7,T7,T7,T7,T7,T7,T7,T7,T7,F7,F7,F7,F7,F7,F7,F7,F7,F7,F7,F7,F7,F7,F7,F7] rfl rfl (any_of HT_.out (by kernel_rfl)) (fun _ _ _ h => h) (Or.inl ⟨by rfl, ?_⟩) ?_ ?_
                   rotate_left
                   ·intro w'
                    go_simp
                    with_reducible rfl
                   rotate_left
                   ·simp only [Act.put, List.setIfInBounds_toArray, List.set_cons_zero, List.set_cons_succ, i64_w, i32_w]
                    rfl
                   refine pure_ (i := 22) (N := some 84) (v := ?_) (a' := ?_) #[T7,T7,T7,T7,T7,T7,T7,T7,T7,T7,T7,T7,T7,T7,T7,T7,T7,T7,T7,T7,T7,T7,T7,F7,F7,F7,F7,F7,F7,F7,F7,F7,F7,F7,F7,F7,F7] rfl rfl (any_of HT_.out (by kernel_rfl)) (fun _ _ _ h => h) (Or.inl ⟨by rfl, ?_⟩) ?_ ?_
                   rotate_left
                   ·intro w'
                    go_simp
                    with_reducible rfl
                   rotate_left
                   ·simp only [Act.put, List.setIfInBounds_toArray, List.set_cons_zero, List.set_cons_succ, i64_w, i32_w]
                    rfl
                   refine pure_ (i := 23) (N := some 85) (v := ?_) (a' := ?_) #[T7,T7,T7,T7,T7,T7,T7,T7,T7,T7,T7,T7,T7,T7,T7,T7,T7,T7,T7,T7,T7,T7,T7,T7,F7,F7,F7,F7,F7,F7,F7,F7,F7,F7,F7,F7,F7] rfl rfl (any_of HT_.out (by kernel_rfl)) (fun _ _ _ h => h) (Or.inl ⟨by rfl, ?_⟩) ?_ ?_
                   rotate_left
                   ·intro w'
                    go_simp
                    with_reducible rfl
                   rotate_left
                   ·simp only [Act.put, List.setIfInBounds_toArray, List.set_cons_zero, List.set_cons_succ, i64_w, i32_w]
                    rfl
                   refine pure_ (i := 24) (N := some 86) (v := ?_) (a' := ?_) #[T7,T7,T7,T7,T7,T7,T7,T7,T7,T7,T7,T7,T7,T7,T7,T7,T7,T7,T7,T7,T7,T7,T7,T7,T7,F7,F7,F7,F7,F7,F7,F7,F7,F7,F7,F7,F7] rfl rfl (any_of HT_.out (by kernel_rfl)) (fun _ _ _ h => h) (Or.inl ⟨by rfl, ?_⟩) ?_ ?_
                   rotate_left
                   ·intro w'
                    go_simp
                    with_reducible rfl
                   rotate_left
                   ·simp only [Act.put, List.setIfInBounds_toArray, List.set_cons_zero, List.set_cons_succ, i64_w, i32_w]
                    rfl
                   refine pure_ (i := 25) (N := some 87) (v := ?_) (a' := ?_) #[T7,T7,T7,T7,T7,T7,T7,T7,T7,T7,T7,T7,T7,T7,T7,T7,T7,T7,T7,T7,T7,T7,T7,T7,T7,T7,F7,F7,F7,F7,F7,F7,F7,F7,F7,F7,F7] rfl rfl (any_of HT_.out (by kernel_rfl)) (fun _ _ _ h => h) (Or.inl ⟨by rfl, ?_⟩) ?_ ?_
                   rotate_left
                   ·intro w'
                    go_simp
                    with_reducible rfl
                   rotate_left
                   ·simp only [Act.put, List.setIfInBounds_toArray, List.set_cons_zero, List.set_cons_succ, i64_w, i32_w]
                    rfl
                   refine pure_ (i := 26) (N := some 88) (v := ?_) (a' := ?_) #[T7,T7,T7,T7,T7,T7,T7,T7,T7,T7,T7,T7,T7,T7,T7,T7,T7,T7,T7,T7,T7,T7,T7,T7,T7,T7,T7,F7,F7,F7,F7,F7,F7,F7,F7,F7,F7] rfl rfl (any_of HT_.out (by kernel_rfl)) (fun _ _ _ h => h) (Or.inl ⟨by rfl, ?_⟩) ?_ ?_
                   rotate_left
                   ·intro w'
                    go_simp
                    with_reducible rfl
                   rotate_left
                   ·simp only [Act.put, List.setIfInBounds_toArray, List.set_cons_zero, List.set_cons_succ, i64_w, i32_w]
                    rfl
                   refine pure_ (i := 27) (N := some 89) (v := ?_) (a' := ?_) #[T7,T7,T7,T7,T7,T7,T7,T7,T7,T7,T7,T7,T7,T7,T7,T7,T7,T7,T7,T7,T7,T7,T7,T7,T7,T7,T7,T7,F7,F7,F7,F7,F7,F7,F7,F7,F7] rfl rfl (any_of HT_.out (by kernel_rfl)) (fun _ _ _ h => h) (Or.inl ⟨by rfl, ?_⟩) ?_ ?_
                   rotate_left
                   ·intro w'
                    go_simp
                    with_reducible rfl
                   rotate_left
                   ·simp only [Act.put, List.setIfInBounds_toArray, List.set_cons_zero, List.set_cons_succ, i64_w, i32_w]
                    rfl
                   refine pure_ (i := 28) (N := some 90) (v := ?_) (a' := ?_) #[T7,T7,T7,T7,T7,T7,T7,T7,T7,T7,T7,T7,T7,T7,T7,T7,T7,T7,T7,T7,T7,T7,T7,T7,T7,T7,T7,T7,T7,F7,F7,F7,F7,F7,F7,F7,F7] rfl rfl (any_of HT_.out (by kernel_rfl)) (fun _ _ _ h => h) (Or.inl ⟨by rfl, ?_⟩) ?_ ?_
                   rotate_left
                   ·intro w'
                    go_simp
                    with_reducible rfl
                   rotate_left
                   ·simp only [Act.put, List.setIfInBounds_toArray, List.set_cons_zero, List.set_cons_succ, i64_w, i32_w]
                    rfl
                   refine pure_ (i := 30) (N := some 92) (v := ?_) (a' := ?_) #[T7,T7,T7,T7,T7,T7,T7,T7,T7,T7,T7,T7,T7,T7,T7,T7,T7,T7,T7,T7,T7,T7,T7,T7,T7,T7,T7,T7,T7,F7,T7,F7,F7,F7,F7,F7,F7] rfl rfl (any_of HT_.out (by kernel_rfl)) (fun _ _ _ h => h) (Or.inl ⟨by rfl, ?_⟩) ?_ ?_
                   rotate_left
                   ·intro w'
                    go_simp
                    with_reducible rfl
                   rotate_left
                   ·simp only [Act.put, List.setIfInBounds_toArray, List.set_cons_zero, List.set_cons_succ, i64_w, i32_w]
                    rfl
                   refine pure_ (i := 31) (N := some 93) (v := ?_) (a' := ?_) #[T7,T7,T7,T7,T7,T7,T7,T7,T7,T7,T7,T7,T7,T7,T7,T7,T7,T7,T7,T7,T7,T7,T7,T7,T7,T7,T7,T7,T7,F7,T7,T7,F7,F7,F7,F7,F7] rfl rfl (any_of HT_.out (by kernel_rfl)) (fun _ _ _ h => h) (Or.inl ⟨by rfl, ?_⟩) ?_ ?_
                   rotate_left
                   ·intro w'
                    go_simp
                    with_reducible rfl
                   rotate_left
                   ·simp only [Act.put, List.setIfInBounds_toArray, List.set_cons_zero, List.set_cons_succ, i64_w, i32_w]
                    rfl
                   refine pure_ (i := 32) (N := some 94) (v := ?_) (a' := ?_) #[T7,T7,T7,T7,T7,T7,T7,T7,T7,T7,T7,T7,T7,T7,T7,T7,T7,T7,T7,T7,T7,T7,T7,T7,T7,T7,T7,T7,T7,F7,T7,T7,T7,F7,F7,F7,F7] rfl rfl (any_of HT_.out (by kernel_rfl)) (fun _ _ _ h => h) (Or.inl ⟨by rfl, ?_⟩) ?_ ?_
                   rotate_left
                   ·intro w'
                    go_simp
                    with_reducible rfl
                   rotate_left
                   ·simp only [Act.put, List.setIfInBounds_toArray, List.set_cons_zero, List.set_cons_succ, i64_w, i32_w]
                    rfl
                   refine one_ (i := 29) (N := some 91) #[T7,T7,T7,T7,T7,T7,T7,T7,T7,T7,T7,T7,T7,T7,T7,T7,T7,T7,T7,T7,T7,T7,T7,T7,T7,T7,T7,T7,T7,T7,T7,T7,T7,F7,F7,F7,F7] rfl rfl (one_of HT_.out (by kernel_rfl)) (by decide) (fun K hK => ?_)
                   refine goes_ Try.func23 (by kernel_rfl) rfl #[.slice none 0 0, .slice Ao44 t457.length co44] (by rfl) rfl rfl (by (try simp only [List.map_toArray, List.map_cons, List.map_nil]); first | done | rfl | (simp only [List.length_drop, List.length_take]; rfl)) ?_
                   refine (wire_PutList.calls kj5 _ _ ([] : List Int) _ _ t457 t472 _ ?side1 ?side2 ?side3 ?side4 A28.out).mono ?_
                   (case side1 => exact Kd.C_nil _ _)
                   (case side2 => exact Nat.le_refl _)
                   (case side3 => repeat (first | exact (Kd.R_reads' HO_11.out).2.2 | (with_reducible refine Kd.C_alloc ?_ _) | (with_reducible refine Kd.C_drewN ?_ _) | (with_reducible refine Kd.C_drew ?_)))
                   (case side4 => exact (Kd.R_reads' HO_11.out).2.1)
                   rintro e w45 ⟨v473, rfl, ho0, hb⟩
                   refine ⟨_, rfl, ?_⟩
                   have n0_ := Aside0.mk (Kd.R_below (by (with_reducible repeat (first | apply Kd.R_alloc | apply Kd.R_drewN | apply Kd.R_drew)); exact HO_11.out) hb)
                   have n1_ := Aside0.mk (Kd.R_elder' (by (with_reducible repeat (first | apply Kd.R_alloc | apply Kd.R_drewN | apply Kd.R_drew)); exact HO464.out) (Kd.R_base ho0) hb)
                   have n2_ := Aside0.mk (Kd.R_elder' (by (with_reducible repeat (first | apply Kd.R_alloc | apply Kd.R_drewN | apply Kd.R_drew)); exact HO469.out) (Kd.R_base ho0) hb)
                   have n3_ := Aside0.mk (Kd.R_lower (Kd.R_new' (Kd.R_new' ho0 (Kd.R_lt (by (with_reducible repeat (first | apply Kd.R_alloc | apply Kd.R_drewN | apply Kd.R_drew)); exact HO464.out))) (Kd.R_lt (by (with_reducible repeat (first | apply Kd.R_alloc | apply Kd.R_drewN | apply Kd.R_drew)); exact HO469.out))) (below_size (by repeat (first | (with_reducible first | exact HB.out | apply below_alloc | apply pw_below_drewN | apply below_drew1) | exact HB.out))))
                   have n4_ := Aside0.mk (below_step (by repeat (first | (with_reducible first | exact HB.out | apply below_alloc | apply pw_below_drewN | apply below_drew1) | exact HB.out)) hb)
                   clear HO_11
                   clear HO464
                   clear HO469
                   clear HB
                   have HO_11 := n0_
                   have HO464 := n1_
                   have HO469 := n2_
                   have HO474 := n3_
                   have HB := n4_
                   clear n0_ n1_ n2_ n3_ n4_
                   (try clear hb)
                   (try clear hb2)
                   (try clear hk)
                   (try clear hi)
                   (try clear ho0)
                   obtain ⟨Ao47, co47, eo47⟩ := Kd.R_slice HO474.out
                   (first | subst eo47 | (injection eo47 with f1_ f2_ f3_; have f4_ := f1_.symm; have f5_ := f3_.symm; clear f1_ f2_ f3_; subst f4_; subst f5_))
                   refine hK.out _ _ trivial (fun hHeld => ?_)
                   clear hK K
                   refine norm_ (a' := ?_) ?_ ?_
                   rotate_left
                   ·show Act.put _ (some 91) _ = _
                    simp only [Act.put, List.setIfInBounds_toArray, List.set_cons_zero, List.set_cons_succ, i64_w, i32_w]
                    rfl
                   refine one_ (i := 33) (N := some 95) #[T7,T7,T7,T7,T7,T7,T7,T7,T7,T7,T7,T7,T7,T7,T7,T7,T7,T7,T7,T7,T7,T7,T7,T7,T7,T7,T7,T7,T7,T7,T7,T7,T7,T7,F7,F7,F7] rfl rfl (one_of HT_.out (by kernel_rfl)) (by decide) (fun K hK => ?_)
                   refine goes_ Try.func13 (by kernel_rfl) rfl #[.slice Ao47 t472.length co47, .slice A0 (l0.take (t458 : Int).toNat).length c0] (by rfl) rfl rfl (by (try simp only [List.map_toArray, List.map_cons, List.map_nil]); first | done | (rw [show (l0.take (t458 : Int).toNat).length = t458.toNat from (by rw [List.length_take]; have h_ : (t458 : Int) ≤ (l0.length : Int) := of_decide_eq_true (by first | (with_reducible assumption) | assumption); omega)] <;> rfl) | rfl | (simp only [List.length_drop, List.length_take]; rfl)) ?_
                   with_reducible refine (mapsheetsref02_Same.calls kj5 _ _ t472 _ _ (l0.take (t458 : Int).toNat) true _ ?side1 ?side2 ?side3 ?side4 A31.out).mono ?_
                   (case side1 => repeat (first | exact (Kd.R_reads' HO474.out).2.2 | (with_reducible refine Kd.C_alloc ?_ _) | (with_reducible refine Kd.C_drewN ?_ _) | (with_reducible refine Kd.C_drew ?_)))
                   (case side2 => exact (Kd.R_reads' HO474.out).2.1)
                   (case side3 => repeat (first | exact (Kd.C_below HR475.out HB.out) | (with_reducible refine Kd.C_alloc ?_ _) | (with_reducible refine Kd.C_drewN ?_ _) | (with_reducible refine Kd.C_drew ?_)))
                   (case side4 => exact HC475.out)
                   rintro e w' ⟨rfl, ⟨nd, rfl⟩⟩
                   refine ⟨_, rfl, ?_⟩
                   refine hK.out _ _ trivial (fun hHeld => ?_)
                   clear hK K
                   refine norm_ (a' := ?_) ?_ ?_
                   rotate_left
                   ·show Act.put _ (some 95) _ = _
                    simp only [Act.put, List.setIfInBounds_toArray, List.set_cons_zero, List.set_cons_succ, i64_w, i32_w]
                    rfl
                   refine pure_ (i := 34) (N := some 96) (v := ?_) (a' := ?_) #[T7,T7,T7,T7,T7,T7,T7,T7,T7,T7,T7,T7,T7,T7,T7,T7,T7,T7,T7,T7,T7,T7,T7,T7,T7,T7,T7,T7,T7,T7,T7,T7,T7,T7,T7,F7,F7] rfl rfl (any_of HT_.out (by kernel_rfl)) (fun _ _ _ h => h) (Or.inl ⟨by rfl, ?_⟩) ?_ ?_
                   rotate_left
                   ·intro w'
                    go_simp
                    with_reducible rfl
                   rotate_left
                   ·simp only [Act.put, List.setIfInBounds_toArray, List.set_cons_zero, List.set_cons_succ, i64_w, i32_w]
                    rfl
                   refine pure_ (i := 35) (N := some 97) (v := ?_) (a' := ?_) #[T7,T7,T7,T7,T7,T7,T7,T7,T7,T7,T7,T7,T7,T7,T7,T7,T7,T7,T7,T7,T7,T7,T7,T7,T7,T7,T7,T7,T7,T7,T7,T7,T7,T7,T7,T7,F7] rfl rfl (any_of HT_.out (by kernel_rfl)) (fun _ _ _ h => h) (Or.inl ⟨by rfl, ?_⟩) ?_ ?_
                   rotate_left
                   ·intro w'
                    go_simp
                    with_reducible rfl
                   rotate_left
                   ·simp only [Act.put, List.setIfInBounds_toArray, List.set_cons_zero, List.set_cons_succ, i64_w, i32_w]
                    rfl
                   refine pure_ (i := 36) (N := some 98) (v := ?_) (a' := ?_) #[T7,T7,T7,T7,T7,T7,T7,T7,T7,T7,T7,T7,T7,T7,T7,T7,T7,T7,T7,T7,T7,T7,T7,T7,T7,T7,T7,T7,T7,T7,T7,T7,T7,T7,T7,T7,T7] rfl rfl (any_of HT_.out (by kernel_rfl)) (fun _ _ _ h => h) (Or.inl ⟨by rfl, ?_⟩) ?_ ?_
                   rotate_left
                   ·intro w'
                    go_simp
                    with_reducible rfl
                   rotate_left
                   ·simp only [Act.put, List.setIfInBounds_toArray, List.set_cons_zero, List.set_cons_succ, i64_w, i32_w]
                    rfl
                   refine done_ (done_of HT_.out (by kernel_rfl)) ?_
                   try go_wp2_with (first | (go_at_call 16; (with_reducible refine (mapsheetslaw02_awake.calls kj5  t477 _ A36.out).mono ?_); rintro e w48 ⟨rfl, hb⟩; have n0_ := Aside0.mk (Kd.R_below (by (with_reducible repeat (first | apply Kd.R_alloc | apply Kd.R_drewN | apply Kd.R_drew)); exact HO_11.out) hb); have n1_ := Aside0.mk (Kd.R_below (by (with_reducible repeat (first | apply Kd.R_alloc | apply Kd.R_drewN | apply Kd.R_drew)); exact HO464.out) hb); have n2_ := Aside0.mk (Kd.R_below (by (with_reducible repeat (first | apply Kd.R_alloc | apply Kd.R_drewN | apply Kd.R_drew)); exact HO469.out) hb); have n3_ := Aside0.mk (Kd.R_below (by (with_reducible repeat (first | apply Kd.R_alloc | apply Kd.R_drewN | apply Kd.R_drew)); exact HO474.out) hb); have n4_ := Aside0.mk (below_step (by repeat (first | (with_reducible first | exact HB.out | apply below_alloc | apply pw_below_drewN | apply below_drew1) | exact HB.out)) hb); clear HO_11; clear HO464; clear HO469; clear HO474; clear HB; have HO_11 := n0_; have HO464 := n1_; have HO469 := n2_; have HO474 := n3_; have HB := n4_; clear n0_ n1_ n2_ n3_ n4_; (try clear hb); (try clear hb2); (try clear hk); (try clear hi)))
                   go_ret
                   exact ⟨by first | rfl | (simp [errW_none, errW_some] <;> rfl) | (simp [*, errW_none, errW_some] <;> rfl), by repeat (first | (with_reducible first | exact HB.out | apply below_alloc | apply pw_below_drewN | apply below_drew1) | exact HB.out)⟩
                  ·rw [if_neg c35] at H
                   exact absurd H (by simp)
                 ·rw [if_neg c34] at H
                  exact absurd H (by simp)
                ·rw [if_neg c33] at H
                 exact absurd H (by simp)
               ·replace c32 := Bool.eq_false_iff.mpr c32
                subst c32
                have H1 : (none) = some r := by rw [if_neg (show ¬ (false = true) by decide)] at H; exact H
                clear H
                have H := H1
                clear H1
                exact absurd H (by simp)
              ·rw [if_neg c30] at H
               exact absurd H (by simp)
             ·rw [if_neg c29] at H
              exact absurd H (by simp)
            ·rw [if_neg c27] at H
             have c27b0 : (t459 == 0) = false := beq_eq_false_iff_ne.mpr c27
             have c27b1 : (t459 != 0) = true := bne_iff_ne.mpr c27
             by_cases c49 : ((t453 == 0) == (decide (t452 > 0))) = true
             ·rw [if_pos c49] at H
              have c49b0 : ((t453 == 0) == (decide (t452 > 0))) = true := c49
              (first | (have c49b3 : decide (0 < t452) = true := by have h_ := c49; rw [show (t453 == 0) = true from by assumption] at h_; simpa using h_) | (have c49b3 : decide (0 < t452) = false := by have h_ := c49; rw [show (t453 == 0) = false from by assumption] at h_; simpa using h_) | skip)
              (try (have c49b1 : decide ((t453 == 0) = (decide (t452 > 0))) = true := by simpa using c49))
              (try (have c49b2 : ((t453 == 0) == (decide (t452 > 0))) = true := by simpa using c49))
              clear c49
              by_cases c50 : ((t456 == 0) == (decide (t455 > 0))) = true
              ·rw [if_pos c50] at H
               have c50b0 : ((t456 == 0) == (decide (t455 > 0))) = true := c50
               (first | (have c50b3 : decide (0 < t455) = true := by have h_ := c50; rw [show (t456 == 0) = true from by assumption] at h_; simpa using h_) | (have c50b3 : decide (0 < t455) = false := by have h_ := c50; rw [show (t456 == 0) = false from by assumption] at h_; simpa using h_) | skip)
               (try (have c50b1 : decide ((t456 == 0) = (decide (t455 > 0))) = true := by simpa using c50))
               (try (have c50b2 : ((t456 == 0) == (decide (t455 > 0))) = true := by simpa using c50))
               clear c50
               by_cases c51 : ((t459 == 0) == (decide (t458 > 0))) = true
               ·rw [if_pos c51] at H
                have c51b0 : ((t459 == 0) == (decide (t458 > 0))) = true := c51
                (first | (have c51b3 : decide (0 < t458) = true := by have h_ := c51; rw [show (t459 == 0) = true from by assumption] at h_; simpa using h_) | (have c51b3 : decide (0 < t458) = false := by have h_ := c51; rw [show (t459 == 0) = false from by assumption] at h_; simpa using h_) | skip)
                (try (have c51b1 : decide ((t459 == 0) = (decide (t458 > 0))) = true := by simpa using c51))
                (try (have c51b2 : ((t459 == 0) == (decide (t458 > 0))) = true := by simpa using c51))
                clear c51
                replace H := Option.bind_eq_some_iff.mp H
                obtain ⟨t478, A520, H⟩ := H
                (try dsimp only at H)
                have A52 := Aside0.mk A520
                clear A520
                obtain rfl := Option.some.inj H
                try go_wp2
                have n0_ := Aside0.mk (Kd.R_drew HO_11.out)
                have n1_ := Aside0.mk (below_drew1 HB.out)
                clear HO_11
                clear HB
                have HO_11 := n0_
                have HB := n1_
                clear n0_ n1_
                obtain ⟨i054, hi054, _, hsz54, _⟩ := info_parts info5
                obtain ⟨hcut54, hA54, hC54⟩ := print_take_of (P := Try.prog) (Value.int .u8) 0 22 5 .i64 Try.underlying22 hi054 hsz54 A0 c0 l0 t452 (of_decide_eq_true (by first | (with_reducible assumption) | assumption)) (of_decide_eq_true (by first | (with_reducible assumption) | assumption)) HC0.out
                have HR465 := Aside0.mk (Kd.C_of_reads (h1 := fun _ => rfl) (hA54 _ (Kd.reads_of_C HR0.out)))
                have HC465 := Aside0.mk hC54
                clear hA54 hC54 hi054 hsz54
                obtain ⟨i058, hi058, _, hsz58, _⟩ := info_parts info5
                obtain ⟨hcut58, hA58, hC58⟩ := print_take_of (P := Try.prog) (Value.int .u8) 0 22 5 .i64 Try.underlying22 hi058 hsz58 A0 c0 l0 t455 (of_decide_eq_true (by first | (with_reducible assumption) | assumption)) (of_decide_eq_true (by first | (with_reducible assumption) | assumption)) HC0.out
                have HR470 := Aside0.mk (Kd.C_of_reads (h1 := fun _ => rfl) (hA58 _ (Kd.reads_of_C HR0.out)))
                have HC470 := Aside0.mk hC58
                clear hA58 hC58 hi058 hsz58
                refine start_ (n := 37) (S := fun w' => True) (ds := []) #[F7,F7,F7,F7,F7,F7,F7,F7,F7,F7,F7,F7,F7,F7,F7,F7,F7,F7,F7,F7,F7,F7,F7,F7,F7,F7,F7,F7,F7,F7,F7,F7,F7,F7,F7,F7,F7] (by kernel_rfl) rfl rfl trivial (fun hHeld => ?_); refine with_tabW mapsheetslaw02_WireUnique.tab6 mapsheetslaw02_WireUnique.bits6 (fun HT_ HW_ => ?_)
                generalize wc.drew = w53 at HO_11 HB HR465 hHeld ⊢
                refine pure_ (i := 0) (N := some 62) (v := ?_) (a' := ?_) #[T7,F7,F7,F7,F7,F7,F7,F7,F7,F7,F7,F7,F7,F7,F7,F7,F7,F7,F7,F7,F7,F7,F7,F7,F7,F7,F7,F7,F7,F7,F7,F7,F7,F7,F7,F7,F7] rfl rfl (any_of HT_.out (by kernel_rfl)) (fun _ _ _ h => h) (Or.inl ⟨by rfl, ?_⟩) ?_ ?_
                rotate_left
                ·intro w'
                 go_simp
                 with_reducible rfl
                rotate_left
                ·simp only [Act.put, List.setIfInBounds_toArray, List.set_cons_zero, List.set_cons_succ, i64_w, i32_w]
                 rfl
                refine pure_ (i := 1) (N := some 63) (v := ?_) (a' := ?_) #[T7,T7,F7,F7,F7,F7,F7,F7,F7,F7,F7,F7,F7,F7,F7,F7,F7,F7,F7,F7,F7,F7,F7,F7,F7,F7,F7,F7,F7,F7,F7,F7,F7,F7,F7,F7,F7] rfl rfl (any_of HT_.out (by kernel_rfl)) (fun _ _ _ h => h) (Or.inl ⟨by rfl, ?_⟩) ?_ ?_
                rotate_left
                ·intro w'
                 go_simp
                 with_reducible rfl
                rotate_left
                ·simp only [Act.put, List.setIfInBounds_toArray, List.set_cons_zero, List.set_cons_succ, i64_w, i32_w]
                 rfl
                refine pure_ (i := 2) (N := some 64) (v := ?_) (a' := ?_) #[T7,T7,T7,F7,F7,F7,F7,F7,F7,F7,F7,F7,F7,F7,F7,F7,F7,F7,F7,F7,F7,F7,F7,F7,F7,F7,F7,F7,F7,F7,F7,F7,F7,F7,F7,F7,F7] rfl rfl (any_of HT_.out (by kernel_rfl)) (fun _ _ _ h => h) (Or.inl ⟨by rfl, ?_⟩) ?_ ?_
                rotate_left
                ·intro w'
                 go_simp
                 with_reducible rfl
                rotate_left
                ·simp only [Act.put, List.setIfInBounds_toArray, List.set_cons_zero, List.set_cons_succ, i64_w, i32_w]
                 rfl
                refine pure_ (i := 3) (N := some 65) (v := ?_) (a' := ?_) #[T7,T7,T7,T7,F7,F7,F7,F7,F7,F7,F7,F7,F7,F7,F7,F7,F7,F7,F7,F7,F7,F7,F7,F7,F7,F7,F7,F7,F7,F7,F7,F7,F7,F7,F7,F7,F7] rfl rfl (any_of HT_.out (by kernel_rfl)) (fun _ _ _ h => h) (Or.inl ⟨by rfl, ?_⟩) ?_ ?_
                rotate_left
                ·intro w'
                 go_simp
                 with_reducible rfl
                rotate_left
                ·simp only [Act.put, List.setIfInBounds_toArray, List.set_cons_zero, List.set_cons_succ, i64_w, i32_w]
                 rfl
                refine pure_ (i := 5) (N := some 67) (v := ?_) (a' := ?_) #[T7,T7,T7,T7,F7,T7,F7,F7,F7,F7,F7,F7,F7,F7,F7,F7,F7,F7,F7,F7,F7,F7,F7,F7,F7,F7,F7,F7,F7,F7,F7,F7,F7,F7,F7,F7,F7] rfl rfl (any_of HT_.out (by kernel_rfl)) (fun _ _ _ h => h) (Or.inl ⟨by rfl, ?_⟩) ?_ ?_
                rotate_left
                ·intro w'
                 go_simp
                 with_reducible rfl
                rotate_left
                ·simp only [Act.put, List.setIfInBounds_toArray, List.set_cons_zero, List.set_cons_succ, i64_w, i32_w]
                 rfl
                refine pure_ (i := 6) (N := some 68) (v := ?_) (a' := ?_) #[T7,T7,T7,T7,F7,T7,T7,F7,F7,F7,F7,F7,F7,F7,F7,F7,F7,F7,F7,F7,F7,F7,F7,F7,F7,F7,F7,F7,F7,F7,F7,F7,F7,F7,F7,F7,F7] rfl rfl (any_of HT_.out (by kernel_rfl)) (fun _ _ _ h => h) (Or.inl ⟨by rfl, ?_⟩) ?_ ?_
                rotate_left
                ·intro w'
                 go_simp
                 with_reducible rfl
                rotate_left
                ·simp only [Act.put, List.setIfInBounds_toArray, List.set_cons_zero, List.set_cons_succ, i64_w, i32_w]
                 rfl
                refine pure_ (i := 7) (N := some 69) (v := ?_) (a' := ?_) #[T7,T7,T7,T7,F7,T7,T7,T7,F7,F7,F7,F7,F7,F7,F7,F7,F7,F7,F7,F7,F7,F7,F7,F7,F7,F7,F7,F7,F7,F7,F7,F7,F7,F7,F7,F7,F7] rfl rfl (any_of HT_.out (by kernel_rfl)) (fun _ _ _ h => h) (Or.inl ⟨by rfl, ?_⟩) ?_ ?_
                rotate_left
                ·intro w'
                 go_simp
                 with_reducible rfl
                rotate_left
                ·simp only [Act.put, List.setIfInBounds_toArray, List.set_cons_zero, List.set_cons_succ, i64_w, i32_w]
                 rfl
                refine one_ (i := 4) (N := some 66) #[T7,T7,T7,T7,T7,T7,T7,T7,F7,F7,F7,F7,F7,F7,F7,F7,F7,F7,F7,F7,F7,F7,F7,F7,F7,F7,F7,F7,F7,F7,F7,F7,F7,F7,F7,F7,F7] rfl rfl (one_of HT_.out (by kernel_rfl)) (by decide) (fun K hK => ?_)
                refine goes_ Try.func14 (by kernel_rfl) rfl #[.slice none 0 0, .int .i64 t451] (by rfl) rfl rfl (by (try simp only [List.map_toArray, List.map_cons, List.map_nil]); first | done | rfl | (simp only [List.length_drop, List.length_take]; rfl)) ?_
                refine (wire_PutInt.calls _ _ ([] : List Int) t451 t462 _ ?side1 ?side2 A16.out).mono ?_
                (case side1 => exact Kd.C_nil _ _)
                (case side2 => exact Nat.le_refl _)
                rintro e w55 ⟨v463, rfl, ho0, hb⟩
                refine ⟨_, rfl, ?_⟩
                have n0_ := Aside0.mk (Kd.R_below (by (with_reducible repeat (first | apply Kd.R_alloc | apply Kd.R_drewN | apply Kd.R_drew)); exact HO_11.out) hb)
                have n1_ := Aside0.mk (Kd.R_lower ho0 (below_size (by repeat (first | (with_reducible first | exact HB.out | apply below_alloc | apply pw_below_drewN | apply below_drew1) | exact HB.out))))
                have n2_ := Aside0.mk (below_step (by repeat (first | (with_reducible first | exact HB.out | apply below_alloc | apply pw_below_drewN | apply below_drew1) | exact HB.out)) hb)
                clear HO_11
                clear HB
                have HO_11 := n0_
                have HO464 := n1_
                have HB := n2_
                clear n0_ n1_ n2_
                (try clear hb)
                (try clear hb2)
                (try clear hk)
                (try clear hi)
                (try clear ho0)
                obtain ⟨Ao56, co56, eo56⟩ := Kd.R_slice HO464.out
                (first | subst eo56 | (injection eo56 with f1_ f2_ f3_; have f4_ := f1_.symm; have f5_ := f3_.symm; clear f1_ f2_ f3_; subst f4_; subst f5_))
                refine hK.out _ _ trivial (fun hHeld => ?_)
                clear hK K
                refine norm_ (a' := ?_) ?_ ?_
                rotate_left
                ·show Act.put _ (some 66) _ = _
                 simp only [Act.put, List.setIfInBounds_toArray, List.set_cons_zero, List.set_cons_succ, i64_w, i32_w]
                 rfl
                refine one_ (i := 8) (N := some 70) #[T7,T7,T7,T7,T7,T7,T7,T7,T7,F7,F7,F7,F7,F7,F7,F7,F7,F7,F7,F7,F7,F7,F7,F7,F7,F7,F7,F7,F7,F7,F7,F7,F7,F7,F7,F7,F7] rfl rfl (one_of HT_.out (by kernel_rfl)) (by decide) (fun K hK => ?_)
                refine goes_ Try.func13 (by kernel_rfl) rfl #[.slice Ao56 t462.length co56, .slice A0 (l0.take (t452 : Int).toNat).length c0] (by rfl) rfl rfl (by (try simp only [List.map_toArray, List.map_cons, List.map_nil]); first | done | (rw [show (l0.take (t452 : Int).toNat).length = t452.toNat from (by rw [List.length_take]; have h_ : (t452 : Int) ≤ (l0.length : Int) := of_decide_eq_true (by first | (with_reducible assumption) | assumption); omega)] <;> rfl) | rfl | (simp only [List.length_drop, List.length_take]; rfl)) ?_
                with_reducible refine (mapsheetsref02_Same.calls kj5 _ _ t462 _ _ (l0.take (t452 : Int).toNat) true _ ?side1 ?side2 ?side3 ?side4 A19.out).mono ?_
                (case side1 => repeat (first | exact (Kd.R_reads' HO464.out).2.2 | (with_reducible refine Kd.C_alloc ?_ _) | (with_reducible refine Kd.C_drewN ?_ _) | (with_reducible refine Kd.C_drew ?_)))
                (case side2 => exact (Kd.R_reads' HO464.out).2.1)
                (case side3 => repeat (first | exact (Kd.C_below HR465.out HB.out) | (with_reducible refine Kd.C_alloc ?_ _) | (with_reducible refine Kd.C_drewN ?_ _) | (with_reducible refine Kd.C_drew ?_)))
                (case side4 => exact HC465.out)
                rintro e w' ⟨rfl, ⟨nd, rfl⟩⟩
                refine ⟨_, rfl, ?_⟩
                refine hK.out _ _ trivial (fun hHeld => ?_)
                clear hK K
                refine norm_ (a' := ?_) ?_ ?_
                rotate_left
                ·show Act.put _ (some 70) _ = _
                 simp only [Act.put, List.setIfInBounds_toArray, List.set_cons_zero, List.set_cons_succ, i64_w, i32_w]
                 rfl
                refine pure_ (i := 9) (N := some 71) (v := ?_) (a' := ?_) #[T7,T7,T7,T7,T7,T7,T7,T7,T7,T7,F7,F7,F7,F7,F7,F7,F7,F7,F7,F7,F7,F7,F7,F7,F7,F7,F7,F7,F7,F7,F7,F7,F7,F7,F7,F7,F7] rfl rfl (any_of HT_.out (by kernel_rfl)) (fun _ _ _ h => h) (Or.inl ⟨by rfl, ?_⟩) ?_ ?_
                rotate_left
                ·intro w'
                 go_simp
                 with_reducible rfl
                rotate_left
                ·simp only [Act.put, List.setIfInBounds_toArray, List.set_cons_zero, List.set_cons_succ, i64_w, i32_w]
                 rfl
                refine pure_ (i := 10) (N := some 72) (v := ?_) (a' := ?_) #[T7,T7,T7,T7,T7,T7,T7,T7,T7,T7,T7,F7,F7,F7,F7,F7,F7,F7,F7,F7,F7,F7,F7,F7,F7,F7,F7,F7,F7,F7,F7,F7,F7,F7,F7,F7,F7] rfl rfl (any_of HT_.out (by kernel_rfl)) (fun _ _ _ h => h) (Or.inl ⟨by rfl, ?_⟩) ?_ ?_
                rotate_left
                ·intro w'
                 go_simp
                 with_reducible rfl
                rotate_left
                ·simp only [Act.put, List.setIfInBounds_toArray, List.set_cons_zero, List.set_cons_succ, i64_w, i32_w]
                 rfl
                refine pure_ (i := 11) (N := some 73) (v := ?_) (a' := ?_) #[T7,T7,T7,T7,T7,T7,T7,T7,T7,T7,T7,T7,F7,F7,F7,F7,F7,F7,F7,F7,F7,F7,F7,F7,F7,F7,F7,F7,F7,F7,F7,F7,F7,F7,F7,F7,F7] rfl rfl (any_of HT_.out (by kernel_rfl)) (fun _ _ _ h => h) (Or.inl ⟨by rfl, ?_⟩) ?_ ?_
                rotate_left
                ·intro w'
                 go_simp
                 with_reducible rfl
                rotate_left
                ·simp only [Act.put, List.setIfInBounds_toArray, List.set_cons_zero, List.set_cons_succ, i64_w, i32_w]
                 rfl
                refine pure_ (i := 12) (N := some 74) (v := ?_) (a' := ?_) #[T7,T7,T7,T7,T7,T7,T7,T7,T7,T7,T7,T7,T7,F7,F7,F7,F7,F7,F7,F7,F7,F7,F7,F7,F7,F7,F7,F7,F7,F7,F7,F7,F7,F7,F7,F7,F7] rfl rfl (any_of HT_.out (by kernel_rfl)) (fun _ _ _ h => h) (Or.inl ⟨by rfl, ?_⟩) ?_ ?_
                rotate_left
                ·intro w'
                 go_simp
                 with_reducible rfl
                rotate_left
                ·simp only [Act.put, List.setIfInBounds_toArray, List.set_cons_zero, List.set_cons_succ, i64_w, i32_w]
                 rfl
                refine pure_ (i := 13) (N := some 75) (v := ?_) (a' := ?_) #[T7,T7,T7,T7,T7,T7,T7,T7,T7,T7,T7,T7,T7,T7,F7,F7,F7,F7,F7,F7,F7,F7,F7,F7,F7,F7,F7,F7,F7,F7,F7,F7,F7,F7,F7,F7,F7] rfl rfl (any_of HT_.out (by kernel_rfl)) (fun _ _ _ h => h) (Or.inl ⟨by rfl, ?_⟩) ?_ ?_
                rotate_left
                ·intro w'
                 go_simp
                 with_reducible rfl
                rotate_left
                ·simp only [Act.put, List.setIfInBounds_toArray, List.set_cons_zero, List.set_cons_succ, i64_w, i32_w]
                 rfl
                refine pure_ (i := 14) (N := some 76) (v := ?_) (a' := ?_) #[T7,T7,T7,T7,T7,T7,T7,T7,T7,T7,T7,T7,T7,T7,T7,F7,F7,F7,F7,F7,F7,F7,F7,F7,F7,F7,F7,F7,F7,F7,F7,F7,F7,F7,F7,F7,F7] rfl rfl (any_of HT_.out (by kernel_rfl)) (fun _ _ _ h => h) (Or.inl ⟨by rfl, ?_⟩) ?_ ?_
                rotate_left
                ·intro w'
                 go_simp
                 with_reducible rfl
                rotate_left
                ·simp only [Act.put, List.setIfInBounds_toArray, List.set_cons_zero, List.set_cons_succ, i64_w, i32_w]
                 rfl
                refine pure_ (i := 15) (N := some 77) (v := ?_) (a' := ?_) #[T7,T7,T7,T7,T7,T7,T7,T7,T7,T7,T7,T7,T7,T7,T7,T7,F7,F7,F7,F7,F7,F7,F7,F7,F7,F7,F7,F7,F7,F7,F7,F7,F7,F7,F7,F7,F7] rfl rfl (any_of HT_.out (by kernel_rfl)) (fun _ _ _ h => h) (Or.inl ⟨by rfl, ?_⟩) ?_ ?_
                rotate_left
                ·intro w'
                 go_simp
                 with_reducible rfl
                rotate_left
                ·simp only [Act.put, List.setIfInBounds_toArray, List.set_cons_zero, List.set_cons_succ, i64_w, i32_w]
                 rfl
                refine pure_ (i := 17) (N := some 79) (v := ?_) (a' := ?_) #[T7,T7,T7,T7,T7,T7,T7,T7,T7,T7,T7,T7,T7,T7,T7,T7,F7,T7,F7,F7,F7,F7,F7,F7,F7,F7,F7,F7,F7,F7,F7,F7,F7,F7,F7,F7,F7] rfl rfl (any_of HT_.out (by kernel_rfl)) (fun _ _ _ h => h) (Or.inl ⟨by rfl, ?_⟩) ?_ ?_
                rotate_left
                ·intro w'
                 go_simp
                 with_reducible rfl
                rotate_left
                ·simp only [Act.put, List.setIfInBounds_toArray, List.set_cons_zero, List.set_cons_succ, i64_w, i32_w]
                 rfl
                refine pure_ (i := 18) (N := some 80) (v := ?_) (a' := ?_) #[T7,T7,T7,T7,T7,T7,T7,T7,T7,T7,T7,T7,T7,T7,T7,T7,F7,T7,T7,F7,F7,F7,F7,F7,F7,F7,F7,F7,F7,F7,F7,F7,F7,F7,F7,F7,F7] rfl rfl (any_of HT_.out (by kernel_rfl)) (fun _ _ _ h => h) (Or.inl ⟨by rfl, ?_⟩) ?_ ?_
                rotate_left
                ·intro w'
                 go_simp
                 with_reducible rfl
                rotate_left
                ·simp only [Act.put, List.setIfInBounds_toArray, List.set_cons_zero, List.set_cons_succ, i64_w, i32_w]
                 rfl
                refine pure_ (i := 19) (N := some 81) (v := ?_) (a' := ?_) #[T7,T7,T7,T7,T7,T7,T7,T7,T7,T7,T7,T7,T7,T7,T7,T7,F7,T7,T7,T7,F7,F7,F7,F7,F7,F7,F7,F7,F7,F7,F7,F7,F7,F7,F7,F7,F7] rfl rfl (any_of HT_.out (by kernel_rfl)) (fun _ _ _ h => h) (Or.inl ⟨by rfl, ?_⟩) ?_ ?_
                rotate_left
                ·intro w'
                 go_simp
                 with_reducible rfl
                rotate_left
                ·simp only [Act.put, List.setIfInBounds_toArray, List.set_cons_zero, List.set_cons_succ, i64_w, i32_w]
                 rfl
                refine one_ (i := 16) (N := some 78) #[T7,T7,T7,T7,T7,T7,T7,T7,T7,T7,T7,T7,T7,T7,T7,T7,T7,T7,T7,T7,F7,F7,F7,F7,F7,F7,F7,F7,F7,F7,F7,F7,F7,F7,F7,F7,F7] rfl rfl (one_of HT_.out (by kernel_rfl)) (by decide) (fun K hK => ?_)
                refine goes_ Try.func19 (by kernel_rfl) rfl #[.slice none 0 0, .string t454] (by rfl) rfl rfl (by (try simp only [List.map_toArray, List.map_cons, List.map_nil]); first | done | rfl | (simp only [List.length_drop, List.length_take]; rfl)) ?_
                refine (wire_PutText.calls _ _ ([] : List Int) t454 t467 _ ?side1 ?side2 A22.out).mono ?_
                (case side1 => exact Kd.C_nil _ _)
                (case side2 => exact Nat.le_refl _)
                rintro e w57 ⟨v468, rfl, ho0, hb⟩
                refine ⟨_, rfl, ?_⟩
                have n0_ := Aside0.mk (Kd.R_below (by (with_reducible repeat (first | apply Kd.R_alloc | apply Kd.R_drewN | apply Kd.R_drew)); exact HO_11.out) hb)
                have n1_ := Aside0.mk (Kd.R_elder' (by (with_reducible repeat (first | apply Kd.R_alloc | apply Kd.R_drewN | apply Kd.R_drew)); exact HO464.out) (Kd.R_base ho0) hb)
                have n2_ := Aside0.mk (Kd.R_lower (Kd.R_new' ho0 (Kd.R_lt (by (with_reducible repeat (first | apply Kd.R_alloc | apply Kd.R_drewN | apply Kd.R_drew)); exact HO464.out))) (below_size (by repeat (first | (with_reducible first | exact HB.out | apply below_alloc | apply pw_below_drewN | apply below_drew1) | exact HB.out))))
                have n3_ := Aside0.mk (below_step (by repeat (first | (with_reducible first | exact HB.out | apply below_alloc | apply pw_below_drewN | apply below_drew1) | exact HB.out)) hb)
                clear HO_11
                clear HO464
                clear HB
                have HO_11 := n0_
                have HO464 := n1_
                have HO469 := n2_
                have HB := n3_
                clear n0_ n1_ n2_ n3_
                (try clear hb)
                (try clear hb2)
                (try clear hk)
                (try clear hi)
                (try clear ho0)
                obtain ⟨Ao59, co59, eo59⟩ := Kd.R_slice HO469.out
                (first | subst eo59 | (injection eo59 with f1_ f2_ f3_; have f4_ := f1_.symm; have f5_ := f3_.symm; clear f1_ f2_ f3_; subst f4_; subst f5_))
                refine hK.out _ _ trivial (fun hHeld => ?_)
                clear hK K
                refine norm_ (a' := ?_) ?_ ?_
                rotate_left
                ·show Act.put _ (some 78) _ = _
                 simp only [Act.put, List.setIfInBounds_toArray, List.set_cons_zero, List.set_cons_succ, i64_w, i32_w]
                 rfl
                refine one_ (i := 20) (N := some 82) #[T7,T7,T7,T7,T7,T7,T7,T7,T7,T7,T7,T7,T7,T7,T7,T7,T7,T7,T7,T7,T7,F7,F7,F7,F7,F7,F7,F7,F7,F7,F7,F7,F7,F7,F7,F7,F7] rfl rfl (one_of HT_.out (by kernel_rfl)) (by decide) (fun K hK => ?_)
                refine goes_ Try.func13 (by kernel_rfl) rfl #[.slice Ao59 t467.length co59, .slice A0 (l0.take (t455 : Int).toNat).length c0] (by rfl) rfl rfl (by (try simp only [List.map_toArray, List.map_cons, List.map_nil]); first | done | (rw [show (l0.take (t455 : Int).toNat).length = t455.toNat from (by rw [List.length_take]; have h_ : (t455 : Int) ≤ (l0.length : Int) := of_decide_eq_true (by first | (with_reducible assumption) | assumption); omega)] <;> rfl) | rfl | (simp only [List.length_drop, List.length_take]; rfl)) ?_
                with_reducible refine (mapsheetsref02_Same.calls kj5 _ _ t467 _ _ (l0.take (t455 : Int).toNat) true _ ?side1 ?side2 ?side3 ?side4 A25.out).mono ?_
                (case side1 => repeat (first | exact (Kd.R_reads' HO469.out).2.2 | (with_reducible refine Kd.C_alloc ?_ _) | (with_reducible refine Kd.C_drewN ?_ _) | (with_reducible refine Kd.C_drew ?_)))
                (case side2 => exact (Kd.R_reads' HO469.out).2.1)
                (case side3 => repeat (first | exact (Kd.C_below HR470.out HB.out) | (with_reducible refine Kd.C_alloc ?_ _) | (with_reducible refine Kd.C_drewN ?_ _) | (with_reducible refine Kd.C_drew ?_)))
                (case side4 => exact HC470.out)
                rintro e w' ⟨rfl, ⟨nd, rfl⟩⟩
                refine ⟨_, rfl, ?_⟩
                refine hK.out _ _ trivial (fun hHeld => ?_)
                clear hK K
                refine norm_ (a' := ?_) ?_ ?_
                rotate_left
                ·show Act.put _ (some 82) _ = _
                 simp only [Act.put, List.setIfInBounds_toArray, List.set_cons_zero, List.set_cons_succ, i64_w, i32_w]
                 rfl
                refine pure_ (i := 21) (N := some 83) (v := ?_) (a' := ?_) #[T7,T7,T7,T7,T7,T7,T7,T7,T7,T7,T7,T7,T7,T7,T7,T7,T7,T7,T7,T7,T7,T7,F7,F7,F7,F7,F7,F7,F7,F7,F7,F7,F7,F7,F7,F7,F7] rfl rfl (any_of HT_.out (by kernel_rfl)) (fun _ _ _ h => h) (Or.inl ⟨by rfl, ?_⟩) ?_ ?_
                rotate_left
                ·intro w'
                 go_simp
                 with_reducible rfl
                rotate_left
                ·simp only [Act.put, List.setIfInBounds_toArray, List.set_cons_zero, List.set_cons_succ, i64_w, i32_w]
                 rfl
                refine pure_ (i := 22) (N := some 84) (v := ?_) (a' := ?_) #[T7,T7,T7,T7,T7,T7,T7,T7,T7,T7,T7,T7,T7,T7,T7,T7,T7,T7,T7,T7,T7,T7,T7,F7,F7,F7,F7,F7,F7,F7,F7,F7,F7,F7,F7,F7,F7] rfl rfl (any_of HT_.out (by kernel_rfl)) (fun _ _ _ h => h) (Or.inl ⟨by rfl, ?_⟩) ?_ ?_
                rotate_left
                ·intro w'
                 go_simp
                 with_reducible rfl
                rotate_left
                ·simp only [Act.put, List.setIfInBounds_toArray, List.set_cons_zero, List.set_cons_succ, i64_w, i32_w]
                 rfl
                refine pure_ (i := 23) (N := some 85) (v := ?_) (a' := ?_) #[T7,T7,T7,T7,T7,T7,T7,T7,T7,T7,T7,T7,T7,T7,T7,T7,T7,T7,T7,T7,T7,T7,T7,T7,F7,F7,F7,F7,F7,F7,F7,F7,F7,F7,F7,F7,F7] rfl rfl (any_of HT_.out (by kernel_rfl)) (fun _ _ _ h => h) (Or.inl ⟨by rfl, ?_⟩) ?_ ?_
                rotate_left
                ·intro w'
                 go_simp
                 with_reducible rfl
                rotate_left
                ·simp only [Act.put, List.setIfInBounds_toArray, List.set_cons_zero, List.set_cons_succ, i64_w, i32_w]
                 rfl
                refine pure_ (i := 24) (N := some 86) (v := ?_) (a' := ?_) #[T7,T7,T7,T7,T7,T7,T7,T7,T7,T7,T7,T7,T7,T7,T7,T7,T7,T7,T7,T7,T7,T7,T7,T7,T7,F7,F7,F7,F7,F7,F7,F7,F7,F7,F7,F7,F7] rfl rfl (any_of HT_.out (by kernel_rfl)) (fun _ _ _ h => h) (Or.inl ⟨by rfl, ?_⟩) ?_ ?_
                rotate_left
                ·intro w'
                 go_simp
                 with_reducible rfl
                rotate_left
                ·simp only [Act.put, List.setIfInBounds_toArray, List.set_cons_zero, List.set_cons_succ, i64_w, i32_w]
                 rfl
                refine pure_ (i := 25) (N := some 87) (v := ?_) (a' := ?_) #[T7,T7,T7,T7,T7,T7,T7,T7,T7,T7,T7,T7,T7,T7,T7,T7,T7,T7,T7,T7,T7,T7,T7,T7,T7,T7,F7,F7,F7,F7,F7,F7,F7,F7,F7,F7,F7] rfl rfl (any_of HT_.out (by kernel_rfl)) (fun _ _ _ h => h) (Or.inl ⟨by rfl, ?_⟩) ?_ ?_
                rotate_left
                ·intro w'
                 go_simp
                 with_reducible rfl
                rotate_left
                ·simp only [Act.put, List.setIfInBounds_toArray, List.set_cons_zero, List.set_cons_succ, i64_w, i32_w]
                 rfl
                refine pure_ (i := 26) (N := some 88) (v := ?_) (a' := ?_) #[T7,T7,T7,T7,T7,T7,T7,T7,T7,T7,T7,T7,T7,T7,T7,T7,T7,T7,T7,T7,T7,T7,T7,T7,T7,T7,T7,F7,F7,F7,F7,F7,F7,F7,F7,F7,F7] rfl rfl (any_of HT_.out (by kernel_rfl)) (fun _ _ _ h => h) (Or.inl ⟨by rfl, ?_⟩) ?_ ?_
                rotate_left
                ·intro w'
                 go_simp
                 with_reducible rfl
                rotate_left
                ·simp only [Act.put, List.setIfInBounds_toArray, List.set_cons_zero, List.set_cons_succ, i64_w, i32_w]
                 rfl
                refine pure_ (i := 27) (N := some 89) (v := ?_) (a' := ?_) #[T7,T7,T7,T7,T7,T7,T7,T7,T7,T7,T7,T7,T7,T7,T7,T7,T7,T7,T7,T7,T7,T7,T7,T7,T7,T7,T7,T7,F7,F7,F7,F7,F7,F7,F7,F7,F7] rfl rfl (any_of HT_.out (by kernel_rfl)) (fun _ _ _ h => h) (Or.inl ⟨by rfl, ?_⟩) ?_ ?_
                rotate_left
                ·intro w'
                 go_simp
                 with_reducible rfl
                rotate_left
                ·simp only [Act.put, List.setIfInBounds_toArray, List.set_cons_zero, List.set_cons_succ, i64_w, i32_w]
                 rfl
                refine pure_ (i := 28) (N := some 90) (v := undef) (a' := ?_) #[T7,T7,T7,T7,T7,T7,T7,T7,T7,T7,T7,T7,T7,T7,T7,T7,T7,T7,T7,T7,T7,T7,T7,T7,T7,T7,T7,T7,T7,F7,F7,F7,F7,F7,F7,F7,F7] rfl rfl (any_of HT_.out (by kernel_rfl)) (fun _ _ _ h => h) (Or.inr ⟨by rfl, rfl⟩) ?_ ?_
                rotate_left
                ·simp only [Act.put, List.setIfInBounds_toArray, List.set_cons_zero, List.set_cons_succ, i64_w, i32_w]
                 rfl
                refine pure_ (i := 29) (N := some 91) (v := undef) (a' := ?_) #[T7,T7,T7,T7,T7,T7,T7,T7,T7,T7,T7,T7,T7,T7,T7,T7,T7,T7,T7,T7,T7,T7,T7,T7,T7,T7,T7,T7,T7,T7,F7,F7,F7,F7,F7,F7,F7] rfl rfl (any_of HT_.out (by kernel_rfl)) (fun _ _ _ h => h) (Or.inr ⟨by rfl, rfl⟩) ?_ ?_
                rotate_left
                ·simp only [Act.put, List.setIfInBounds_toArray, List.set_cons_zero, List.set_cons_succ, i64_w, i32_w]
                 rfl
                refine pure_ (i := 30) (N := some 92) (v := undef) (a' := ?_) #[T7,T7,T7,T7,T7,T7,T7,T7,T7,T7,T7,T7,T7,T7,T7,T7,T7,T7,T7,T7,T7,T7,T7,T7,T7,T7,T7,T7,T7,T7,T7,F7,F7,F7,F7,F7,F7] rfl rfl (any_of HT_.out (by kernel_rfl)) (fun _ _ _ h => h) (Or.inr ⟨by rfl, rfl⟩) ?_ ?_
                rotate_left
                ·simp only [Act.put, List.setIfInBounds_toArray, List.set_cons_zero, List.set_cons_succ, i64_w, i32_w]
                 rfl
                refine pure_ (i := 31) (N := some 93) (v := undef) (a' := ?_) #[T7,T7,T7,T7,T7,T7,T7,T7,T7,T7,T7,T7,T7,T7,T7,T7,T7,T7,T7,T7,T7,T7,T7,T7,T7,T7,T7,T7,T7,T7,T7,T7,F7,F7,F7,F7,F7] rfl rfl (any_of HT_.out (by kernel_rfl)) (fun _ _ _ h => h) (Or.inr ⟨by rfl, rfl⟩) ?_ ?_
                rotate_left
                ·simp only [Act.put, List.setIfInBounds_toArray, List.set_cons_zero, List.set_cons_succ, i64_w, i32_w]
                 rfl
                refine pure_ (i := 32) (N := some 94) (v := undef) (a' := ?_) #[T7,T7,T7,T7,T7,T7,T7,T7,T7,T7,T7,T7,T7,T7,T7,T7,T7,T7,T7,T7,T7,T7,T7,T7,T7,T7,T7,T7,T7,T7,T7,T7,T7,F7,F7,F7,F7] rfl rfl (any_of HT_.out (by kernel_rfl)) (fun _ _ _ h => h) (Or.inr ⟨by rfl, rfl⟩) ?_ ?_
                rotate_left
                ·simp only [Act.put, List.setIfInBounds_toArray, List.set_cons_zero, List.set_cons_succ, i64_w, i32_w]
                 rfl
                refine pure_ (i := 33) (N := some 95) (v := undef) (a' := ?_) #[T7,T7,T7,T7,T7,T7,T7,T7,T7,T7,T7,T7,T7,T7,T7,T7,T7,T7,T7,T7,T7,T7,T7,T7,T7,T7,T7,T7,T7,T7,T7,T7,T7,T7,F7,F7,F7] rfl rfl (any_of HT_.out (by kernel_rfl)) (fun _ _ _ h => h) (Or.inr ⟨by rfl, rfl⟩) ?_ ?_
                rotate_left
                ·simp only [Act.put, List.setIfInBounds_toArray, List.set_cons_zero, List.set_cons_succ, i64_w, i32_w]
                 rfl
                refine pure_ (i := 34) (N := some 96) (v := undef) (a' := ?_) #[T7,T7,T7,T7,T7,T7,T7,T7,T7,T7,T7,T7,T7,T7,T7,T7,T7,T7,T7,T7,T7,T7,T7,T7,T7,T7,T7,T7,T7,T7,T7,T7,T7,T7,T7,F7,F7] rfl rfl (any_of HT_.out (by kernel_rfl)) (fun _ _ _ h => h) (Or.inr ⟨by rfl, rfl⟩) ?_ ?_
                rotate_left
                ·simp only [Act.put, List.setIfInBounds_toArray, List.set_cons_zero, List.set_cons_succ, i64_w, i32_w]
                 rfl
                refine pure_ (i := 35) (N := some 97) (v := ?_) (a' := ?_) #[T7,T7,T7,T7,T7,T7,T7,T7,T7,T7,T7,T7,T7,T7,T7,T7,T7,T7,T7,T7,T7,T7,T7,T7,T7,T7,T7,T7,T7,T7,T7,T7,T7,T7,T7,T7,F7] rfl rfl (any_of HT_.out (by kernel_rfl)) (fun _ _ _ h => h) (Or.inl ⟨by rfl, ?_⟩) ?_ ?_
                rotate_left
                ·intro w'
                 go_simp
                 with_reducible rfl
                rotate_left
                ·simp only [Act.put, List.setIfInBounds_toArray, List.set_cons_zero, List.set_cons_succ, i64_w, i32_w]
                 rfl
                refine pure_ (i := 36) (N := some 98) (v := ?_) (a' := ?_) #[T7,T7,T7,T7,T7,T7,T7,T7,T7,T7,T7,T7,T7,T7,T7,T7,T7,T7,T7,T7,T7,T7,T7,T7,T7,T7,T7,T7,T7,T7,T7,T7,T7,T7,T7,T7,T7] rfl rfl (any_of HT_.out (by kernel_rfl)) (fun _ _ _ h => h) (Or.inl ⟨by rfl, ?_⟩) ?_ ?_
                rotate_left
                ·intro w'
                 go_simp
                 with_reducible rfl
                rotate_left
                ·simp only [Act.put, List.setIfInBounds_toArray, List.set_cons_zero, List.set_cons_succ, i64_w, i32_w]
                 rfl
                refine done_ (done_of HT_.out (by kernel_rfl)) ?_
                try go_wp2_with (first | (go_at_call 16; (with_reducible refine (mapsheetslaw02_awake.calls kj5  t478 _ A52.out).mono ?_); rintro e w60 ⟨rfl, hb⟩; have n0_ := Aside0.mk (Kd.R_below (by (with_reducible repeat (first | apply Kd.R_alloc | apply Kd.R_drewN | apply Kd.R_drew)); exact HO_11.out) hb); have n1_ := Aside0.mk (Kd.R_below (by (with_reducible repeat (first | apply Kd.R_alloc | apply Kd.R_drewN | apply Kd.R_drew)); exact HO464.out) hb); have n2_ := Aside0.mk (Kd.R_below (by (with_reducible repeat (first | apply Kd.R_alloc | apply Kd.R_drewN | apply Kd.R_drew)); exact HO469.out) hb); have n3_ := Aside0.mk (below_step (by repeat (first | (with_reducible first | exact HB.out | apply below_alloc | apply pw_below_drewN | apply below_drew1) | exact HB.out)) hb); clear HO_11; clear HO464; clear HO469; clear HB; have HO_11 := n0_; have HO464 := n1_; have HO469 := n2_; have HB := n3_; clear n0_ n1_ n2_ n3_; (try clear hb); (try clear hb2); (try clear hk); (try clear hi)))
                go_ret
                exact ⟨by first | rfl | (simp [errW_none, errW_some] <;> rfl) | (simp [*, errW_none, errW_some] <;> rfl), by repeat (first | (with_reducible first | exact HB.out | apply below_alloc | apply pw_below_drewN | apply below_drew1) | exact HB.out)⟩
               ·rw [if_neg c51] at H
                exact absurd H (by simp)
              ·rw [if_neg c50] at H
               exact absurd H (by simp)
             ·rw [if_neg c49] at H
              exact absurd H (by simp)
           ·replace c26 := Bool.eq_false_iff.mpr c26
            subst c26
            have H1 : (none) = some r := by rw [if_neg (show ¬ (false = true) by decide)] at H; exact H
            clear H
            have H := H1
            clear H1
            exact absurd H (by simp)
          ·rw [if_neg c24] at H
           exact absurd H (by simp)
         ·rw [if_neg c23] at H
          exact absurd H (by simp)
        ·rw [if_neg c21] at H
         have c21b0 : (t456 == 0) = false := beq_eq_false_iff_ne.mpr c21
         have c21b1 : (t456 != 0) = true := bne_iff_ne.mpr c21
         by_cases c61 : t459 = 0
         ·rw [if_pos c61] at H
          have c61b0 : (t459 == 0) = true := beq_iff_eq.mpr c61
          have c61b1 : (t459 != 0) = false := bne_eq_false_iff_eq.mpr c61
          clear c61
          replace H := Option.bind_eq_some_iff.mp H
          obtain ⟨t479, A620, H⟩ := H
          (try dsimp only at H)
          have A62 := Aside0.mk A620
          clear A620
          by_cases c63 : 0 ≤ t458
          ·rw [if_pos c63] at H
           have c63b0 := eq_true c63
           have c63b1 : decide (0 ≤ t458) = true := decide_eq_true c63
           clear c63
           by_cases c64 : t458 ≤ (l0.length : Int)
           ·rw [if_pos c64] at H
            have c64b0 := eq_true c64
            have c64b1 : decide (t458 ≤ (l0.length : Int)) = true := decide_eq_true c64
            clear c64
            replace H := Option.bind_eq_some_iff.mp H
            obtain ⟨t483, A650, H⟩ := H
            (try dsimp only at H)
            have A65 := Aside0.mk A650
            clear A650
            by_cases c66 : t483 = true
            ·subst c66
             have H1 : (if ((t453 == 0) == (decide (t452 > 0))) = true then (if ((t456 == 0) == (decide (t455 > 0))) = true then (if ((t459 == 0) == (decide (t458 > 0))) = true then ((mapsheetslaw02_awake.f kj5).bind fun t484 => (some t484)) else (none)) else (none)) else (none)) = some r := by rw [if_pos rfl] at H; exact H
             clear H
             have H := H1
             clear H1
             by_cases c67 : ((t453 == 0) == (decide (t452 > 0))) = true
             ·rw [if_pos c67] at H
              have c67b0 : ((t453 == 0) == (decide (t452 > 0))) = true := c67
              (first | (have c67b3 : decide (0 < t452) = true := by have h_ := c67; rw [show (t453 == 0) = true from by assumption] at h_; simpa using h_) | (have c67b3 : decide (0 < t452) = false := by have h_ := c67; rw [show (t453 == 0) = false from by assumption] at h_; simpa using h_) | skip)
              (try (have c67b1 : decide ((t453 == 0) = (decide (t452 > 0))) = true := by simpa using c67))
              (try (have c67b2 : ((t453 == 0) == (decide (t452 > 0))) = true := by simpa using c67))
              clear c67
              by_cases c68 : ((t456 == 0) == (decide (t455 > 0))) = true
              ·rw [if_pos c68] at H
               have c68b0 : ((t456 == 0) == (decide (t455 > 0))) = true := c68
               (first | (have c68b3 : decide (0 < t455) = true := by have h_ := c68; rw [show (t456 == 0) = true from by assumption] at h_; simpa using h_) | (have c68b3 : decide (0 < t455) = false := by have h_ := c68; rw [show (t456 == 0) = false from by assumption] at h_; simpa using h_) | skip)
               (try (have c68b1 : decide ((t456 == 0) = (decide (t455 > 0))) = true := by simpa using c68))
               (try (have c68b2 : ((t456 == 0) == (decide (t455 > 0))) = true := by simpa using c68))
               clear c68
               by_cases c69 : ((t459 == 0) == (decide (t458 > 0))) = true
               ·rw [if_pos c69] at H
                have c69b0 : ((t459 == 0) == (decide (t458 > 0))) = true := c69
                (first | (have c69b3 : decide (0 < t458) = true := by have h_ := c69; rw [show (t459 == 0) = true from by assumption] at h_; simpa using h_) | (have c69b3 : decide (0 < t458) = false := by have h_ := c69; rw [show (t459 == 0) = false from by assumption] at h_; simpa using h_) | skip)
                (try (have c69b1 : decide ((t459 == 0) = (decide (t458 > 0))) = true := by simpa using c69))
                (try (have c69b2 : ((t459 == 0) == (decide (t458 > 0))) = true := by simpa using c69))
                clear c69
                replace H := Option.bind_eq_some_iff.mp H
                obtain ⟨t484, A700, H⟩ := H
                (try dsimp only at H)
                have A70 := Aside0.mk A700
                clear A700
                obtain rfl := Option.some.inj H
                try go_wp2
                have n0_ := Aside0.mk (Kd.R_drew HO_11.out)
                have n1_ := Aside0.mk (below_drew1 HB.out)
                clear HO_11
                clear HB
                have HO_11 := n0_
                have HB := n1_
                clear n0_ n1_
                obtain ⟨i072, hi072, _, hsz72, _⟩ := info_parts info5
                obtain ⟨hcut72, hA72, hC72⟩ := print_take_of (P := Try.prog) (Value.int .u8) 0 22 5 .i64 Try.underlying22 hi072 hsz72 A0 c0 l0 t452 (of_decide_eq_true (by first | (with_reducible assumption) | assumption)) (of_decide_eq_true (by first | (with_reducible assumption) | assumption)) HC0.out
                have HR465 := Aside0.mk (Kd.C_of_reads (h1 := fun _ => rfl) (hA72 _ (Kd.reads_of_C HR0.out)))
                have HC465 := Aside0.mk hC72
                clear hA72 hC72 hi072 hsz72
                obtain ⟨i077, hi077, _, hsz77, _⟩ := info_parts info5
                obtain ⟨hcut77, hA77, hC77⟩ := print_take_of (P := Try.prog) (Value.int .u8) 0 22 5 .i64 Try.underlying22 hi077 hsz77 A0 c0 l0 t458 (of_decide_eq_true (by first | (with_reducible assumption) | assumption)) (of_decide_eq_true (by first | (with_reducible assumption) | assumption)) HC0.out
                have HR482 := Aside0.mk (Kd.C_of_reads (h1 := fun _ => rfl) (hA77 _ (Kd.reads_of_C HR0.out)))
                have HC482 := Aside0.mk hC77
                clear hA77 hC77 hi077 hsz77
                refine start_ (n := 37) (S := fun w' => True) (ds := []) #[F7,F7,F7,F7,F7,F7,F7,F7,F7,F7,F7,F7,F7,F7,F7,F7,F7,F7,F7,F7,F7,F7,F7,F7,F7,F7,F7,F7,F7,F7,F7,F7,F7,F7,F7,F7,F7] (by kernel_rfl) rfl rfl trivial (fun hHeld => ?_); refine with_tabW mapsheetslaw02_WireUnique.tab6 mapsheetslaw02_WireUnique.bits6 (fun HT_ HW_ => ?_)
                generalize wc.drew = w71 at HO_11 HB HR465 hHeld ⊢
                refine pure_ (i := 0) (N := some 62) (v := ?_) (a' := ?_) #[T7,F7,F7,F7,F7,F7,F7,F7,F7,F7,F7,F7,F7,F7,F7,F7,F7,F7,F7,F7,F7,F7,F7,F7,F7,F7,F7,F7,F7,F7,F7,F7,F7,F7,F7,F7,F7] rfl rfl (any_of HT_.out (by kernel_rfl)) (fun _ _ _ h => h) (Or.inl ⟨by rfl, ?_⟩) ?_ ?_
                rotate_left
                ·intro w'
                 go_simp
                 with_reducible rfl
                rotate_left
                ·simp only [Act.put, List.setIfInBounds_toArray, List.set_cons_zero, List.set_cons_succ, i64_w, i32_w]
                 rfl
                refine pure_ (i := 1) (N := some 63) (v := ?_) (a' := ?_) #[T7,T7,F7,F7,F7,F7,F7,F7,F7,F7,F7,F7,F7,F7,F7,F7,F7,F7,F7,F7,F7,F7,F7,F7,F7,F7,F7,F7,F7,F7,F7,F7,F7,F7,F7,F7,F7] rfl rfl (any_of HT_.out (by kernel_rfl)) (fun _ _ _ h => h) (Or.inl ⟨by rfl, ?_⟩) ?_ ?_
                rotate_left
                ·intro w'
                 go_simp
                 with_reducible rfl
                rotate_left
                ·simp only [Act.put, List.setIfInBounds_toArray, List.set_cons_zero, List.set_cons_succ, i64_w, i32_w]
                 rfl
                refine pure_ (i := 2) (N := some 64) (v := ?_) (a' := ?_) #[T7,T7,T7,F7,F7,F7,F7,F7,F7,F7,F7,F7,F7,F7,F7,F7,F7,F7,F7,F7,F7,F7,F7,F7,F7,F7,F7,F7,F7,F7,F7,F7,F7,F7,F7,F7,F7] rfl rfl (any_of HT_.out (by kernel_rfl)) (fun _ _ _ h => h) (Or.inl ⟨by rfl, ?_⟩) ?_ ?_
                rotate_left
                ·intro w'
                 go_simp
                 with_reducible rfl
                rotate_left
                ·simp only [Act.put, List.setIfInBounds_toArray, List.set_cons_zero, List.set_cons_succ, i64_w, i32_w]
                 rfl
                refine pure_ (i := 3) (N := some 65) (v := ?_) (a' := ?_) #[T7,T7,T7,T7,F7,F7,F7,F7,F7,F7,F7,F7,F7,F7,F7,F7,F7,F7,F7,F7,F7,F7,F7,F7,F7,F7,F7,F7,F7,F7,F7,F7,F7,F7,F7,F7,F7] rfl rfl (any_of HT_.out (by kernel_rfl)) (fun _ _ _ h => h) (Or.inl ⟨by rfl, ?_⟩) ?_ ?_
                rotate_left
                ·intro w'
                 go_simp
                 with_reducible rfl
                rotate_left
                ·simp only [Act.put, List.setIfInBounds_toArray, List.set_cons_zero, List.set_cons_succ, i64_w, i32_w]
                 rfl
                refine pure_ (i := 5) (N := some 67) (v := ?_) (a' := ?_) #[T7,T7,T7,T7,F7,T7,F7,F7,F7,F7,F7,F7,F7,F7,F7,F7,F7,F7,F7,F7,F7,F7,F7,F7,F7,F7,F7,F7,F7,F7,F7,F7,F7,F7,F7,F7,F7] rfl rfl (any_of HT_.out (by kernel_rfl)) (fun _ _ _ h => h) (Or.inl ⟨by rfl, ?_⟩) ?_ ?_
                rotate_left
                ·intro w'
                 go_simp
                 with_reducible rfl
                rotate_left
                ·simp only [Act.put, List.setIfInBounds_toArray, List.set_cons_zero, List.set_cons_succ, i64_w, i32_w]
                 rfl
                refine pure_ (i := 6) (N := some 68) (v := ?_) (a' := ?_) #[T7,T7,T7,T7,F7,T7,T7,F7,F7,F7,F7,F7,F7,F7,F7,F7,F7,F7,F7,F7,F7,F7,F7,F7,F7,F7,F7,F7,F7,F7,F7,F7,F7,F7,F7,F7,F7] rfl rfl (any_of HT_.out (by kernel_rfl)) (fun _ _ _ h => h) (Or.inl ⟨by rfl, ?_⟩) ?_ ?_
                rotate_left
                ·intro w'
                 go_simp
                 with_reducible rfl
                rotate_left
                ·simp only [Act.put, List.setIfInBounds_toArray, List.set_cons_zero, List.set_cons_succ, i64_w, i32_w]
                 rfl
                refine pure_ (i := 7) (N := some 69) (v := ?_) (a' := ?_) #[T7,T7,T7,T7,F7,T7,T7,T7,F7,F7,F7,F7,F7,F7,F7,F7,F7,F7,F7,F7,F7,F7,F7,F7,F7,F7,F7,F7,F7,F7,F7,F7,F7,F7,F7,F7,F7] rfl rfl (any_of HT_.out (by kernel_rfl)) (fun _ _ _ h => h) (Or.inl ⟨by rfl, ?_⟩) ?_ ?_
                rotate_left
                ·intro w'
                 go_simp
                 with_reducible rfl
                rotate_left
                ·simp only [Act.put, List.setIfInBounds_toArray, List.set_cons_zero, List.set_cons_succ, i64_w, i32_w]
                 rfl
                refine one_ (i := 4) (N := some 66) #[T7,T7,T7,T7,T7,T7,T7,T7,F7,F7,F7,F7,F7,F7,F7,F7,F7,F7,F7,F7,F7,F7,F7,F7,F7,F7,F7,F7,F7,F7,F7,F7,F7,F7,F7,F7,F7] rfl rfl (one_of HT_.out (by kernel_rfl)) (by decide) (fun K hK => ?_)
                refine goes_ Try.func14 (by kernel_rfl) rfl #[.slice none 0 0, .int .i64 t451] (by rfl) rfl rfl (by (try simp only [List.map_toArray, List.map_cons, List.map_nil]); first | done | rfl | (simp only [List.length_drop, List.length_take]; rfl)) ?_
                refine (wire_PutInt.calls _ _ ([] : List Int) t451 t462 _ ?side1 ?side2 A16.out).mono ?_
                (case side1 => exact Kd.C_nil _ _)
                (case side2 => exact Nat.le_refl _)
                rintro e w73 ⟨v463, rfl, ho0, hb⟩
                refine ⟨_, rfl, ?_⟩
                have n0_ := Aside0.mk (Kd.R_below (by (with_reducible repeat (first | apply Kd.R_alloc | apply Kd.R_drewN | apply Kd.R_drew)); exact HO_11.out) hb)
                have n1_ := Aside0.mk (Kd.R_lower ho0 (below_size (by repeat (first | (with_reducible first | exact HB.out | apply below_alloc | apply pw_below_drewN | apply below_drew1) | exact HB.out))))
                have n2_ := Aside0.mk (below_step (by repeat (first | (with_reducible first | exact HB.out | apply below_alloc | apply pw_below_drewN | apply below_drew1) | exact HB.out)) hb)
                clear HO_11
                clear HB
                have HO_11 := n0_
                have HO464 := n1_
                have HB := n2_
                clear n0_ n1_ n2_
                (try clear hb)
                (try clear hb2)
                (try clear hk)
                (try clear hi)
                (try clear ho0)
                obtain ⟨Ao74, co74, eo74⟩ := Kd.R_slice HO464.out
                (first | subst eo74 | (injection eo74 with f1_ f2_ f3_; have f4_ := f1_.symm; have f5_ := f3_.symm; clear f1_ f2_ f3_; subst f4_; subst f5_))
                refine hK.out _ _ trivial (fun hHeld => ?_)
                clear hK K
                refine norm_ (a' := ?_) ?_ ?_
                rotate_left
                ·show Act.put _ (some 66) _ = _
                 simp only [Act.put, List.setIfInBounds_toArray, List.set_cons_zero, List.set_cons_succ, i64_w, i32_w]
                 rfl
                refine one_ (i := 8) (N := some 70) #[T7,T7,T7,T7,T7,T7,T7,T7,T7,F7,F7,F7,F7,F7,F7,F7,F7,F7,F7,F7,F7,F7,F7,F7,F7,F7,F7,F7,F7,F7,F7,F7,F7,F7,F7,F7,F7] rfl rfl (one_of HT_.out (by kernel_rfl)) (by decide) (fun K hK => ?_)
                refine goes_ Try.func13 (by kernel_rfl) rfl #[.slice Ao74 t462.length co74, .slice A0 (l0.take (t452 : Int).toNat).length c0] (by rfl) rfl rfl (by (try simp only [List.map_toArray, List.map_cons, List.map_nil]); first | done | (rw [show (l0.take (t452 : Int).toNat).length = t452.toNat from (by rw [List.length_take]; have h_ : (t452 : Int) ≤ (l0.length : Int) := of_decide_eq_true (by first | (with_reducible assumption) | assumption); omega)] <;> rfl) | rfl | (simp only [List.length_drop, List.length_take]; rfl)) ?_
                with_reducible refine (mapsheetsref02_Same.calls kj5 _ _ t462 _ _ (l0.take (t452 : Int).toNat) true _ ?side1 ?side2 ?side3 ?side4 A19.out).mono ?_
                (case side1 => repeat (first | exact (Kd.R_reads' HO464.out).2.2 | (with_reducible refine Kd.C_alloc ?_ _) | (with_reducible refine Kd.C_drewN ?_ _) | (with_reducible refine Kd.C_drew ?_)))
                (case side2 => exact (Kd.R_reads' HO464.out).2.1)
                (case side3 => repeat (first | exact (Kd.C_below HR465.out HB.out) | (with_reducible refine Kd.C_alloc ?_ _) | (with_reducible refine Kd.C_drewN ?_ _) | (with_reducible refine Kd.C_drew ?_)))
                (case side4 => exact HC465.out)
                rintro e w' ⟨rfl, ⟨nd, rfl⟩⟩
                refine ⟨_, rfl, ?_⟩
                obtain ⟨Ao75, co75, eo75⟩ := Kd.R_slice HO_11.out
                (first | subst eo75 | (injection eo75 with f1_ f2_ f3_; have f4_ := f1_.symm; have f5_ := f3_.symm; clear f1_ f2_ f3_; subst f4_; subst f5_))
                refine hK.out _ _ trivial (fun hHeld => ?_)
                clear hK K
                refine norm_ (a' := ?_) ?_ ?_
                rotate_left
                ·show Act.put _ (some 70) _ = _
                 simp only [Act.put, List.setIfInBounds_toArray, List.set_cons_zero, List.set_cons_succ, i64_w, i32_w]
                 rfl
                refine pure_ (i := 9) (N := some 71) (v := ?_) (a' := ?_) #[T7,T7,T7,T7,T7,T7,T7,T7,T7,T7,F7,F7,F7,F7,F7,F7,F7,F7,F7,F7,F7,F7,F7,F7,F7,F7,F7,F7,F7,F7,F7,F7,F7,F7,F7,F7,F7] rfl rfl (any_of HT_.out (by kernel_rfl)) (fun _ _ _ h => h) (Or.inl ⟨by rfl, ?_⟩) ?_ ?_
                rotate_left
                ·intro w'
                 go_simp
                 with_reducible rfl
                rotate_left
                ·simp only [Act.put, List.setIfInBounds_toArray, List.set_cons_zero, List.set_cons_succ, i64_w, i32_w]
                 rfl
                refine pure_ (i := 10) (N := some 72) (v := ?_) (a' := ?_) #[T7,T7,T7,T7,T7,T7,T7,T7,T7,T7,T7,F7,F7,F7,F7,F7,F7,F7,F7,F7,F7,F7,F7,F7,F7,F7,F7,F7,F7,F7,F7,F7,F7,F7,F7,F7,F7] rfl rfl (any_of HT_.out (by kernel_rfl)) (fun _ _ _ h => h) (Or.inl ⟨by rfl, ?_⟩) ?_ ?_
                rotate_left
                ·intro w'
                 go_simp
                 with_reducible rfl
                rotate_left
                ·simp only [Act.put, List.setIfInBounds_toArray, List.set_cons_zero, List.set_cons_succ, i64_w, i32_w]
                 rfl
                refine pure_ (i := 11) (N := some 73) (v := ?_) (a' := ?_) #[T7,T7,T7,T7,T7,T7,T7,T7,T7,T7,T7,T7,F7,F7,F7,F7,F7,F7,F7,F7,F7,F7,F7,F7,F7,F7,F7,F7,F7,F7,F7,F7,F7,F7,F7,F7,F7] rfl rfl (any_of HT_.out (by kernel_rfl)) (fun _ _ _ h => h) (Or.inl ⟨by rfl, ?_⟩) ?_ ?_
                rotate_left
                ·intro w'
                 go_simp
                 with_reducible rfl
                rotate_left
                ·simp only [Act.put, List.setIfInBounds_toArray, List.set_cons_zero, List.set_cons_succ, i64_w, i32_w]
                 rfl
                refine pure_ (i := 12) (N := some 74) (v := ?_) (a' := ?_) #[T7,T7,T7,T7,T7,T7,T7,T7,T7,T7,T7,T7,T7,F7,F7,F7,F7,F7,F7,F7,F7,F7,F7,F7,F7,F7,F7,F7,F7,F7,F7,F7,F7,F7,F7,F7,F7] rfl rfl (any_of HT_.out (by kernel_rfl)) (fun _ _ _ h => h) (Or.inl ⟨by rfl, ?_⟩) ?_ ?_
                rotate_left
                ·intro w'
                 go_simp
                 with_reducible rfl
                rotate_left
                ·simp only [Act.put, List.setIfInBounds_toArray, List.set_cons_zero, List.set_cons_succ, i64_w, i32_w]
                 rfl
                refine pure_ (i := 13) (N := some 75) (v := ?_) (a' := ?_) #[T7,T7,T7,T7,T7,T7,T7,T7,T7,T7,T7,T7,T7,T7,F7,F7,F7,F7,F7,F7,F7,F7,F7,F7,F7,F7,F7,F7,F7,F7,F7,F7,F7,F7,F7,F7,F7] rfl rfl (any_of HT_.out (by kernel_rfl)) (fun _ _ _ h => h) (Or.inl ⟨by rfl, ?_⟩) ?_ ?_
                rotate_left
                ·intro w'
                 go_simp
                 with_reducible rfl
                rotate_left
                ·simp only [Act.put, List.setIfInBounds_toArray, List.set_cons_zero, List.set_cons_succ, i64_w, i32_w]
                 rfl
                refine pure_ (i := 14) (N := some 76) (v := ?_) (a' := ?_) #[T7,T7,T7,T7,T7,T7,T7,T7,T7,T7,T7,T7,T7,T7,T7,F7,F7,F7,F7,F7,F7,F7,F7,F7,F7,F7,F7,F7,F7,F7,F7,F7,F7,F7,F7,F7,F7] rfl rfl (any_of HT_.out (by kernel_rfl)) (fun _ _ _ h => h) (Or.inl ⟨by rfl, ?_⟩) ?_ ?_
                rotate_left
                ·intro w'
                 go_simp
                 with_reducible rfl
                rotate_left
                ·simp only [Act.put, List.setIfInBounds_toArray, List.set_cons_zero, List.set_cons_succ, i64_w, i32_w]
                 rfl
                refine pure_ (i := 15) (N := some 77) (v := undef) (a' := ?_) #[T7,T7,T7,T7,T7,T7,T7,T7,T7,T7,T7,T7,T7,T7,T7,T7,F7,F7,F7,F7,F7,F7,F7,F7,F7,F7,F7,F7,F7,F7,F7,F7,F7,F7,F7,F7,F7] rfl rfl (any_of HT_.out (by kernel_rfl)) (fun _ _ _ h => h) (Or.inr ⟨by rfl, rfl⟩) ?_ ?_
                rotate_left
                ·simp only [Act.put, List.setIfInBounds_toArray, List.set_cons_zero, List.set_cons_succ, i64_w, i32_w]
                 rfl
                refine pure_ (i := 16) (N := some 78) (v := undef) (a' := ?_) #[T7,T7,T7,T7,T7,T7,T7,T7,T7,T7,T7,T7,T7,T7,T7,T7,T7,F7,F7,F7,F7,F7,F7,F7,F7,F7,F7,F7,F7,F7,F7,F7,F7,F7,F7,F7,F7] rfl rfl (any_of HT_.out (by kernel_rfl)) (fun _ _ _ h => h) (Or.inr ⟨by rfl, rfl⟩) ?_ ?_
                rotate_left
                ·simp only [Act.put, List.setIfInBounds_toArray, List.set_cons_zero, List.set_cons_succ, i64_w, i32_w]
                 rfl
                refine pure_ (i := 17) (N := some 79) (v := undef) (a' := ?_) #[T7,T7,T7,T7,T7,T7,T7,T7,T7,T7,T7,T7,T7,T7,T7,T7,T7,T7,F7,F7,F7,F7,F7,F7,F7,F7,F7,F7,F7,F7,F7,F7,F7,F7,F7,F7,F7] rfl rfl (any_of HT_.out (by kernel_rfl)) (fun _ _ _ h => h) (Or.inr ⟨by rfl, rfl⟩) ?_ ?_
                rotate_left
                ·simp only [Act.put, List.setIfInBounds_toArray, List.set_cons_zero, List.set_cons_succ, i64_w, i32_w]
                 rfl
                refine pure_ (i := 18) (N := some 80) (v := undef) (a' := ?_) #[T7,T7,T7,T7,T7,T7,T7,T7,T7,T7,T7,T7,T7,T7,T7,T7,T7,T7,T7,F7,F7,F7,F7,F7,F7,F7,F7,F7,F7,F7,F7,F7,F7,F7,F7,F7,F7] rfl rfl (any_of HT_.out (by kernel_rfl)) (fun _ _ _ h => h) (Or.inr ⟨by rfl, rfl⟩) ?_ ?_
                rotate_left
                ·simp only [Act.put, List.setIfInBounds_toArray, List.set_cons_zero, List.set_cons_succ, i64_w, i32_w]
                 rfl
                refine pure_ (i := 19) (N := some 81) (v := undef) (a' := ?_) #[T7,T7,T7,T7,T7,T7,T7,T7,T7,T7,T7,T7,T7,T7,T7,T7,T7,T7,T7,T7,F7,F7,F7,F7,F7,F7,F7,F7,F7,F7,F7,F7,F7,F7,F7,F7,F7] rfl rfl (any_of HT_.out (by kernel_rfl)) (fun _ _ _ h => h) (Or.inr ⟨by rfl, rfl⟩) ?_ ?_
                rotate_left
                ·simp only [Act.put, List.setIfInBounds_toArray, List.set_cons_zero, List.set_cons_succ, i64_w, i32_w]
                 rfl
                refine pure_ (i := 20) (N := some 82) (v := undef) (a' := ?_) #[T7,T7,T7,T7,T7,T7,T7,T7,T7,T7,T7,T7,T7,T7,T7,T7,T7,T7,T7,T7,T7,F7,F7,F7,F7,F7,F7,F7,F7,F7,F7,F7,F7,F7,F7,F7,F7] rfl rfl (any_of HT_.out (by kernel_rfl)) (fun _ _ _ h => h) (Or.inr ⟨by rfl, rfl⟩) ?_ ?_
                rotate_left
                ·simp only [Act.put, List.setIfInBounds_toArray, List.set_cons_zero, List.set_cons_succ, i64_w, i32_w]
                 rfl
                refine pure_ (i := 21) (N := some 83) (v := undef) (a' := ?_) #[T7,T7,T7,T7,T7,T7,T7,T7,T7,T7,T7,T7,T7,T7,T7,T7,T7,T7,T7,T7,T7,T7,F7,F7,F7,F7,F7,F7,F7,F7,F7,F7,F7,F7,F7,F7,F7] rfl rfl (any_of HT_.out (by kernel_rfl)) (fun _ _ _ h => h) (Or.inr ⟨by rfl, rfl⟩) ?_ ?_
                rotate_left
                ·simp only [Act.put, List.setIfInBounds_toArray, List.set_cons_zero, List.set_cons_succ, i64_w, i32_w]
                 rfl
                refine pure_ (i := 22) (N := some 84) (v := ?_) (a' := ?_) #[T7,T7,T7,T7,T7,T7,T7,T7,T7,T7,T7,T7,T7,T7,T7,T7,T7,T7,T7,T7,T7,T7,T7,F7,F7,F7,F7,F7,F7,F7,F7,F7,F7,F7,F7,F7,F7] rfl rfl (any_of HT_.out (by kernel_rfl)) (fun _ _ _ h => h) (Or.inl ⟨by rfl, ?_⟩) ?_ ?_
                rotate_left
                ·intro w'
                 go_simp
                 with_reducible rfl
                rotate_left
                ·simp only [Act.put, List.setIfInBounds_toArray, List.set_cons_zero, List.set_cons_succ, i64_w, i32_w]
                 rfl
                refine pure_ (i := 23) (N := some 85) (v := ?_) (a' := ?_) #[T7,T7,T7,T7,T7,T7,T7,T7,T7,T7,T7,T7,T7,T7,T7,T7,T7,T7,T7,T7,T7,T7,T7,T7,F7,F7,F7,F7,F7,F7,F7,F7,F7,F7,F7,F7,F7] rfl rfl (any_of HT_.out (by kernel_rfl)) (fun _ _ _ h => h) (Or.inl ⟨by rfl, ?_⟩) ?_ ?_
                rotate_left
                ·intro w'
                 go_simp
                 with_reducible rfl
                rotate_left
                ·simp only [Act.put, List.setIfInBounds_toArray, List.set_cons_zero, List.set_cons_succ, i64_w, i32_w]
                 rfl
                refine pure_ (i := 24) (N := some 86) (v := ?_) (a' := ?_) #[T7,T7,T7,T7,T7,T7,T7,T7,T7,T7,T7,T7,T7,T7,T7,T7,T7,T7,T7,T7,T7,T7,T7,T7,T7,F7,F7,F7,F7,F7,F7,F7,F7,F7,F7,F7,F7] rfl rfl (any_of HT_.out (by kernel_rfl)) (fun _ _ _ h => h) (Or.inl ⟨by rfl, ?_⟩) ?_ ?_
                rotate_left
                ·intro w'
                 go_simp
                 with_reducible rfl
                rotate_left
                ·simp only [Act.put, List.setIfInBounds_toArray, List.set_cons_zero, List.set_cons_succ, i64_w, i32_w]
                 rfl
                refine pure_ (i := 25) (N := some 87) (v := ?_) (a' := ?_) #[T7,T7,T7,T7,T7,T7,T7,T7,T7,T7,T7,T7,T7,T7,T7,T7,T7,T7,T7,T7,T7,T7,T7,T7,T7,T7,F7,F7,F7,F7,F7,F7,F7,F7,F7,F7,F7] rfl rfl (any_of HT_.out (by kernel_rfl)) (fun _ _ _ h => h) (Or.inl ⟨by rfl, ?_⟩) ?_ ?_
                rotate_left
                ·intro w'
                 go_simp
                 with_reducible rfl
                rotate_left
                ·simp only [Act.put, List.setIfInBounds_toArray, List.set_cons_zero, List.set_cons_succ, i64_w, i32_w]
                 rfl
                refine pure_ (i := 26) (N := some 88) (v := ?_) (a' := ?_) #[T7,T7,T7,T7,T7,T7,T7,T7,T7,T7,T7,T7,T7,T7,T7,T7,T7,T7,T7,T7,T7,T7,T7,T7,T7,T7,T7,F7,F7,F7,F7,F7,F7,F7,F7,F7,F7] rfl rfl (any_of HT_.out (by kernel_rfl)) (fun _ _ _ h => h) (Or.inl ⟨by rfl, ?_⟩) ?_ ?_
                rotate_left
                ·intro w'
                 go_simp
                 with_reducible rfl
                rotate_left
                ·simp only [Act.put, List.setIfInBounds_toArray, List.set_cons_zero, List.set_cons_succ, i64_w, i32_w]
                 rfl
                refine pure_ (i := 27) (N := some 89) (v := ?_) (a' := ?_) #[T7,T7,T7,T7,T7,T7,T7,T7,T7,T7,T7,T7,T7,T7,T7,T7,T7,T7,T7,T7,T7,T7,T7,T7,T7,T7,T7,T7,F7,F7,F7,F7,F7,F7,F7,F7,F7] rfl rfl (any_of HT_.out (by kernel_rfl)) (fun _ _ _ h => h) (Or.inl ⟨by rfl, ?_⟩) ?_ ?_
                rotate_left
                ·intro w'
                 go_simp
                 with_reducible rfl
                rotate_left
                ·simp only [Act.put, List.setIfInBounds_toArray, List.set_cons_zero, List.set_cons_succ, i64_w, i32_w]
                 rfl
                refine pure_ (i := 28) (N := some 90) (v := ?_) (a' := ?_) #[T7,T7,T7,T7,T7,T7,T7,T7,T7,T7,T7,T7,T7,T7,T7,T7,T7,T7,T7,T7,T7,T7,T7,T7,T7,T7,T7,T7,T7,F7,F7,F7,F7,F7,F7,F7,F7] rfl rfl (any_of HT_.out (by kernel_rfl)) (fun _ _ _ h => h) (Or.inl ⟨by rfl, ?_⟩) ?_ ?_
                rotate_left
                ·intro w'
                 go_simp
                 with_reducible rfl
                rotate_left
                ·simp only [Act.put, List.setIfInBounds_toArray, List.set_cons_zero, List.set_cons_succ, i64_w, i32_w]
                 rfl
                refine pure_ (i := 30) (N := some 92) (v := ?_) (a' := ?_) #[T7,T7,T7,T7,T7,T7,T7,T7,T7,T7,T7,T7,T7,T7,T7,T7,T7,T7,T7,T7,T7,T7,T7,T7,T7,T7,T7,T7,T7,F7,T7,F7,F7,F7,F7,F7,F7] rfl rfl (any_of HT_.out (by kernel_rfl)) (fun _ _ _ h => h) (Or.inl ⟨by rfl, ?_⟩) ?_ ?_
                rotate_left
                ·intro w'
                 go_simp
                 with_reducible rfl
                rotate_left
                ·simp only [Act.put, List.setIfInBounds_toArray, List.set_cons_zero, List.set_cons_succ, i64_w, i32_w]
                 rfl
                refine pure_ (i := 31) (N := some 93) (v := ?_) (a' := ?_) #[T7,T7,T7,T7,T7,T7,T7,T7,T7,T7,T7,T7,T7,T7,T7,T7,T7,T7,T7,T7,T7,T7,T7,T7,T7,T7,T7,T7,T7,F7,T7,T7,F7,F7,F7,F7,F7] rfl rfl (any_of HT_.out (by kernel_rfl)) (fun _ _ _ h => h) (Or.inl ⟨by rfl, ?_⟩) ?_ ?_
                rotate_left
                ·intro w'
                 go_simp
                 with_reducible rfl
                rotate_left
                ·simp only [Act.put, List.setIfInBounds_toArray, List.set_cons_zero, List.set_cons_succ, i64_w, i32_w]
                 rfl
                refine pure_ (i := 32) (N := some 94) (v := ?_) (a' := ?_) #[T7,T7,T7,T7,T7,T7,T7,T7,T7,T7,T7,T7,T7,T7,T7,T7,T7,T7,T7,T7,T7,T7,T7,T7,T7,T7,T7,T7,T7,F7,T7,T7,T7,F7,F7,F7,F7] rfl rfl (any_of HT_.out (by kernel_rfl)) (fun _ _ _ h => h) (Or.inl ⟨by rfl, ?_⟩) ?_ ?_
                rotate_left
                ·intro w'
                 go_simp
                 with_reducible rfl
                rotate_left
                ·simp only [Act.put, List.setIfInBounds_toArray, List.set_cons_zero, List.set_cons_succ, i64_w, i32_w]
                 rfl
                refine one_ (i := 29) (N := some 91) #[T7,T7,T7,T7,T7,T7,T7,T7,T7,T7,T7,T7,T7,T7,T7,T7,T7,T7,T7,T7,T7,T7,T7,T7,T7,T7,T7,T7,T7,T7,T7,T7,T7,F7,F7,F7,F7] rfl rfl (one_of HT_.out (by kernel_rfl)) (by decide) (fun K hK => ?_)
                refine goes_ Try.func23 (by kernel_rfl) rfl #[.slice none 0 0, .slice Ao75 t457.length co75] (by rfl) rfl rfl (by (try simp only [List.map_toArray, List.map_cons, List.map_nil]); first | done | rfl | (simp only [List.length_drop, List.length_take]; rfl)) ?_
                refine (wire_PutList.calls kj5 _ _ ([] : List Int) _ _ t457 t479 _ ?side1 ?side2 ?side3 ?side4 A62.out).mono ?_
                (case side1 => exact Kd.C_nil _ _)
                (case side2 => exact Nat.le_refl _)
                (case side3 => repeat (first | exact (Kd.R_reads' HO_11.out).2.2 | (with_reducible refine Kd.C_alloc ?_ _) | (with_reducible refine Kd.C_drewN ?_ _) | (with_reducible refine Kd.C_drew ?_)))
                (case side4 => exact (Kd.R_reads' HO_11.out).2.1)
                rintro e w76 ⟨v480, rfl, ho0, hb⟩
                refine ⟨_, rfl, ?_⟩
                have n0_ := Aside0.mk (Kd.R_below (by (with_reducible repeat (first | apply Kd.R_alloc | apply Kd.R_drewN | apply Kd.R_drew)); exact HO_11.out) hb)
                have n1_ := Aside0.mk (Kd.R_elder' (by (with_reducible repeat (first | apply Kd.R_alloc | apply Kd.R_drewN | apply Kd.R_drew)); exact HO464.out) (Kd.R_base ho0) hb)
                have n2_ := Aside0.mk (Kd.R_lower (Kd.R_new' ho0 (Kd.R_lt (by (with_reducible repeat (first | apply Kd.R_alloc | apply Kd.R_drewN | apply Kd.R_drew)); exact HO464.out))) (below_size (by repeat (first | (with_reducible first | exact HB.out | apply below_alloc | apply pw_below_drewN | apply below_drew1) | exact HB.out))))
                have n3_ := Aside0.mk (below_step (by repeat (first | (with_reducible first | exact HB.out | apply below_alloc | apply pw_below_drewN | apply below_drew1) | exact HB.out)) hb)
                clear HO_11
                clear HO464
                clear HB
                have HO_11 := n0_
                have HO464 := n1_
                have HO481 := n2_
                have HB := n3_
                clear n0_ n1_ n2_ n3_
                (try clear hb)
                (try clear hb2)
                (try clear hk)
                (try clear hi)
                (try clear ho0)
                obtain ⟨Ao78, co78, eo78⟩ := Kd.R_slice HO481.out
                (first | subst eo78 | (injection eo78 with f1_ f2_ f3_; have f4_ := f1_.symm; have f5_ := f3_.symm; clear f1_ f2_ f3_; subst f4_; subst f5_))
                refine hK.out _ _ trivial (fun hHeld => ?_)
                clear hK K
                refine norm_ (a' := ?_) ?_ ?_
                rotate_left
                ·show Act.put _ (some 91) _ = _
                 simp only [Act.put, List.setIfInBounds_toArray, List.set_cons_zero, List.set_cons_succ, i64_w, i32_w]
                 rfl
                refine one_ (i := 33) (N := some 95) #[T7,T7,T7,T7,T7,T7,T7,T7,T7,T7,T7,T7,T7,T7,T7,T7,T7,T7,T7,T7,T7,T7,T7,T7,T7,T7,T7,T7,T7,T7,T7,T7,T7,T7,F7,F7,F7] rfl rfl (one_of HT_.out (by kernel_rfl)) (by decide) (fun K hK => ?_)
                refine goes_ Try.func13 (by kernel_rfl) rfl #[.slice Ao78 t479.length co78, .slice A0 (l0.take (t458 : Int).toNat).length c0] (by rfl) rfl rfl (by (try simp only [List.map_toArray, List.map_cons, List.map_nil]); first | done | (rw [show (l0.take (t458 : Int).toNat).length = t458.toNat from (by rw [List.length_take]; have h_ : (t458 : Int) ≤ (l0.length : Int) := of_decide_eq_true (by first | (with_reducible assumption) | assumption); omega)] <;> rfl) | rfl | (simp only [List.length_drop, List.length_take]; rfl)) ?_
                with_reducible refine (mapsheetsref02_Same.calls kj5 _ _ t479 _ _ (l0.take (t458 : Int).toNat) true _ ?side1 ?side2 ?side3 ?side4 A65.out).mono ?_
                (case side1 => repeat (first | exact (Kd.R_reads' HO481.out).2.2 | (with_reducible refine Kd.C_alloc ?_ _) | (with_reducible refine Kd.C_drewN ?_ _) | (with_reducible refine Kd.C_drew ?_)))
                (case side2 => exact (Kd.R_reads' HO481.out).2.1)
                (case side3 => repeat (first | exact (Kd.C_below HR482.out HB.out) | (with_reducible refine Kd.C_alloc ?_ _) | (with_reducible refine Kd.C_drewN ?_ _) | (with_reducible refine Kd.C_drew ?_)))
                (case side4 => exact HC482.out)
                rintro e w' ⟨rfl, ⟨nd, rfl⟩⟩
                refine ⟨_, rfl, ?_⟩
                refine hK.out _ _ trivial (fun hHeld => ?_)
                clear hK K
                refine norm_ (a' := ?_) ?_ ?_
                rotate_left
                ·show Act.put _ (some 95) _ = _
                 simp only [Act.put, List.setIfInBounds_toArray, List.set_cons_zero, List.set_cons_succ, i64_w, i32_w]
                 rfl
                refine pure_ (i := 34) (N := some 96) (v := ?_) (a' := ?_) #[T7,T7,T7,T7,T7,T7,T7,T7,T7,T7,T7,T7,T7,T7,T7,T7,T7,T7,T7,T7,T7,T7,T7,T7,T7,T7,T7,T7,T7,T7,T7,T7,T7,T7,T7,F7,F7] rfl rfl (any_of HT_.out (by kernel_rfl)) (fun _ _ _ h => h) (Or.inl ⟨by rfl, ?_⟩) ?_ ?_
                rotate_left
                ·intro w'
                 go_simp
                 with_reducible rfl
                rotate_left
                ·simp only [Act.put, List.setIfInBounds_toArray, List.set_cons_zero, List.set_cons_succ, i64_w, i32_w]
                 rfl
                refine pure_ (i := 35) (N := some 97) (v := ?_) (a' := ?_) #[T7,T7,T7,T7,T7,T7,T7,T7,T7,T7,T7,T7,T7,T7,T7,T7,T7,T7,T7,T7,T7,T7,T7,T7,T7,T7,T7,T7,T7,T7,T7,T7,T7,T7,T7,T7,F7] rfl rfl (any_of HT_.out (by kernel_rfl)) (fun _ _ _ h => h) (Or.inl ⟨by rfl, ?_⟩) ?_ ?_
                rotate_left
                ·intro w'
                 go_simp
                 with_reducible rfl
                rotate_left
                ·simp only [Act.put, List.setIfInBounds_toArray, List.set_cons_zero, List.set_cons_succ, i64_w, i32_w]
                 rfl
                refine pure_ (i := 36) (N := some 98) (v := ?_) (a' := ?_) #[T7,T7,T7,T7,T7,T7,T7,T7,T7,T7,T7,T7,T7,T7,T7,T7,T7,T7,T7,T7,T7,T7,T7,T7,T7,T7,T7,T7,T7,T7,T7,T7,T7,T7,T7,T7,T7] rfl rfl (any_of HT_.out (by kernel_rfl)) (fun _ _ _ h => h) (Or.inl ⟨by rfl, ?_⟩) ?_ ?_
                rotate_left
                ·intro w'
                 go_simp
                 with_reducible rfl
                rotate_left
                ·simp only [Act.put, List.setIfInBounds_toArray, List.set_cons_zero, List.set_cons_succ, i64_w, i32_w]
                 rfl
                refine done_ (done_of HT_.out (by kernel_rfl)) ?_
                try go_wp2_with (first | (go_at_call 16; (with_reducible refine (mapsheetslaw02_awake.calls kj5  t484 _ A70.out).mono ?_); rintro e w79 ⟨rfl, hb⟩; have n0_ := Aside0.mk (Kd.R_below (by (with_reducible repeat (first | apply Kd.R_alloc | apply Kd.R_drewN | apply Kd.R_drew)); exact HO_11.out) hb); have n1_ := Aside0.mk (Kd.R_below (by (with_reducible repeat (first | apply Kd.R_alloc | apply Kd.R_drewN | apply Kd.R_drew)); exact HO464.out) hb); have n2_ := Aside0.mk (Kd.R_below (by (with_reducible repeat (first | apply Kd.R_alloc | apply Kd.R_drewN | apply Kd.R_drew)); exact HO481.out) hb); have n3_ := Aside0.mk (below_step (by repeat (first | (with_reducible first | exact HB.out | apply below_alloc | apply pw_below_drewN | apply below_drew1) | exact HB.out)) hb); clear HO_11; clear HO464; clear HO481; clear HB; have HO_11 := n0_; have HO464 := n1_; have HO481 := n2_; have HB := n3_; clear n0_ n1_ n2_ n3_; (try clear hb); (try clear hb2); (try clear hk); (try clear hi)))
                go_ret
                exact ⟨by first | rfl | (simp [errW_none, errW_some] <;> rfl) | (simp [*, errW_none, errW_some] <;> rfl), by repeat (first | (with_reducible first | exact HB.out | apply below_alloc | apply pw_below_drewN | apply below_drew1) | exact HB.out)⟩
               ·rw [if_neg c69] at H
                exact absurd H (by simp)
              ·rw [if_neg c68] at H
               exact absurd H (by simp)
             ·rw [if_neg c67] at H
              exact absurd H (by simp)
            ·replace c66 := Bool.eq_false_iff.mpr c66
             subst c66
             have H1 : (none) = some r := by rw [if_neg (show ¬ (false = true) by decide)] at H; exact H
             clear H
             have H := H1
             clear H1
             exact absurd H (by simp)
           ·rw [if_neg c64] at H
            exact absurd H (by simp)
          ·rw [if_neg c63] at H
           exact absurd H (by simp)
         ·rw [if_neg c61] at H
          have c61b0 : (t459 == 0) = false := beq_eq_false_iff_ne.mpr c61
          have c61b1 : (t459 != 0) = true := bne_iff_ne.mpr c61
          by_cases c80 : ((t453 == 0) == (decide (t452 > 0))) = true
          ·rw [if_pos c80] at H
           have c80b0 : ((t453 == 0) == (decide (t452 > 0))) = true := c80
           (first | (have c80b3 : decide (0 < t452) = true := by have h_ := c80; rw [show (t453 == 0) = true from by assumption] at h_; simpa using h_) | (have c80b3 : decide (0 < t452) = false := by have h_ := c80; rw [show (t453 == 0) = false from by assumption] at h_; simpa using h_) | skip)
           (try (have c80b1 : decide ((t453 == 0) = (decide (t452 > 0))) = true := by simpa using c80))
           (try (have c80b2 : ((t453 == 0) == (decide (t452 > 0))) = true := by simpa using c80))
           clear c80
           by_cases c81 : ((t456 == 0) == (decide (t455 > 0))) = true
           ·rw [if_pos c81] at H
            have c81b0 : ((t456 == 0) == (decide (t455 > 0))) = true := c81
            (first | (have c81b3 : decide (0 < t455) = true := by have h_ := c81; rw [show (t456 == 0) = true from by assumption] at h_; simpa using h_) | (have c81b3 : decide (0 < t455) = false := by have h_ := c81; rw [show (t456 == 0) = false from by assumption] at h_; simpa using h_) | skip)
            (try (have c81b1 : decide ((t456 == 0) = (decide (t455 > 0))) = true := by simpa using c81))
            (try (have c81b2 : ((t456 == 0) == (decide (t455 > 0))) = true := by simpa using c81))
            clear c81
            by_cases c82 : ((t459 == 0) == (decide (t458 > 0))) = true
            ·rw [if_pos c82] at H
             have c82b0 : ((t459 == 0) == (decide (t458 > 0))) = true := c82
             (first | (have c82b3 : decide (0 < t458) = true := by have h_ := c82; rw [show (t459 == 0) = true from by assumption] at h_; simpa using h_) | (have c82b3 : decide (0 < t458) = false := by have h_ := c82; rw [show (t459 == 0) = false from by assumption] at h_; simpa using h_) | skip)
             (try (have c82b1 : decide ((t459 == 0) = (decide (t458 > 0))) = true := by simpa using c82))
             (try (have c82b2 : ((t459 == 0) == (decide (t458 > 0))) = true := by simpa using c82))
             clear c82
             replace H := Option.bind_eq_some_iff.mp H
             obtain ⟨t485, A830, H⟩ := H
             (try dsimp only at H)
             have A83 := Aside0.mk A830
             clear A830
             obtain rfl := Option.some.inj H
             try go_wp2
             have n0_ := Aside0.mk (Kd.R_drew HO_11.out)
             have n1_ := Aside0.mk (below_drew1 HB.out)
             clear HO_11
             clear HB
             have HO_11 := n0_
             have HB := n1_
             clear n0_ n1_
             obtain ⟨i085, hi085, _, hsz85, _⟩ := info_parts info5
             obtain ⟨hcut85, hA85, hC85⟩ := print_take_of (P := Try.prog) (Value.int .u8) 0 22 5 .i64 Try.underlying22 hi085 hsz85 A0 c0 l0 t452 (of_decide_eq_true (by first | (with_reducible assumption) | assumption)) (of_decide_eq_true (by first | (with_reducible assumption) | assumption)) HC0.out
             have HR465 := Aside0.mk (Kd.C_of_reads (h1 := fun _ => rfl) (hA85 _ (Kd.reads_of_C HR0.out)))
             have HC465 := Aside0.mk hC85
             clear hA85 hC85 hi085 hsz85
             refine start_ (n := 37) (S := fun w' => True) (ds := []) #[F7,F7,F7,F7,F7,F7,F7,F7,F7,F7,F7,F7,F7,F7,F7,F7,F7,F7,F7,F7,F7,F7,F7,F7,F7,F7,F7,F7,F7,F7,F7,F7,F7,F7,F7,F7,F7] (by kernel_rfl) rfl rfl trivial (fun hHeld => ?_); refine with_tabW mapsheetslaw02_WireUnique.tab6 mapsheetslaw02_WireUnique.bits6 (fun HT_ HW_ => ?_)
             generalize wc.drew = w84 at HO_11 HB HR465 hHeld ⊢
             refine pure_ (i := 0) (N := some 62) (v := ?_) (a' := ?_) #[T7,F7,F7,F7,F7,F7,F7,F7,F7,F7,F7,F7,F7,F7,F7,F7,F7,F7,F7,F7,F7,F7,F7,F7,F7,F7,F7,F7,F7,F7,F7,F7,F7,F7,F7,F7,F7] rfl rfl (any_of HT_.out (by kernel_rfl)) (fun _ _ _ h => h) (Or.inl ⟨by rfl, ?_⟩) ?_ ?_
             rotate_left
             ·intro w'
              go_simp
              with_reducible rfl
             rotate_left
             ·simp only [Act.put, List.setIfInBounds_toArray, List.set_cons_zero, List.set_cons_succ, i64_w, i32_w]
              rfl
             refine pure_ (i := 1) (N := some 63) (v := ?_) (a' := ?_) #[T7,T7,F7,F7,F7,F7,F7,F7,F7,F7,F7,F7,F7,F7,F7,F7,F7,F7,F7,F7,F7,F7,F7,F7,F7,F7,F7,F7,F7,F7,F7,F7,F7,F7,F7,F7,F7] rfl rfl (any_of HT_.out (by kernel_rfl)) (fun _ _ _ h => h) (Or.inl ⟨by rfl, ?_⟩) ?_ ?_
             rotate_left
             ·intro w'
              go_simp
              with_reducible rfl
             rotate_left
             ·simp only [Act.put, List.setIfInBounds_toArray, List.set_cons_zero, List.set_cons_succ, i64_w, i32_w]
              rfl
             refine pure_ (i := 2) (N := some 64) (v := ?_) (a' := ?_) #[T7,T7,T7,F7,F7,F7,F7,F7,F7,F7,F7,F7,F7,F7,F7,F7,F7,F7,F7,F7,F7,F7,F7,F7,F7,F7,F7,F7,F7,F7,F7,F7,F7,F7,F7,F7,F7] rfl rfl (any_of HT_.out (by kernel_rfl)) (fun _ _ _ h => h) (Or.inl ⟨by rfl, ?_⟩) ?_ ?_
             rotate_left
             ·intro w'
              go_simp
              with_reducible rfl
             rotate_left
             ·simp only [Act.put, List.setIfInBounds_toArray, List.set_cons_zero, List.set_cons_succ, i64_w, i32_w]
              rfl
             refine pure_ (i := 3) (N := some 65) (v := ?_) (a' := ?_) #[T7,T7,T7,T7,F7,F7,F7,F7,F7,F7,F7,F7,F7,F7,F7,F7,F7,F7,F7,F7,F7,F7,F7,F7,F7,F7,F7,F7,F7,F7,F7,F7,F7,F7,F7,F7,F7] rfl rfl (any_of HT_.out (by kernel_rfl)) (fun _ _ _ h => h) (Or.inl ⟨by rfl, ?_⟩) ?_ ?_
             rotate_left
             ·intro w'
              go_simp
              with_reducible rfl
             rotate_left
             ·simp only [Act.put, List.setIfInBounds_toArray, List.set_cons_zero, List.set_cons_succ, i64_w, i32_w]
              rfl
             refine pure_ (i := 5) (N := some 67) (v := ?_) (a' := ?_) #[T7,T7,T7,T7,F7,T7,F7,F7,F7,F7,F7,F7,F7,F7,F7,F7,F7,F7,F7,F7,F7,F7,F7,F7,F7,F7,F7,F7,F7,F7,F7,F7,F7,F7,F7,F7,F7] rfl rfl (any_of HT_.out (by kernel_rfl)) (fun _ _ _ h => h) (Or.inl ⟨by rfl, ?_⟩) ?_ ?_
             rotate_left
             ·intro w'
              go_simp
              with_reducible rfl
             rotate_left
             ·simp only [Act.put, List.setIfInBounds_toArray, List.set_cons_zero, List.set_cons_succ, i64_w, i32_w]
              rfl
             refine pure_ (i := 6) (N := some 68) (v := ?_) (a' := ?_) #[T7,T7,T7,T7,F7,T7,T7,F7,F7,F7,F7,F7,F7,F7,F7,F7,F7,F7,F7,F7,F7,F7,F7,F7,F7,F7,F7,F7,F7,F7,F7,F7,F7,F7,F7,F7,F7] rfl rfl (any_of HT_.out (by kernel_rfl)) (fun _ _ _ h => h) (Or.inl ⟨by rfl, ?_⟩) ?_ ?_
             rotate_left
             ·intro w'
              go_simp
              with_reducible rfl
             rotate_left
             ·simp only [Act.put, List.setIfInBounds_toArray, List.set_cons_zero, List.set_cons_succ, i64_w, i32_w]
              rfl
             refine pure_ (i := 7) (N := some 69) (v := ?_) (a' := ?_) #[T7,T7,T7,T7,F7,T7,T7,T7,F7,F7,F7,F7,F7,F7,F7,F7,F7,F7,F7,F7,F7,F7,F7,F7,F7,F7,F7,F7,F7,F7,F7,F7,F7,F7,F7,F7,F7] rfl rfl (any_of HT_.out (by kernel_rfl)) (fun _ _ _ h => h) (Or.inl ⟨by rfl, ?_⟩) ?_ ?_
             rotate_left
             ·intro w'
              go_simp
              with_reducible rfl
             rotate_left
             ·simp only [Act.put, List.setIfInBounds_toArray, List.set_cons_zero, List.set_cons_succ, i64_w, i32_w]
              rfl
             refine one_ (i := 4) (N := some 66) #[T7,T7,T7,T7,T7,T7,T7,T7,F7,F7,F7,F7,F7,F7,F7,F7,F7,F7,F7,F7,F7,F7,F7,F7,F7,F7,F7,F7,F7,F7,F7,F7,F7,F7,F7,F7,F7] rfl rfl (one_of HT_.out (by kernel_rfl)) (by decide) (fun K hK => ?_)
             refine goes_ Try.func14 (by kernel_rfl) rfl #[.slice none 0 0, .int .i64 t451] (by rfl) rfl rfl (by (try simp only [List.map_toArray, List.map_cons, List.map_nil]); first | done | rfl | (simp only [List.length_drop, List.length_take]; rfl)) ?_
             refine (wire_PutInt.calls _ _ ([] : List Int) t451 t462 _ ?side1 ?side2 A16.out).mono ?_
             (case side1 => exact Kd.C_nil _ _)
             (case side2 => exact Nat.le_refl _)
             rintro e w86 ⟨v463, rfl, ho0, hb⟩
             refine ⟨_, rfl, ?_⟩
             have n0_ := Aside0.mk (Kd.R_below (by (with_reducible repeat (first | apply Kd.R_alloc | apply Kd.R_drewN | apply Kd.R_drew)); exact HO_11.out) hb)
             have n1_ := Aside0.mk (Kd.R_lower ho0 (below_size (by repeat (first | (with_reducible first | exact HB.out | apply below_alloc | apply pw_below_drewN | apply below_drew1) | exact HB.out))))
             have n2_ := Aside0.mk (below_step (by repeat (first | (with_reducible first | exact HB.out | apply below_alloc | apply pw_below_drewN | apply below_drew1) | exact HB.out)) hb)
             clear HO_11
             clear HB
             have HO_11 := n0_
             have HO464 := n1_
             have HB := n2_
             clear n0_ n1_ n2_
             (try clear hb)
             (try clear hb2)
             (try clear hk)
             (try clear hi)
             (try clear ho0)
             obtain ⟨Ao87, co87, eo87⟩ := Kd.R_slice HO464.out
             (first | subst eo87 | (injection eo87 with f1_ f2_ f3_; have f4_ := f1_.symm; have f5_ := f3_.symm; clear f1_ f2_ f3_; subst f4_; subst f5_))
             refine hK.out _ _ trivial (fun hHeld => ?_)
             clear hK K
             refine norm_ (a' := ?_) ?_ ?_
             rotate_left
             ·show Act.put _ (some 66) _ = _
              simp only [Act.put, List.setIfInBounds_toArray, List.set_cons_zero, List.set_cons_succ, i64_w, i32_w]
              rfl
             refine one_ (i := 8) (N := some 70) #[T7,T7,T7,T7,T7,T7,T7,T7,T7,F7,F7,F7,F7,F7,F7,F7,F7,F7,F7,F7,F7,F7,F7,F7,F7,F7,F7,F7,F7,F7,F7,F7,F7,F7,F7,F7,F7] rfl rfl (one_of HT_.out (by kernel_rfl)) (by decide) (fun K hK => ?_)
             refine goes_ Try.func13 (by kernel_rfl) rfl #[.slice Ao87 t462.length co87, .slice A0 (l0.take (t452 : Int).toNat).length c0] (by rfl) rfl rfl (by (try simp only [List.map_toArray, List.map_cons, List.map_nil]); first | done | (rw [show (l0.take (t452 : Int).toNat).length = t452.toNat from (by rw [List.length_take]; have h_ : (t452 : Int) ≤ (l0.length : Int) := of_decide_eq_true (by first | (with_reducible assumption) | assumption); omega)] <;> rfl) | rfl | (simp only [List.length_drop, List.length_take]; rfl)) ?_
             with_reducible refine (mapsheetsref02_Same.calls kj5 _ _ t462 _ _ (l0.take (t452 : Int).toNat) true _ ?side1 ?side2 ?side3 ?side4 A19.out).mono ?_
             (case side1 => repeat (first | exact (Kd.R_reads' HO464.out).2.2 | (with_reducible refine Kd.C_alloc ?_ _) | (with_reducible refine Kd.C_drewN ?_ _) | (with_reducible refine Kd.C_drew ?_)))
             (case side2 => exact (Kd.R_reads' HO464.out).2.1)
             (case side3 => repeat (first | exact (Kd.C_below HR465.out HB.out) | (with_reducible refine Kd.C_alloc ?_ _) | (with_reducible refine Kd.C_drewN ?_ _) | (with_reducible refine Kd.C_drew ?_)))
             (case side4 => exact HC465.out)
             rintro e w' ⟨rfl, ⟨nd, rfl⟩⟩
             refine ⟨_, rfl, ?_⟩
             refine hK.out _ _ trivial (fun hHeld => ?_)
             clear hK K
             refine norm_ (a' := ?_) ?_ ?_
             rotate_left
             ·show Act.put _ (some 70) _ = _
              simp only [Act.put, List.setIfInBounds_toArray, List.set_cons_zero, List.set_cons_succ, i64_w, i32_w]
              rfl
             refine pure_ (i := 9) (N := some 71) (v := ?_) (a' := ?_) #[T7,T7,T7,T7,T7,T7,T7,T7,T7,T7,F7,F7,F7,F7,F7,F7,F7,F7,F7,F7,F7,F7,F7,F7,F7,F7,F7,F7,F7,F7,F7,F7,F7,F7,F7,F7,F7] rfl rfl (any_of HT_.out (by kernel_rfl)) (fun _ _ _ h => h) (Or.inl ⟨by rfl, ?_⟩) ?_ ?_
             rotate_left
             ·intro w'
              go_simp
              with_reducible rfl
             rotate_left
             ·simp only [Act.put, List.setIfInBounds_toArray, List.set_cons_zero, List.set_cons_succ, i64_w, i32_w]
              rfl
             refine pure_ (i := 10) (N := some 72) (v := ?_) (a' := ?_) #[T7,T7,T7,T7,T7,T7,T7,T7,T7,T7,T7,F7,F7,F7,F7,F7,F7,F7,F7,F7,F7,F7,F7,F7,F7,F7,F7,F7,F7,F7,F7,F7,F7,F7,F7,F7,F7] rfl rfl (any_of HT_.out (by kernel_rfl)) (fun _ _ _ h => h) (Or.inl ⟨by rfl, ?_⟩) ?_ ?_
             rotate_left
             ·intro w'
              go_simp
              with_reducible rfl
             rotate_left
             ·simp only [Act.put, List.setIfInBounds_toArray, List.set_cons_zero, List.set_cons_succ, i64_w, i32_w]
              rfl
             refine pure_ (i := 11) (N := some 73) (v := ?_) (a' := ?_) #[T7,T7,T7,T7,T7,T7,T7,T7,T7,T7,T7,T7,F7,F7,F7,F7,F7,F7,F7,F7,F7,F7,F7,F7,F7,F7,F7,F7,F7,F7,F7,F7,F7,F7,F7,F7,F7] rfl rfl (any_of HT_.out (by kernel_rfl)) (fun _ _ _ h => h) (Or.inl ⟨by rfl, ?_⟩) ?_ ?_
             rotate_left
             ·intro w'
              go_simp
              with_reducible rfl
             rotate_left
             ·simp only [Act.put, List.setIfInBounds_toArray, List.set_cons_zero, List.set_cons_succ, i64_w, i32_w]
              rfl
             refine pure_ (i := 12) (N := some 74) (v := ?_) (a' := ?_) #[T7,T7,T7,T7,T7,T7,T7,T7,T7,T7,T7,T7,T7,F7,F7,F7,F7,F7,F7,F7,F7,F7,F7,F7,F7,F7,F7,F7,F7,F7,F7,F7,F7,F7,F7,F7,F7] rfl rfl (any_of HT_.out (by kernel_rfl)) (fun _ _ _ h => h) (Or.inl ⟨by rfl, ?_⟩) ?_ ?_
             rotate_left
             ·intro w'
              go_simp
              with_reducible rfl
             rotate_left
             ·simp only [Act.put, List.setIfInBounds_toArray, List.set_cons_zero, List.set_cons_succ, i64_w, i32_w]
              rfl
             refine pure_ (i := 13) (N := some 75) (v := ?_) (a' := ?_) #[T7,T7,T7,T7,T7,T7,T7,T7,T7,T7,T7,T7,T7,T7,F7,F7,F7,F7,F7,F7,F7,F7,F7,F7,F7,F7,F7,F7,F7,F7,F7,F7,F7,F7,F7,F7,F7] rfl rfl (any_of HT_.out (by kernel_rfl)) (fun _ _ _ h => h) (Or.inl ⟨by rfl, ?_⟩) ?_ ?_
             rotate_left
             ·intro w'
              go_simp
              with_reducible rfl
             rotate_left
             ·simp only [Act.put, List.setIfInBounds_toArray, List.set_cons_zero, List.set_cons_succ, i64_w, i32_w]
              rfl
             refine pure_ (i := 14) (N := some 76) (v := ?_) (a' := ?_) #[T7,T7,T7,T7,T7,T7,T7,T7,T7,T7,T7,T7,T7,T7,T7,F7,F7,F7,F7,F7,F7,F7,F7,F7,F7,F7,F7,F7,F7,F7,F7,F7,F7,F7,F7,F7,F7] rfl rfl (any_of HT_.out (by kernel_rfl)) (fun _ _ _ h => h) (Or.inl ⟨by rfl, ?_⟩) ?_ ?_
             rotate_left
             ·intro w'
              go_simp
              with_reducible rfl
             rotate_left
             ·simp only [Act.put, List.setIfInBounds_toArray, List.set_cons_zero, List.set_cons_succ, i64_w, i32_w]
              rfl
             refine pure_ (i := 15) (N := some 77) (v := undef) (a' := ?_) #[T7,T7,T7,T7,T7,T7,T7,T7,T7,T7,T7,T7,T7,T7,T7,T7,F7,F7,F7,F7,F7,F7,F7,F7,F7,F7,F7,F7,F7,F7,F7,F7,F7,F7,F7,F7,F7] rfl rfl (any_of HT_.out (by kernel_rfl)) (fun _ _ _ h => h) (Or.inr ⟨by rfl, rfl⟩) ?_ ?_
             rotate_left
             ·simp only [Act.put, List.setIfInBounds_toArray, List.set_cons_zero, List.set_cons_succ, i64_w, i32_w]
              rfl
             refine pure_ (i := 16) (N := some 78) (v := undef) (a' := ?_) #[T7,T7,T7,T7,T7,T7,T7,T7,T7,T7,T7,T7,T7,T7,T7,T7,T7,F7,F7,F7,F7,F7,F7,F7,F7,F7,F7,F7,F7,F7,F7,F7,F7,F7,F7,F7,F7] rfl rfl (any_of HT_.out (by kernel_rfl)) (fun _ _ _ h => h) (Or.inr ⟨by rfl, rfl⟩) ?_ ?_
             rotate_left
             ·simp only [Act.put, List.setIfInBounds_toArray, List.set_cons_zero, List.set_cons_succ, i64_w, i32_w]
              rfl
             refine pure_ (i := 17) (N := some 79) (v := undef) (a' := ?_) #[T7,T7,T7,T7,T7,T7,T7,T7,T7,T7,T7,T7,T7,T7,T7,T7,T7,T7,F7,F7,F7,F7,F7,F7,F7,F7,F7,F7,F7,F7,F7,F7,F7,F7,F7,F7,F7] rfl rfl (any_of HT_.out (by kernel_rfl)) (fun _ _ _ h => h) (Or.inr ⟨by rfl, rfl⟩) ?_ ?_
             rotate_left
             ·simp only [Act.put, List.setIfInBounds_toArray, List.set_cons_zero, List.set_cons_succ, i64_w, i32_w]
              rfl
             refine pure_ (i := 18) (N := some 80) (v := undef) (a' := ?_) #[T7,T7,T7,T7,T7,T7,T7,T7,T7,T7,T7,T7,T7,T7,T7,T7,T7,T7,T7,F7,F7,F7,F7,F7,F7,F7,F7,F7,F7,F7,F7,F7,F7,F7,F7,F7,F7] rfl rfl (any_of HT_.out (by kernel_rfl)) (fun _ _ _ h => h) (Or.inr ⟨by rfl, rfl⟩) ?_ ?_
             rotate_left
             ·simp only [Act.put, List.setIfInBounds_toArray, List.set_cons_zero, List.set_cons_succ, i64_w, i32_w]
              rfl
             refine pure_ (i := 19) (N := some 81) (v := undef) (a' := ?_) #[T7,T7,T7,T7,T7,T7,T7,T7,T7,T7,T7,T7,T7,T7,T7,T7,T7,T7,T7,T7,F7,F7,F7,F7,F7,F7,F7,F7,F7,F7,F7,F7,F7,F7,F7,F7,F7] rfl rfl (any_of HT_.out (by kernel_rfl)) (fun _ _ _ h => h) (Or.inr ⟨by rfl, rfl⟩) ?_ ?_
             rotate_left
             ·simp only [Act.put, List.setIfInBounds_toArray, List.set_cons_zero, List.set_cons_succ, i64_w, i32_w]
              rfl
             refine pure_ (i := 20) (N := some 82) (v := undef) (a' := ?_) #[T7,T7,T7,T7,T7,T7,T7,T7,T7,T7,T7,T7,T7,T7,T7,T7,T7,T7,T7,T7,T7,F7,F7,F7,F7,F7,F7,F7,F7,F7,F7,F7,F7,F7,F7,F7,F7] rfl rfl (any_of HT_.out (by kernel_rfl)) (fun _ _ _ h => h) (Or.inr ⟨by rfl, rfl⟩) ?_ ?_
             rotate_left
             ·simp only [Act.put, List.setIfInBounds_toArray, List.set_cons_zero, List.set_cons_succ, i64_w, i32_w]
              rfl
             refine pure_ (i := 21) (N := some 83) (v := undef) (a' := ?_) #[T7,T7,T7,T7,T7,T7,T7,T7,T7,T7,T7,T7,T7,T7,T7,T7,T7,T7,T7,T7,T7,T7,F7,F7,F7,F7,F7,F7,F7,F7,F7,F7,F7,F7,F7,F7,F7] rfl rfl (any_of HT_.out (by kernel_rfl)) (fun _ _ _ h => h) (Or.inr ⟨by rfl, rfl⟩) ?_ ?_
             rotate_left
             ·simp only [Act.put, List.setIfInBounds_toArray, List.set_cons_zero, List.set_cons_succ, i64_w, i32_w]
              rfl
             refine pure_ (i := 22) (N := some 84) (v := ?_) (a' := ?_) #[T7,T7,T7,T7,T7,T7,T7,T7,T7,T7,T7,T7,T7,T7,T7,T7,T7,T7,T7,T7,T7,T7,T7,F7,F7,F7,F7,F7,F7,F7,F7,F7,F7,F7,F7,F7,F7] rfl rfl (any_of HT_.out (by kernel_rfl)) (fun _ _ _ h => h) (Or.inl ⟨by rfl, ?_⟩) ?_ ?_
             rotate_left
             ·intro w'
              go_simp
              with_reducible rfl
             rotate_left
             ·simp only [Act.put, List.setIfInBounds_toArray, List.set_cons_zero, List.set_cons_succ, i64_w, i32_w]
              rfl
             refine pure_ (i := 23) (N := some 85) (v := ?_) (a' := ?_) #[T7,T7,T7,T7,T7,T7,T7,T7,T7,T7,T7,T7,T7,T7,T7,T7,T7,T7,T7,T7,T7,T7,T7,T7,F7,F7,F7,F7,F7,F7,F7,F7,F7,F7,F7,F7,F7] rfl rfl (any_of HT_.out (by kernel_rfl)) (fun _ _ _ h => h) (Or.inl ⟨by rfl, ?_⟩) ?_ ?_
             rotate_left
             ·intro w'
              go_simp
              with_reducible rfl
             rotate_left
             ·simp only [Act.put, List.setIfInBounds_toArray, List.set_cons_zero, List.set_cons_succ, i64_w, i32_w]
              rfl
             refine pure_ (i := 24) (N := some 86) (v := ?_) (a' := ?_) #[T7,T7,T7,T7,T7,T7,T7,T7,T7,T7,T7,T7,T7,T7,T7,T7,T7,T7,T7,T7,T7,T7,T7,T7,T7,F7,F7,F7,F7,F7,F7,F7,F7,F7,F7,F7,F7] rfl rfl (any_of HT_.out (by kernel_rfl)) (fun _ _ _ h => h) (Or.inl ⟨by rfl, ?_⟩) ?_ ?_
             rotate_left
             ·intro w'
              go_simp
              with_reducible rfl
             rotate_left
             ·simp only [Act.put, List.setIfInBounds_toArray, List.set_cons_zero, List.set_cons_succ, i64_w, i32_w]
              rfl
             refine pure_ (i := 25) (N := some 87) (v := ?_) (a' := ?_) #[T7,T7,T7,T7,T7,T7,T7,T7,T7,T7,T7,T7,T7,T7,T7,T7,T7,T7,T7,T7,T7,T7,T7,T7,T7,T7,F7,F7,F7,F7,F7,F7,F7,F7,F7,F7,F7] rfl rfl (any_of HT_.out (by kernel_rfl)) (fun _ _ _ h => h) (Or.inl ⟨by rfl, ?_⟩) ?_ ?_
             rotate_left
             ·intro w'
              go_simp
              with_reducible rfl
             rotate_left
             ·simp only [Act.put, List.setIfInBounds_toArray, List.set_cons_zero, List.set_cons_succ, i64_w, i32_w]
              rfl
             refine pure_ (i := 26) (N := some 88) (v := ?_) (a' := ?_) #[T7,T7,T7,T7,T7,T7,T7,T7,T7,T7,T7,T7,T7,T7,T7,T7,T7,T7,T7,T7,T7,T7,T7,T7,T7,T7,T7,F7,F7,F7,F7,F7,F7,F7,F7,F7,F7] rfl rfl (any_of HT_.out (by kernel_rfl)) (fun _ _ _ h => h) (Or.inl ⟨by rfl, ?_⟩) ?_ ?_
             rotate_left
             ·intro w'
              go_simp
              with_reducible rfl
             rotate_left
             ·simp only [Act.put, List.setIfInBounds_toArray, List.set_cons_zero, List.set_cons_succ, i64_w, i32_w]
              rfl
             refine pure_ (i := 27) (N := some 89) (v := ?_) (a' := ?_) #[T7,T7,T7,T7,T7,T7,T7,T7,T7,T7,T7,T7,T7,T7,T7,T7,T7,T7,T7,T7,T7,T7,T7,T7,T7,T7,T7,T7,F7,F7,F7,F7,F7,F7,F7,F7,F7] rfl rfl (any_of HT_.out (by kernel_rfl)) (fun _ _ _ h => h) (Or.inl ⟨by rfl, ?_⟩) ?_ ?_
             rotate_left
             ·intro w'
              go_simp
              with_reducible rfl
             rotate_left
             ·simp only [Act.put, List.setIfInBounds_toArray, List.set_cons_zero, List.set_cons_succ, i64_w, i32_w]
              rfl
             refine pure_ (i := 28) (N := some 90) (v := undef) (a' := ?_) #[T7,T7,T7,T7,T7,T7,T7,T7,T7,T7,T7,T7,T7,T7,T7,T7,T7,T7,T7,T7,T7,T7,T7,T7,T7,T7,T7,T7,T7,F7,F7,F7,F7,F7,F7,F7,F7] rfl rfl (any_of HT_.out (by kernel_rfl)) (fun _ _ _ h => h) (Or.inr ⟨by rfl, rfl⟩) ?_ ?_
             rotate_left
             ·simp only [Act.put, List.setIfInBounds_toArray, List.set_cons_zero, List.set_cons_succ, i64_w, i32_w]
              rfl
             refine pure_ (i := 29) (N := some 91) (v := undef) (a' := ?_) #[T7,T7,T7,T7,T7,T7,T7,T7,T7,T7,T7,T7,T7,T7,T7,T7,T7,T7,T7,T7,T7,T7,T7,T7,T7,T7,T7,T7,T7,T7,F7,F7,F7,F7,F7,F7,F7] rfl rfl (any_of HT_.out (by kernel_rfl)) (fun _ _ _ h => h) (Or.inr ⟨by rfl, rfl⟩) ?_ ?_
             rotate_left
             ·simp only [Act.put, List.setIfInBounds_toArray, List.set_cons_zero, List.set_cons_succ, i64_w, i32_w]
              rfl
             refine pure_ (i := 30) (N := some 92) (v := undef) (a' := ?_) #[T7,T7,T7,T7,T7,T7,T7,T7,T7,T7,T7,T7,T7,T7,T7,T7,T7,T7,T7,T7,T7,T7,T7,T7,T7,T7,T7,T7,T7,T7,T7,F7,F7,F7,F7,F7,F7] rfl rfl (any_of HT_.out (by kernel_rfl)) (fun _ _ _ h => h) (Or.inr ⟨by rfl, rfl⟩) ?_ ?_
             rotate_left
             ·simp only [Act.put, List.setIfInBounds_toArray, List.set_cons_zero, List.set_cons_succ, i64_w, i32_w]
              rfl
             refine pure_ (i := 31) (N := some 93) (v := undef) (a' := ?_) #[T7,T7,T7,T7,T7,T7,T7,T7,T7,T7,T7,T7,T7,T7,T7,T7,T7,T7,T7,T7,T7,T7,T7,T7,T7,T7,T7,T7,T7,T7,T7,T7,F7,F7,F7,F7,F7] rfl rfl (any_of HT_.out (by kernel_rfl)) (fun _ _ _ h => h) (Or.inr ⟨by rfl, rfl⟩) ?_ ?_
             rotate_left
             ·simp only [Act.put, List.setIfInBounds_toArray, List.set_cons_zero, List.set_cons_succ, i64_w, i32_w]
              rfl
             refine pure_ (i := 32) (N := some 94) (v := undef) (a' := ?_) #[T7,T7,T7,T7,T7,T7,T7,T7,T7,T7,T7,T7,T7,T7,T7,T7,T7,T7,T7,T7,T7,T7,T7,T7,T7,T7,T7,T7,T7,T7,T7,T7,T7,F7,F7,F7,F7] rfl rfl (any_of HT_.out (by kernel_rfl)) (fun _ _ _ h => h) (Or.inr ⟨by rfl, rfl⟩) ?_ ?_
             rotate_left
             ·simp only [Act.put, List.setIfInBounds_toArray, List.set_cons_zero, List.set_cons_succ, i64_w, i32_w]
              rfl
             refine pure_ (i := 33) (N := some 95) (v := undef) (a' := ?_) #[T7,T7,T7,T7,T7,T7,T7,T7,T7,T7,T7,T7,T7,T7,T7,T7,T7,T7,T7,T7,T7,T7,T7,T7,T7,T7,T7,T7,T7,T7,T7,T7,T7,T7,F7,F7,F7] rfl rfl (any_of HT_.out (by kernel_rfl)) (fun _ _ _ h => h) (Or.inr ⟨by rfl, rfl⟩) ?_ ?_
             rotate_left
             ·simp only [Act.put, List.setIfInBounds_toArray, List.set_cons_zero, List.set_cons_succ, i64_w, i32_w]
              rfl
             refine pure_ (i := 34) (N := some 96) (v := undef) (a' := ?_) #[T7,T7,T7,T7,T7,T7,T7,T7,T7,T7,T7,T7,T7,T7,T7,T7,T7,T7,T7,T7,T7,T7,T7,T7,T7,T7,T7,T7,T7,T7,T7,T7,T7,T7,T7,F7,F7] rfl rfl (any_of HT_.out (by kernel_rfl)) (fun _ _ _ h => h) (Or.inr ⟨by rfl, rfl⟩) ?_ ?_
             rotate_left
             ·simp only [Act.put, List.setIfInBounds_toArray, List.set_cons_zero, List.set_cons_succ, i64_w, i32_w]
              rfl
             refine pure_ (i := 35) (N := some 97) (v := ?_) (a' := ?_) #[T7,T7,T7,T7,T7,T7,T7,T7,T7,T7,T7,T7,T7,T7,T7,T7,T7,T7,T7,T7,T7,T7,T7,T7,T7,T7,T7,T7,T7,T7,T7,T7,T7,T7,T7,T7,F7] rfl rfl (any_of HT_.out (by kernel_rfl)) (fun _ _ _ h => h) (Or.inl ⟨by rfl, ?_⟩) ?_ ?_
             rotate_left
             ·intro w'
              go_simp
              with_reducible rfl
             rotate_left
             ·simp only [Act.put, List.setIfInBounds_toArray, List.set_cons_zero, List.set_cons_succ, i64_w, i32_w]
              rfl
             refine pure_ (i := 36) (N := some 98) (v := ?_) (a' := ?_) #[T7,T7,T7,T7,T7,T7,T7,T7,T7,T7,T7,T7,T7,T7,T7,T7,T7,T7,T7,T7,T7,T7,T7,T7,T7,T7,T7,T7,T7,T7,T7,T7,T7,T7,T7,T7,T7] rfl rfl (any_of HT_.out (by kernel_rfl)) (fun _ _ _ h => h) (Or.inl ⟨by rfl, ?_⟩) ?_ ?_
             rotate_left
             ·intro w'
              go_simp
              with_reducible rfl
             rotate_left
             ·simp only [Act.put, List.setIfInBounds_toArray, List.set_cons_zero, List.set_cons_succ, i64_w, i32_w]
              rfl
             refine done_ (done_of HT_.out (by kernel_rfl)) ?_
             try go_wp2_with (first | (go_at_call 16; (with_reducible refine (mapsheetslaw02_awake.calls kj5  t485 _ A83.out).mono ?_); rintro e w88 ⟨rfl, hb⟩; have n0_ := Aside0.mk (Kd.R_below (by (with_reducible repeat (first | apply Kd.R_alloc | apply Kd.R_drewN | apply Kd.R_drew)); exact HO_11.out) hb); have n1_ := Aside0.mk (Kd.R_below (by (with_reducible repeat (first | apply Kd.R_alloc | apply Kd.R_drewN | apply Kd.R_drew)); exact HO464.out) hb); have n2_ := Aside0.mk (below_step (by repeat (first | (with_reducible first | exact HB.out | apply below_alloc | apply pw_below_drewN | apply below_drew1) | exact HB.out)) hb); clear HO_11; clear HO464; clear HB; have HO_11 := n0_; have HO464 := n1_; have HB := n2_; clear n0_ n1_ n2_; (try clear hb); (try clear hb2); (try clear hk); (try clear hi)))
             go_ret
             exact ⟨by first | rfl | (simp [errW_none, errW_some] <;> rfl) | (simp [*, errW_none, errW_some] <;> rfl), by repeat (first | (with_reducible first | exact HB.out | apply below_alloc | apply pw_below_drewN | apply below_drew1) | exact HB.out)⟩
            ·rw [if_neg c82] at H
             exact absurd H (by simp)
           ·rw [if_neg c81] at H
            exact absurd H (by simp)
          ·rw [if_neg c80] at H
           exact absurd H (by simp)
       ·replace c20 := Bool.eq_false_iff.mpr c20
        subst c20
        have H1 : (none) = some r := by rw [if_neg (show ¬ (false = true) by decide)] at H; exact H
        clear H
        have H := H1
        clear H1
        exact absurd H (by simp)
      ·rw [if_neg c18] at H
       exact absurd H (by simp)
     ·rw [if_neg c17] at H
      exact absurd H (by simp)
    ·rw [if_neg c15] at H
     have c15b0 : (t453 == 0) = false := beq_eq_false_iff_ne.mpr c15
     have c15b1 : (t453 != 0) = true := bne_iff_ne.mpr c15
     by_cases c89 : t456 = 0
     ·rw [if_pos c89] at H
      have c89b0 : (t456 == 0) = true := beq_iff_eq.mpr c89
      have c89b1 : (t456 != 0) = false := bne_eq_false_iff_eq.mpr c89
      clear c89
      replace H := Option.bind_eq_some_iff.mp H
      obtain ⟨t486, A900, H⟩ := H
      (try dsimp only at H)
      have A90 := Aside0.mk A900
      clear A900
      by_cases c91 : 0 ≤ t455
      ·rw [if_pos c91] at H
       have c91b0 := eq_true c91
       have c91b1 : decide (0 ≤ t455) = true := decide_eq_true c91
       clear c91
       by_cases c92 : t455 ≤ (l0.length : Int)
       ·rw [if_pos c92] at H
        have c92b0 := eq_true c92
        have c92b1 : decide (t455 ≤ (l0.length : Int)) = true := decide_eq_true c92
        clear c92
        replace H := Option.bind_eq_some_iff.mp H
        obtain ⟨t490, A930, H⟩ := H
        (try dsimp only at H)
        have A93 := Aside0.mk A930
        clear A930
        by_cases c94 : t490 = true
        ·subst c94
         have H1 : (if t459 = 0 then ((wire_PutList.f kj5 ([] : List Int) t457).bind fun t491 => (if 0 ≤ t458 then (if t458 ≤ (l0.length : Int) then ((mapsheetsref02_Same.f kj5 t491 (l0.take (t458 : Int).toNat)).bind fun t495 => (if t495 = true then (if ((t453 == 0) == (decide (t452 > 0))) = true then (if ((t456 == 0) == (decide (t455 > 0))) = true then (if ((t459 == 0) == (decide (t458 > 0))) = true then ((mapsheetslaw02_awake.f kj5).bind fun t496 => (some t496)) else (none)) else (none)) else (none)) else (none))) else (none)) else (none))) else (if ((t453 == 0) == (decide (t452 > 0))) = true then (if ((t456 == 0) == (decide (t455 > 0))) = true then (if ((t459 == 0) == (decide (t458 > 0))) = true then ((mapsheetslaw02_awake.f kj5).bind fun t497 => (some t497)) else (none)) else (none)) else (none))) = some r := by rw [if_pos rfl] at H; exact H
         clear H
         have H := H1
         clear H1
         by_cases c95 : t459 = 0
         ·rw [if_pos c95] at H
          have c95b0 : (t459 == 0) = true := beq_iff_eq.mpr c95
          have c95b1 : (t459 != 0) = false := bne_eq_false_iff_eq.mpr c95
          clear c95
          replace H := Option.bind_eq_some_iff.mp H
          obtain ⟨t491, A960, H⟩ := H
          (try dsimp only at H)
          have A96 := Aside0.mk A960
          clear A960
          by_cases c97 : 0 ≤ t458
          ·rw [if_pos c97] at H
           have c97b0 := eq_true c97
           have c97b1 : decide (0 ≤ t458) = true := decide_eq_true c97
           clear c97
           by_cases c98 : t458 ≤ (l0.length : Int)
           ·rw [if_pos c98] at H
            have c98b0 := eq_true c98
            have c98b1 : decide (t458 ≤ (l0.length : Int)) = true := decide_eq_true c98
            clear c98
            replace H := Option.bind_eq_some_iff.mp H
            obtain ⟨t495, A990, H⟩ := H
            (try dsimp only at H)
            have A99 := Aside0.mk A990
            clear A990
            by_cases c100 : t495 = true
            ·subst c100
             have H1 : (if ((t453 == 0) == (decide (t452 > 0))) = true then (if ((t456 == 0) == (decide (t455 > 0))) = true then (if ((t459 == 0) == (decide (t458 > 0))) = true then ((mapsheetslaw02_awake.f kj5).bind fun t496 => (some t496)) else (none)) else (none)) else (none)) = some r := by rw [if_pos rfl] at H; exact H
             clear H
             have H := H1
             clear H1
             by_cases c101 : ((t453 == 0) == (decide (t452 > 0))) = true
             ·rw [if_pos c101] at H
              have c101b0 : ((t453 == 0) == (decide (t452 > 0))) = true := c101
              (first | (have c101b3 : decide (0 < t452) = true := by have h_ := c101; rw [show (t453 == 0) = true from by assumption] at h_; simpa using h_) | (have c101b3 : decide (0 < t452) = false := by have h_ := c101; rw [show (t453 == 0) = false from by assumption] at h_; simpa using h_) | skip)
              (try (have c101b1 : decide ((t453 == 0) = (decide (t452 > 0))) = true := by simpa using c101))
              (try (have c101b2 : ((t453 == 0) == (decide (t452 > 0))) = true := by simpa using c101))
              clear c101
              by_cases c102 : ((t456 == 0) == (decide (t455 > 0))) = true
              ·rw [if_pos c102] at H
               have c102b0 : ((t456 == 0) == (decide (t455 > 0))) = true := c102
               (first | (have c102b3 : decide (0 < t455) = true := by have h_ := c102; rw [show (t456 == 0) = true from by assumption] at h_; simpa using h_) | (have c102b3 : decide (0 < t455) = false := by have h_ := c102; rw [show (t456 == 0) = false from by assumption] at h_; simpa using h_) | skip)
               (try (have c102b1 : decide ((t456 == 0) = (decide (t455 > 0))) = true := by simpa using c102))
               (try (have c102b2 : ((t456 == 0) == (decide (t455 > 0))) = true := by simpa using c102))
               clear c102
               by_cases c103 : ((t459 == 0) == (decide (t458 > 0))) = true
               ·rw [if_pos c103] at H
                have c103b0 : ((t459 == 0) == (decide (t458 > 0))) = true := c103
                (first | (have c103b3 : decide (0 < t458) = true := by have h_ := c103; rw [show (t459 == 0) = true from by assumption] at h_; simpa using h_) | (have c103b3 : decide (0 < t458) = false := by have h_ := c103; rw [show (t459 == 0) = false from by assumption] at h_; simpa using h_) | skip)
                (try (have c103b1 : decide ((t459 == 0) = (decide (t458 > 0))) = true := by simpa using c103))
                (try (have c103b2 : ((t459 == 0) == (decide (t458 > 0))) = true := by simpa using c103))
                clear c103
                replace H := Option.bind_eq_some_iff.mp H
                obtain ⟨t496, A1040, H⟩ := H
                (try dsimp only at H)
                have A104 := Aside0.mk A1040
                clear A1040
                obtain rfl := Option.some.inj H
                try go_wp2
                have n0_ := Aside0.mk (Kd.R_drew HO_11.out)
                have n1_ := Aside0.mk (below_drew1 HB.out)
                clear HO_11
                clear HB
                have HO_11 := n0_
                have HB := n1_
                clear n0_ n1_
                obtain ⟨i0106, hi0106, _, hsz106, _⟩ := info_parts info5
                obtain ⟨hcut106, hA106, hC106⟩ := print_take_of (P := Try.prog) (Value.int .u8) 0 22 5 .i64 Try.underlying22 hi0106 hsz106 A0 c0 l0 t455 (of_decide_eq_true (by first | (with_reducible assumption) | assumption)) (of_decide_eq_true (by first | (with_reducible assumption) | assumption)) HC0.out
                have HR489 := Aside0.mk (Kd.C_of_reads (h1 := fun _ => rfl) (hA106 _ (Kd.reads_of_C HR0.out)))
                have HC489 := Aside0.mk hC106
                clear hA106 hC106 hi0106 hsz106
                obtain ⟨i0111, hi0111, _, hsz111, _⟩ := info_parts info5
                obtain ⟨hcut111, hA111, hC111⟩ := print_take_of (P := Try.prog) (Value.int .u8) 0 22 5 .i64 Try.underlying22 hi0111 hsz111 A0 c0 l0 t458 (of_decide_eq_true (by first | (with_reducible assumption) | assumption)) (of_decide_eq_true (by first | (with_reducible assumption) | assumption)) HC0.out
                have HR494 := Aside0.mk (Kd.C_of_reads (h1 := fun _ => rfl) (hA111 _ (Kd.reads_of_C HR0.out)))
                have HC494 := Aside0.mk hC111
                clear hA111 hC111 hi0111 hsz111
                refine start_ (n := 37) (S := fun w' => True) (ds := []) #[F7,F7,F7,F7,F7,F7,F7,F7,F7,F7,F7,F7,F7,F7,F7,F7,F7,F7,F7,F7,F7,F7,F7,F7,F7,F7,F7,F7,F7,F7,F7,F7,F7,F7,F7,F7,F7] (by kernel_rfl) rfl rfl trivial (fun hHeld => ?_); refine with_tabW mapsheetslaw02_WireUnique.tab6 mapsheetslaw02_WireUnique.bits6 (fun HT_ HW_ => ?_)
                generalize wc.drew = w105 at HO_11 HB HR489 hHeld ⊢
                refine pure_ (i := 0) (N := some 62) (v := ?_) (a' := ?_) #[T7,F7,F7,F7,F7,F7,F7,F7,F7,F7,F7,F7,F7,F7,F7,F7,F7,F7,F7,F7,F7,F7,F7,F7,F7,F7,F7,F7,F7,F7,F7,F7,F7,F7,F7,F7,F7] rfl rfl (any_of HT_.out (by kernel_rfl)) (fun _ _ _ h => h) (Or.inl ⟨by rfl, ?_⟩) ?_ ?_
                rotate_left
                ·intro w'
                 go_simp
                 with_reducible rfl
                rotate_left
                ·simp only [Act.put, List.setIfInBounds_toArray, List.set_cons_zero, List.set_cons_succ, i64_w, i32_w]
                 rfl
                refine pure_ (i := 1) (N := some 63) (v := ?_) (a' := ?_) #[T7,T7,F7,F7,F7,F7,F7,F7,F7,F7,F7,F7,F7,F7,F7,F7,F7,F7,F7,F7,F7,F7,F7,F7,F7,F7,F7,F7,F7,F7,F7,F7,F7,F7,F7,F7,F7] rfl rfl (any_of HT_.out (by kernel_rfl)) (fun _ _ _ h => h) (Or.inl ⟨by rfl, ?_⟩) ?_ ?_
                rotate_left
                ·intro w'
                 go_simp
                 with_reducible rfl
                rotate_left
                ·simp only [Act.put, List.setIfInBounds_toArray, List.set_cons_zero, List.set_cons_succ, i64_w, i32_w]
                 rfl
                refine pure_ (i := 2) (N := some 64) (v := ?_) (a' := ?_) #[T7,T7,T7,F7,F7,F7,F7,F7,F7,F7,F7,F7,F7,F7,F7,F7,F7,F7,F7,F7,F7,F7,F7,F7,F7,F7,F7,F7,F7,F7,F7,F7,F7,F7,F7,F7,F7] rfl rfl (any_of HT_.out (by kernel_rfl)) (fun _ _ _ h => h) (Or.inl ⟨by rfl, ?_⟩) ?_ ?_
                rotate_left
                ·intro w'
                 go_simp
                 with_reducible rfl
                rotate_left
                ·simp only [Act.put, List.setIfInBounds_toArray, List.set_cons_zero, List.set_cons_succ, i64_w, i32_w]
                 rfl
                refine pure_ (i := 3) (N := some 65) (v := undef) (a' := ?_) #[T7,T7,T7,T7,F7,F7,F7,F7,F7,F7,F7,F7,F7,F7,F7,F7,F7,F7,F7,F7,F7,F7,F7,F7,F7,F7,F7,F7,F7,F7,F7,F7,F7,F7,F7,F7,F7] rfl rfl (any_of HT_.out (by kernel_rfl)) (fun _ _ _ h => h) (Or.inr ⟨by rfl, rfl⟩) ?_ ?_
                rotate_left
                ·simp only [Act.put, List.setIfInBounds_toArray, List.set_cons_zero, List.set_cons_succ, i64_w, i32_w]
                 rfl
                refine pure_ (i := 4) (N := some 66) (v := undef) (a' := ?_) #[T7,T7,T7,T7,T7,F7,F7,F7,F7,F7,F7,F7,F7,F7,F7,F7,F7,F7,F7,F7,F7,F7,F7,F7,F7,F7,F7,F7,F7,F7,F7,F7,F7,F7,F7,F7,F7] rfl rfl (any_of HT_.out (by kernel_rfl)) (fun _ _ _ h => h) (Or.inr ⟨by rfl, rfl⟩) ?_ ?_
                rotate_left
                ·simp only [Act.put, List.setIfInBounds_toArray, List.set_cons_zero, List.set_cons_succ, i64_w, i32_w]
                 rfl
                refine pure_ (i := 5) (N := some 67) (v := undef) (a' := ?_) #[T7,T7,T7,T7,T7,T7,F7,F7,F7,F7,F7,F7,F7,F7,F7,F7,F7,F7,F7,F7,F7,F7,F7,F7,F7,F7,F7,F7,F7,F7,F7,F7,F7,F7,F7,F7,F7] rfl rfl (any_of HT_.out (by kernel_rfl)) (fun _ _ _ h => h) (Or.inr ⟨by rfl, rfl⟩) ?_ ?_
                rotate_left
                ·simp only [Act.put, List.setIfInBounds_toArray, List.set_cons_zero, List.set_cons_succ, i64_w, i32_w]
                 rfl
                refine pure_ (i := 6) (N := some 68) (v := undef) (a' := ?_) #[T7,T7,T7,T7,T7,T7,T7,F7,F7,F7,F7,F7,F7,F7,F7,F7,F7,F7,F7,F7,F7,F7,F7,F7,F7,F7,F7,F7,F7,F7,F7,F7,F7,F7,F7,F7,F7] rfl rfl (any_of HT_.out (by kernel_rfl)) (fun _ _ _ h => h) (Or.inr ⟨by rfl, rfl⟩) ?_ ?_
                rotate_left
                ·simp only [Act.put, List.setIfInBounds_toArray, List.set_cons_zero, List.set_cons_succ, i64_w, i32_w]
                 rfl
                refine pure_ (i := 7) (N := some 69) (v := undef) (a' := ?_) #[T7,T7,T7,T7,T7,T7,T7,T7,F7,F7,F7,F7,F7,F7,F7,F7,F7,F7,F7,F7,F7,F7,F7,F7,F7,F7,F7,F7,F7,F7,F7,F7,F7,F7,F7,F7,F7] rfl rfl (any_of HT_.out (by kernel_rfl)) (fun _ _ _ h => h) (Or.inr ⟨by rfl, rfl⟩) ?_ ?_
                rotate_left
                ·simp only [Act.put, List.setIfInBounds_toArray, List.set_cons_zero, List.set_cons_succ, i64_w, i32_w]
                 rfl
                refine pure_ (i := 8) (N := some 70) (v := undef) (a' := ?_) #[T7,T7,T7,T7,T7,T7,T7,T7,T7,F7,F7,F7,F7,F7,F7,F7,F7,F7,F7,F7,F7,F7,F7,F7,F7,F7,F7,F7,F7,F7,F7,F7,F7,F7,F7,F7,F7] rfl rfl (any_of HT_.out (by kernel_rfl)) (fun _ _ _ h => h) (Or.inr ⟨by rfl, rfl⟩) ?_ ?_
                rotate_left
                ·simp only [Act.put, List.setIfInBounds_toArray, List.set_cons_zero, List.set_cons_succ, i64_w, i32_w]
                 rfl
                refine pure_ (i := 9) (N := some 71) (v := undef) (a' := ?_) #[T7,T7,T7,T7,T7,T7,T7,T7,T7,T7,F7,F7,F7,F7,F7,F7,F7,F7,F7,F7,F7,F7,F7,F7,F7,F7,F7,F7,F7,F7,F7,F7,F7,F7,F7,F7,F7] rfl rfl (any_of HT_.out (by kernel_rfl)) (fun _ _ _ h => h) (Or.inr ⟨by rfl, rfl⟩) ?_ ?_
                rotate_left
                ·simp only [Act.put, List.setIfInBounds_toArray, List.set_cons_zero, List.set_cons_succ, i64_w, i32_w]
                 rfl
                refine pure_ (i := 10) (N := some 72) (v := ?_) (a' := ?_) #[T7,T7,T7,T7,T7,T7,T7,T7,T7,T7,T7,F7,F7,F7,F7,F7,F7,F7,F7,F7,F7,F7,F7,F7,F7,F7,F7,F7,F7,F7,F7,F7,F7,F7,F7,F7,F7] rfl rfl (any_of HT_.out (by kernel_rfl)) (fun _ _ _ h => h) (Or.inl ⟨by rfl, ?_⟩) ?_ ?_
                rotate_left
                ·intro w'
                 go_simp
                 with_reducible rfl
                rotate_left
                ·simp only [Act.put, List.setIfInBounds_toArray, List.set_cons_zero, List.set_cons_succ, i64_w, i32_w]
                 rfl
                refine pure_ (i := 11) (N := some 73) (v := ?_) (a' := ?_) #[T7,T7,T7,T7,T7,T7,T7,T7,T7,T7,T7,T7,F7,F7,F7,F7,F7,F7,F7,F7,F7,F7,F7,F7,F7,F7,F7,F7,F7,F7,F7,F7,F7,F7,F7,F7,F7] rfl rfl (any_of HT_.out (by kernel_rfl)) (fun _ _ _ h => h) (Or.inl ⟨by rfl, ?_⟩) ?_ ?_
                rotate_left
                ·intro w'
                 go_simp
                 with_reducible rfl
                rotate_left
                ·simp only [Act.put, List.setIfInBounds_toArray, List.set_cons_zero, List.set_cons_succ, i64_w, i32_w]
                 rfl
                refine pure_ (i := 12) (N := some 74) (v := ?_) (a' := ?_) #[T7,T7,T7,T7,T7,T7,T7,T7,T7,T7,T7,T7,T7,F7,F7,F7,F7,F7,F7,F7,F7,F7,F7,F7,F7,F7,F7,F7,F7,F7,F7,F7,F7,F7,F7,F7,F7] rfl rfl (any_of HT_.out (by kernel_rfl)) (fun _ _ _ h => h) (Or.inl ⟨by rfl, ?_⟩) ?_ ?_
                rotate_left
                ·intro w'
                 go_simp
                 with_reducible rfl
                rotate_left
                ·simp only [Act.put, List.setIfInBounds_toArray, List.set_cons_zero, List.set_cons_succ, i64_w, i32_w]
                 rfl
                refine pure_ (i := 13) (N := some 75) (v := ?_) (a' := ?_) #[T7,T7,T7,T7,T7,T7,T7,T7,T7,T7,T7,T7,T7,T7,F7,F7,F7,F7,F7,F7,F7,F7,F7,F7,F7,F7,F7,F7,F7,F7,F7,F7,F7,F7,F7,F7,F7] rfl rfl (any_of HT_.out (by kernel_rfl)) (fun _ _ _ h => h) (Or.inl ⟨by rfl, ?_⟩) ?_ ?_
                rotate_left
                ·intro w'
                 go_simp
                 with_reducible rfl
                rotate_left
                ·simp only [Act.put, List.setIfInBounds_toArray, List.set_cons_zero, List.set_cons_succ, i64_w, i32_w]
                 rfl
                refine pure_ (i := 14) (N := some 76) (v := ?_) (a' := ?_) #[T7,T7,T7,T7,T7,T7,T7,T7,T7,T7,T7,T7,T7,T7,T7,F7,F7,F7,F7,F7,F7,F7,F7,F7,F7,F7,F7,F7,F7,F7,F7,F7,F7,F7,F7,F7,F7] rfl rfl (any_of HT_.out (by kernel_rfl)) (fun _ _ _ h => h) (Or.inl ⟨by rfl, ?_⟩) ?_ ?_
                rotate_left
                ·intro w'
                 go_simp
                 with_reducible rfl
                rotate_left
                ·simp only [Act.put, List.setIfInBounds_toArray, List.set_cons_zero, List.set_cons_succ, i64_w, i32_w]
                 rfl
                refine pure_ (i := 15) (N := some 77) (v := ?_) (a' := ?_) #[T7,T7,T7,T7,T7,T7,T7,T7,T7,T7,T7,T7,T7,T7,T7,T7,F7,F7,F7,F7,F7,F7,F7,F7,F7,F7,F7,F7,F7,F7,F7,F7,F7,F7,F7,F7,F7] rfl rfl (any_of HT_.out (by kernel_rfl)) (fun _ _ _ h => h) (Or.inl ⟨by rfl, ?_⟩) ?_ ?_
                rotate_left
                ·intro w'
                 go_simp
                 with_reducible rfl
                rotate_left
                ·simp only [Act.put, List.setIfInBounds_toArray, List.set_cons_zero, List.set_cons_succ, i64_w, i32_w]
                 rfl
                refine pure_ (i := 17) (N := some 79) (v := ?_) (a' := ?_) #[T7,T7,T7,T7,T7,T7,T7,T7,T7,T7,T7,T7,T7,T7,T7,T7,F7,T7,F7,F7,F7,F7,F7,F7,F7,F7,F7,F7,F7,F7,F7,F7,F7,F7,F7,F7,F7] rfl rfl (any_of HT_.out (by kernel_rfl)) (fun _ _ _ h => h) (Or.inl ⟨by rfl, ?_⟩) ?_ ?_
                rotate_left
                ·intro w'
                 go_simp
                 with_reducible rfl
                rotate_left
                ·simp only [Act.put, List.setIfInBounds_toArray, List.set_cons_zero, List.set_cons_succ, i64_w, i32_w]
                 rfl
                refine pure_ (i := 18) (N := some 80) (v := ?_) (a' := ?_) #[T7,T7,T7,T7,T7,T7,T7,T7,T7,T7,T7,T7,T7,T7,T7,T7,F7,T7,T7,F7,F7,F7,F7,F7,F7,F7,F7,F7,F7,F7,F7,F7,F7,F7,F7,F7,F7] rfl rfl (any_of HT_.out (by kernel_rfl)) (fun _ _ _ h => h) (Or.inl ⟨by rfl, ?_⟩) ?_ ?_
                rotate_left
                ·intro w'
                 go_simp
                 with_reducible rfl
                rotate_left
                ·simp only [Act.put, List.setIfInBounds_toArray, List.set_cons_zero, List.set_cons_succ, i64_w, i32_w]
                 rfl
                refine pure_ (i := 19) (N := some 81) (v := ?_) (a' := ?_) #[T7,T7,T7,T7,T7,T7,T7,T7,T7,T7,T7,T7,T7,T7,T7,T7,F7,T7,T7,T7,F7,F7,F7,F7,F7,F7,F7,F7,F7,F7,F7,F7,F7,F7,F7,F7,F7] rfl rfl (any_of HT_.out (by kernel_rfl)) (fun _ _ _ h => h) (Or.inl ⟨by rfl, ?_⟩) ?_ ?_
                rotate_left
                ·intro w'
                 go_simp
                 with_reducible rfl
                rotate_left
                ·simp only [Act.put, List.setIfInBounds_toArray, List.set_cons_zero, List.set_cons_succ, i64_w, i32_w]
                 rfl
                refine one_ (i := 16) (N := some 78) #[T7,T7,T7,T7,T7,T7,T7,T7,T7,T7,T7,T7,T7,T7,T7,T7,T7,T7,T7,T7,F7,F7,F7,F7,F7,F7,F7,F7,F7,F7,F7,F7,F7,F7,F7,F7,F7] rfl rfl (one_of HT_.out (by kernel_rfl)) (by decide) (fun K hK => ?_)
                refine goes_ Try.func19 (by kernel_rfl) rfl #[.slice none 0 0, .string t454] (by rfl) rfl rfl (by (try simp only [List.map_toArray, List.map_cons, List.map_nil]); first | done | rfl | (simp only [List.length_drop, List.length_take]; rfl)) ?_
                refine (wire_PutText.calls _ _ ([] : List Int) t454 t486 _ ?side1 ?side2 A90.out).mono ?_
                (case side1 => exact Kd.C_nil _ _)
                (case side2 => exact Nat.le_refl _)
                rintro e w107 ⟨v487, rfl, ho0, hb⟩
                refine ⟨_, rfl, ?_⟩
                have n0_ := Aside0.mk (Kd.R_below (by (with_reducible repeat (first | apply Kd.R_alloc | apply Kd.R_drewN | apply Kd.R_drew)); exact HO_11.out) hb)
                have n1_ := Aside0.mk (Kd.R_lower ho0 (below_size (by repeat (first | (with_reducible first | exact HB.out | apply below_alloc | apply pw_below_drewN | apply below_drew1) | exact HB.out))))
                have n2_ := Aside0.mk (below_step (by repeat (first | (with_reducible first | exact HB.out | apply below_alloc | apply pw_below_drewN | apply below_drew1) | exact HB.out)) hb)
                clear HO_11
                clear HB
                have HO_11 := n0_
                have HO488 := n1_
                have HB := n2_
                clear n0_ n1_ n2_
                (try clear hb)
                (try clear hb2)
                (try clear hk)
                (try clear hi)
                (try clear ho0)
                obtain ⟨Ao108, co108, eo108⟩ := Kd.R_slice HO488.out
                (first | subst eo108 | (injection eo108 with f1_ f2_ f3_; have f4_ := f1_.symm; have f5_ := f3_.symm; clear f1_ f2_ f3_; subst f4_; subst f5_))
                refine hK.out _ _ trivial (fun hHeld => ?_)
                clear hK K
                refine norm_ (a' := ?_) ?_ ?_
                rotate_left
                ·show Act.put _ (some 78) _ = _
                 simp only [Act.put, List.setIfInBounds_toArray, List.set_cons_zero, List.set_cons_succ, i64_w, i32_w]
                 rfl
                refine one_ (i := 20) (N := some 82) #[T7,T7,T7,T7,T7,T7,T7,T7,T7,T7,T7,T7,T7,T7,T7,T7,T7,T7,T7,T7,T7,F7,F7,F7,F7,F7,F7,F7,F7,F7,F7,F7,F7,F7,F7,F7,F7] rfl rfl (one_of HT_.out (by kernel_rfl)) (by decide) (fun K hK => ?_)
                refine goes_ Try.func13 (by kernel_rfl) rfl #[.slice Ao108 t486.length co108, .slice A0 (l0.take (t455 : Int).toNat).length c0] (by rfl) rfl rfl (by (try simp only [List.map_toArray, List.map_cons, List.map_nil]); first | done | (rw [show (l0.take (t455 : Int).toNat).length = t455.toNat from (by rw [List.length_take]; have h_ : (t455 : Int) ≤ (l0.length : Int) := of_decide_eq_true (by first | (with_reducible assumption) | assumption); omega)] <;> rfl) | rfl | (simp only [List.length_drop, List.length_take]; rfl)) ?_
                with_reducible refine (mapsheetsref02_Same.calls kj5 _ _ t486 _ _ (l0.take (t455 : Int).toNat) true _ ?side1 ?side2 ?side3 ?side4 A93.out).mono ?_
                (case side1 => repeat (first | exact (Kd.R_reads' HO488.out).2.2 | (with_reducible refine Kd.C_alloc ?_ _) | (with_reducible refine Kd.C_drewN ?_ _) | (with_reducible refine Kd.C_drew ?_)))
                (case side2 => exact (Kd.R_reads' HO488.out).2.1)
                (case side3 => repeat (first | exact (Kd.C_below HR489.out HB.out) | (with_reducible refine Kd.C_alloc ?_ _) | (with_reducible refine Kd.C_drewN ?_ _) | (with_reducible refine Kd.C_drew ?_)))
                (case side4 => exact HC489.out)
                rintro e w' ⟨rfl, ⟨nd, rfl⟩⟩
                refine ⟨_, rfl, ?_⟩
                obtain ⟨Ao109, co109, eo109⟩ := Kd.R_slice HO_11.out
                (first | subst eo109 | (injection eo109 with f1_ f2_ f3_; have f4_ := f1_.symm; have f5_ := f3_.symm; clear f1_ f2_ f3_; subst f4_; subst f5_))
                refine hK.out _ _ trivial (fun hHeld => ?_)
                clear hK K
                refine norm_ (a' := ?_) ?_ ?_
                rotate_left
                ·show Act.put _ (some 82) _ = _
                 simp only [Act.put, List.setIfInBounds_toArray, List.set_cons_zero, List.set_cons_succ, i64_w, i32_w]
                 rfl
                refine pure_ (i := 21) (N := some 83) (v := ?_) (a' := ?_) #[T7,T7,T7,T7,T7,T7,T7,T7,T7,T7,T7,T7,T7,T7,T7,T7,T7,T7,T7,T7,T7,T7,F7,F7,F7,F7,F7,F7,F7,F7,F7,F7,F7,F7,F7,F7,F7] rfl rfl (any_of HT_.out (by kernel_rfl)) (fun _ _ _ h => h) (Or.inl ⟨by rfl, ?_⟩) ?_ ?_
                rotate_left
                ·intro w'
                 go_simp
                 with_reducible rfl
                rotate_left
                ·simp only [Act.put, List.setIfInBounds_toArray, List.set_cons_zero, List.set_cons_succ, i64_w, i32_w]
                 rfl
                refine pure_ (i := 22) (N := some 84) (v := ?_) (a' := ?_) #[T7,T7,T7,T7,T7,T7,T7,T7,T7,T7,T7,T7,T7,T7,T7,T7,T7,T7,T7,T7,T7,T7,T7,F7,F7,F7,F7,F7,F7,F7,F7,F7,F7,F7,F7,F7,F7] rfl rfl (any_of HT_.out (by kernel_rfl)) (fun _ _ _ h => h) (Or.inl ⟨by rfl, ?_⟩) ?_ ?_
                rotate_left
                ·intro w'
                 go_simp
                 with_reducible rfl
                rotate_left
                ·simp only [Act.put, List.setIfInBounds_toArray, List.set_cons_zero, List.set_cons_succ, i64_w, i32_w]
                 rfl
                refine pure_ (i := 23) (N := some 85) (v := ?_) (a' := ?_) #[T7,T7,T7,T7,T7,T7,T7,T7,T7,T7,T7,T7,T7,T7,T7,T7,T7,T7,T7,T7,T7,T7,T7,T7,F7,F7,F7,F7,F7,F7,F7,F7,F7,F7,F7,F7,F7] rfl rfl (any_of HT_.out (by kernel_rfl)) (fun _ _ _ h => h) (Or.inl ⟨by rfl, ?_⟩) ?_ ?_
                rotate_left
                ·intro w'
                 go_simp
                 with_reducible rfl
                rotate_left
                ·simp only [Act.put, List.setIfInBounds_toArray, List.set_cons_zero, List.set_cons_succ, i64_w, i32_w]
                 rfl
                refine pure_ (i := 24) (N := some 86) (v := ?_) (a' := ?_) #[T7,T7,T7,T7,T7,T7,T7,T7,T7,T7,T7,T7,T7,T7,T7,T7,T7,T7,T7,T7,T7,T7,T7,T7,T7,F7,F7,F7,F7,F7,F7,F7,F7,F7,F7,F7,F7] rfl rfl (any_of HT_.out (by kernel_rfl)) (fun _ _ _ h => h) (Or.inl ⟨by rfl, ?_⟩) ?_ ?_
                rotate_left
                ·intro w'
                 go_simp
                 with_reducible rfl
                rotate_left
                ·simp only [Act.put, List.setIfInBounds_toArray, List.set_cons_zero, List.set_cons_succ, i64_w, i32_w]
                 rfl
                refine pure_ (i := 25) (N := some 87) (v := ?_) (a' := ?_) #[T7,T7,T7,T7,T7,T7,T7,T7,T7,T7,T7,T7,T7,T7,T7,T7,T7,T7,T7,T7,T7,T7,T7,T7,T7,T7,F7,F7,F7,F7,F7,F7,F7,F7,F7,F7,F7] rfl rfl (any_of HT_.out (by kernel_rfl)) (fun _ _ _ h => h) (Or.inl ⟨by rfl, ?_⟩) ?_ ?_
                rotate_left
                ·intro w'
                 go_simp
                 with_reducible rfl
                rotate_left
                ·simp only [Act.put, List.setIfInBounds_toArray, List.set_cons_zero, List.set_cons_succ, i64_w, i32_w]
                 rfl
                refine pure_ (i := 26) (N := some 88) (v := ?_) (a' := ?_) #[T7,T7,T7,T7,T7,T7,T7,T7,T7,T7,T7,T7,T7,T7,T7,T7,T7,T7,T7,T7,T7,T7,T7,T7,T7,T7,T7,F7,F7,F7,F7,F7,F7,F7,F7,F7,F7] rfl rfl (any_of HT_.out (by kernel_rfl)) (fun _ _ _ h => h) (Or.inl ⟨by rfl, ?_⟩) ?_ ?_
                rotate_left
                ·intro w'
                 go_simp
                 with_reducible rfl
                rotate_left
                ·simp only [Act.put, List.setIfInBounds_toArray, List.set_cons_zero, List.set_cons_succ, i64_w, i32_w]
                 rfl
                refine pure_ (i := 27) (N := some 89) (v := ?_) (a' := ?_) #[T7,T7,T7,T7,T7,T7,T7,T7,T7,T7,T7,T7,T7,T7,T7,T7,T7,T7,T7,T7,T7,T7,T7,T7,T7,T7,T7,T7,F7,F7,F7,F7,F7,F7,F7,F7,F7] rfl rfl (any_of HT_.out (by kernel_rfl)) (fun _ _ _ h => h) (Or.inl ⟨by rfl, ?_⟩) ?_ ?_
                rotate_left
                ·intro w'
                 go_simp
                 with_reducible rfl
                rotate_left
                ·simp only [Act.put, List.setIfInBounds_toArray, List.set_cons_zero, List.set_cons_succ, i64_w, i32_w]
                 rfl
                refine pure_ (i := 28) (N := some 90) (v := ?_) (a' := ?_) #[T7,T7,T7,T7,T7,T7,T7,T7,T7,T7,T7,T7,T7,T7,T7,T7,T7,T7,T7,T7,T7,T7,T7,T7,T7,T7,T7,T7,T7,F7,F7,F7,F7,F7,F7,F7,F7] rfl rfl (any_of HT_.out (by kernel_rfl)) (fun _ _ _ h => h) (Or.inl ⟨by rfl, ?_⟩) ?_ ?_
                rotate_left
                ·intro w'
                 go_simp
                 with_reducible rfl
                rotate_left
                ·simp only [Act.put, List.setIfInBounds_toArray, List.set_cons_zero, List.set_cons_succ, i64_w, i32_w]
                 rfl
                refine pure_ (i := 30) (N := some 92) (v := ?_) (a' := ?_) #[T7,T7,T7,T7,T7,T7,T7,T7,T7,T7,T7,T7,T7,T7,T7,T7,T7,T7,T7,T7,T7,T7,T7,T7,T7,T7,T7,T7,T7,F7,T7,F7,F7,F7,F7,F7,F7] rfl rfl (any_of HT_.out (by kernel_rfl)) (fun _ _ _ h => h) (Or.inl ⟨by rfl, ?_⟩) ?_ ?_
                rotate_left
                ·intro w'
                 go_simp
                 with_reducible rfl
                rotate_left
                ·simp only [Act.put, List.setIfInBounds_toArray, List.set_cons_zero, List.set_cons_succ, i64_w, i32_w]
                 rfl
                refine pure_ (i := 31) (N := some 93) (v := ?_) (a' := ?_) #[T7,T7,T7,T7,T7,T7,T7,T7,T7,T7,T7,T7,T7,T7,T7,T7,T7,T7,T7,T7,T7,T7,T7,T7,T7,T7,T7,T7,T7,F7,T7,T7,F7,F7,F7,F7,F7] rfl rfl (any_of HT_.out (by kernel_rfl)) (fun _ _ _ h => h) (Or.inl ⟨by rfl, ?_⟩) ?_ ?_
                rotate_left
                ·intro w'
                 go_simp
                 with_reducible rfl
                rotate_left
                ·simp only [Act.put, List.setIfInBounds_toArray, List.set_cons_zero, List.set_cons_succ, i64_w, i32_w]
                 rfl
                refine pure_ (i := 32) (N := some 94) (v := ?_) (a' := ?_) #[T7,T7,T7,T7,T7,T7,T7,T7,T7,T7,T7,T7,T7,T7,T7,T7,T7,T7,T7,T7,T7,T7,T7,T7,T7,T7,T7,T7,T7,F7,T7,T7,T7,F7,F7,F7,F7] rfl rfl (any_of HT_.out (by kernel_rfl)) (fun _ _ _ h => h) (Or.inl ⟨by rfl, ?_⟩) ?_ ?_
                rotate_left
                ·intro w'
                 go_simp
                 with_reducible rfl
                rotate_left
                ·simp only [Act.put, List.setIfInBounds_toArray, List.set_cons_zero, List.set_cons_succ, i64_w, i32_w]
                 rfl
                refine one_ (i := 29) (N := some 91) #[T7,T7,T7,T7,T7,T7,T7,T7,T7,T7,T7,T7,T7,T7,T7,T7,T7,T7,T7,T7,T7,T7,T7,T7,T7,T7,T7,T7,T7,T7,T7,T7,T7,F7,F7,F7,F7] rfl rfl (one_of HT_.out (by kernel_rfl)) (by decide) (fun K hK => ?_)
                refine goes_ Try.func23 (by kernel_rfl) rfl #[.slice none 0 0, .slice Ao109 t457.length co109] (by rfl) rfl rfl (by (try simp only [List.map_toArray, List.map_cons, List.map_nil]); first | done | rfl | (simp only [List.length_drop, List.length_take]; rfl)) ?_
                refine (wire_PutList.calls kj5 _ _ ([] : List Int) _ _ t457 t491 _ ?side1 ?side2 ?side3 ?side4 A96.out).mono ?_
                (case side1 => exact Kd.C_nil _ _)
                (case side2 => exact Nat.le_refl _)
                (case side3 => repeat (first | exact (Kd.R_reads' HO_11.out).2.2 | (with_reducible refine Kd.C_alloc ?_ _) | (with_reducible refine Kd.C_drewN ?_ _) | (with_reducible refine Kd.C_drew ?_)))
                (case side4 => exact (Kd.R_reads' HO_11.out).2.1)
                rintro e w110 ⟨v492, rfl, ho0, hb⟩
                refine ⟨_, rfl, ?_⟩
                have n0_ := Aside0.mk (Kd.R_below (by (with_reducible repeat (first | apply Kd.R_alloc | apply Kd.R_drewN | apply Kd.R_drew)); exact HO_11.out) hb)
                have n1_ := Aside0.mk (Kd.R_elder' (by (with_reducible repeat (first | apply Kd.R_alloc | apply Kd.R_drewN | apply Kd.R_drew)); exact HO488.out) (Kd.R_base ho0) hb)
                have n2_ := Aside0.mk (Kd.R_lower (Kd.R_new' ho0 (Kd.R_lt (by (with_reducible repeat (first | apply Kd.R_alloc | apply Kd.R_drewN | apply Kd.R_drew)); exact HO488.out))) (below_size (by repeat (first | (with_reducible first | exact HB.out | apply below_alloc | apply pw_below_drewN | apply below_drew1) | exact HB.out))))
                have n3_ := Aside0.mk (below_step (by repeat (first | (with_reducible first | exact HB.out | apply below_alloc | apply pw_below_drewN | apply below_drew1) | exact HB.out)) hb)
                clear HO_11
                clear HO488
                clear HB
                have HO_11 := n0_
                have HO488 := n1_
                have HO493 := n2_
                have HB := n3_
                clear n0_ n1_ n2_ n3_
                (try clear hb)
                (try clear hb2)
                (try clear hk)
                (try clear hi)
                (try clear ho0)
                obtain ⟨Ao112, co112, eo112⟩ := Kd.R_slice HO493.out
                (first | subst eo112 | (injection eo112 with f1_ f2_ f3_; have f4_ := f1_.symm; have f5_ := f3_.symm; clear f1_ f2_ f3_; subst f4_; subst f5_))
                refine hK.out _ _ trivial (fun hHeld => ?_)
                clear hK K
                refine norm_ (a' := ?_) ?_ ?_
                rotate_left
                ·show Act.put _ (some 91) _ = _
                 simp only [Act.put, List.setIfInBounds_toArray, List.set_cons_zero, List.set_cons_succ, i64_w, i32_w]
                 rfl
                refine one_ (i := 33) (N := some 95) #[T7,T7,T7,T7,T7,T7,T7,T7,T7,T7,T7,T7,T7,T7,T7,T7,T7,T7,T7,T7,T7,T7,T7,T7,T7,T7,T7,T7,T7,T7,T7,T7,T7,T7,F7,F7,F7] rfl rfl (one_of HT_.out (by kernel_rfl)) (by decide) (fun K hK => ?_)
                refine goes_ Try.func13 (by kernel_rfl) rfl #[.slice Ao112 t491.length co112, .slice A0 (l0.take (t458 : Int).toNat).length c0] (by rfl) rfl rfl (by (try simp only [List.map_toArray, List.map_cons, List.map_nil]); first | done | (rw [show (l0.take (t458 : Int).toNat).length = t458.toNat from (by rw [List.length_take]; have h_ : (t458 : Int) ≤ (l0.length : Int) := of_decide_eq_true (by first | (with_reducible assumption) | assumption); omega)] <;> rfl) | rfl | (simp only [List.length_drop, List.length_take]; rfl)) ?_
                with_reducible refine (mapsheetsref02_Same.calls kj5 _ _ t491 _ _ (l0.take (t458 : Int).toNat) true _ ?side1 ?side2 ?side3 ?side4 A99.out).mono ?_
                (case side1 => repeat (first | exact (Kd.R_reads' HO493.out).2.2 | (with_reducible refine Kd.C_alloc ?_ _) | (with_reducible refine Kd.C_drewN ?_ _) | (with_reducible refine Kd.C_drew ?_)))
                (case side2 => exact (Kd.R_reads' HO493.out).2.1)
                (case side3 => repeat (first | exact (Kd.C_below HR494.out HB.out) | (with_reducible refine Kd.C_alloc ?_ _) | (with_reducible refine Kd.C_drewN ?_ _) | (with_reducible refine Kd.C_drew ?_)))
                (case side4 => exact HC494.out)
                rintro e w' ⟨rfl, ⟨nd, rfl⟩⟩
                refine ⟨_, rfl, ?_⟩
                refine hK.out _ _ trivial (fun hHeld => ?_)
                clear hK K
                refine norm_ (a' := ?_) ?_ ?_
                rotate_left
                ·show Act.put _ (some 95) _ = _
                 simp only [Act.put, List.setIfInBounds_toArray, List.set_cons_zero, List.set_cons_succ, i64_w, i32_w]
                 rfl
                refine pure_ (i := 34) (N := some 96) (v := ?_) (a' := ?_) #[T7,T7,T7,T7,T7,T7,T7,T7,T7,T7,T7,T7,T7,T7,T7,T7,T7,T7,T7,T7,T7,T7,T7,T7,T7,T7,T7,T7,T7,T7,T7,T7,T7,T7,T7,F7,F7] rfl rfl (any_of HT_.out (by kernel_rfl)) (fun _ _ _ h => h) (Or.inl ⟨by rfl, ?_⟩) ?_ ?_
                rotate_left
                ·intro w'
                 go_simp
                 with_reducible rfl
                rotate_left
                ·simp only [Act.put, List.setIfInBounds_toArray, List.set_cons_zero, List.set_cons_succ, i64_w, i32_w]
                 rfl
                refine pure_ (i := 35) (N := some 97) (v := ?_) (a' := ?_) #[T7,T7,T7,T7,T7,T7,T7,T7,T7,T7,T7,T7,T7,T7,T7,T7,T7,T7,T7,T7,T7,T7,T7,T7,T7,T7,T7,T7,T7,T7,T7,T7,T7,T7,T7,T7,F7] rfl rfl (any_of HT_.out (by kernel_rfl)) (fun _ _ _ h => h) (Or.inl ⟨by rfl, ?_⟩) ?_ ?_
                rotate_left
                ·intro w'
                 go_simp
                 with_reducible rfl
                rotate_left
                ·simp only [Act.put, List.setIfInBounds_toArray, List.set_cons_zero, List.set_cons_succ, i64_w, i32_w]
                 rfl
                refine pure_ (i := 36) (N := some 98) (v := ?_) (a' := ?_) #[T7,T7,T7,T7,T7,T7,T7,T7,T7,T7,T7,T7,T7,T7,T7,T7,T7,T7,T7,T7,T7,T7,T7,T7,T7,T7,T7,T7,T7,T7,T7,T7,T7,T7,T7,T7,T7] rfl rfl (any_of HT_.out (by kernel_rfl)) (fun _ _ _ h => h) (Or.inl ⟨by rfl, ?_⟩) ?_ ?_
                rotate_left
                ·intro w'
                 go_simp
                 with_reducible rfl
                rotate_left
                ·simp only [Act.put, List.setIfInBounds_toArray, List.set_cons_zero, List.set_cons_succ, i64_w, i32_w]
                 rfl
                refine done_ (done_of HT_.out (by kernel_rfl)) ?_
                try go_wp2_with (first | (go_at_call 16; (with_reducible refine (mapsheetslaw02_awake.calls kj5  t496 _ A104.out).mono ?_); rintro e w113 ⟨rfl, hb⟩; have n0_ := Aside0.mk (Kd.R_below (by (with_reducible repeat (first | apply Kd.R_alloc | apply Kd.R_drewN | apply Kd.R_drew)); exact HO_11.out) hb); have n1_ := Aside0.mk (Kd.R_below (by (with_reducible repeat (first | apply Kd.R_alloc | apply Kd.R_drewN | apply Kd.R_drew)); exact HO488.out) hb); have n2_ := Aside0.mk (Kd.R_below (by (with_reducible repeat (first | apply Kd.R_alloc | apply Kd.R_drewN | apply Kd.R_drew)); exact HO493.out) hb); have n3_ := Aside0.mk (below_step (by repeat (first | (with_reducible first | exact HB.out | apply below_alloc | apply pw_below_drewN | apply below_drew1) | exact HB.out)) hb); clear HO_11; clear HO488; clear HO493; clear HB; have HO_11 := n0_; have HO488 := n1_; have HO493 := n2_; have HB := n3_; clear n0_ n1_ n2_ n3_; (try clear hb); (try clear hb2); (try clear hk); (try clear hi)))
                go_ret
                exact ⟨by first | rfl | (simp [errW_none, errW_some] <;> rfl) | (simp [*, errW_none, errW_some] <;> rfl), by repeat (first | (with_reducible first | exact HB.out | apply below_alloc | apply pw_below_drewN | apply below_drew1) | exact HB.out)⟩
               ·rw [if_neg c103] at H
                exact absurd H (by simp)
              ·rw [if_neg c102] at H
               exact absurd H (by simp)
             ·rw [if_neg c101] at H
              exact absurd H (by simp)
            ·replace c100 := Bool.eq_false_iff.mpr c100
             subst c100
             have H1 : (none) = some r := by rw [if_neg (show ¬ (false = true) by decide)] at H; exact H
             clear H
             have H := H1
             clear H1
             exact absurd H (by simp)
           ·rw [if_neg c98] at H
            exact absurd H (by simp)
          ·rw [if_neg c97] at H
           exact absurd H (by simp)
         ·rw [if_neg c95] at H
          have c95b0 : (t459 == 0) = false := beq_eq_false_iff_ne.mpr c95
          have c95b1 : (t459 != 0) = true := bne_iff_ne.mpr c95
          by_cases c114 : ((t453 == 0) == (decide (t452 > 0))) = true
          ·rw [if_pos c114] at H
           have c114b0 : ((t453 == 0) == (decide (t452 > 0))) = true := c114
           (first | (have c114b3 : decide (0 < t452) = true := by have h_ := c114; rw [show (t453 == 0) = true from by assumption] at h_; simpa using h_) | (have c114b3 : decide (0 < t452) = false := by have h_ := c114; rw [show (t453 == 0) = false from by assumption] at h_; simpa using h_) | skip)
           (try (have c114b1 : decide ((t453 == 0) = (decide (t452 > 0))) = true := by simpa using c114))
           (try (have c114b2 : ((t453 == 0) == (decide (t452 > 0))) = true := by simpa using c114))
           clear c114
           by_cases c115 : ((t456 == 0) == (decide (t455 > 0))) = true
           ·rw [if_pos c115] at H
            have c115b0 : ((t456 == 0) == (decide (t455 > 0))) = true := c115
            (first | (have c115b3 : decide (0 < t455) = true := by have h_ := c115; rw [show (t456 == 0) = true from by assumption] at h_; simpa using h_) | (have c115b3 : decide (0 < t455) = false := by have h_ := c115; rw [show (t456 == 0) = false from by assumption] at h_; simpa using h_) | skip)
            (try (have c115b1 : decide ((t456 == 0) = (decide (t455 > 0))) = true := by simpa using c115))
            (try (have c115b2 : ((t456 == 0) == (decide (t455 > 0))) = true := by simpa using c115))
            clear c115
            by_cases c116 : ((t459 == 0) == (decide (t458 > 0))) = true
            ·rw [if_pos c116] at H
             have c116b0 : ((t459 == 0) == (decide (t458 > 0))) = true := c116
             (first | (have c116b3 : decide (0 < t458) = true := by have h_ := c116; rw [show (t459 == 0) = true from by assumption] at h_; simpa using h_) | (have c116b3 : decide (0 < t458) = false := by have h_ := c116; rw [show (t459 == 0) = false from by assumption] at h_; simpa using h_) | skip)
             (try (have c116b1 : decide ((t459 == 0) = (decide (t458 > 0))) = true := by simpa using c116))
             (try (have c116b2 : ((t459 == 0) == (decide (t458 > 0))) = true := by simpa using c116))
             clear c116
             replace H := Option.bind_eq_some_iff.mp H
             obtain ⟨t497, A1170, H⟩ := H
             (try dsimp only at H)
             have A117 := Aside0.mk A1170
             clear A1170
             obtain rfl := Option.some.inj H
             try go_wp2
             have n0_ := Aside0.mk (Kd.R_drew HO_11.out)
             have n1_ := Aside0.mk (below_drew1 HB.out)
             clear HO_11
             clear HB
             have HO_11 := n0_
             have HB := n1_
             clear n0_ n1_
             obtain ⟨i0119, hi0119, _, hsz119, _⟩ := info_parts info5
             obtain ⟨hcut119, hA119, hC119⟩ := print_take_of (P := Try.prog) (Value.int .u8) 0 22 5 .i64 Try.underlying22 hi0119 hsz119 A0 c0 l0 t455 (of_decide_eq_true (by first | (with_reducible assumption) | assumption)) (of_decide_eq_true (by first | (with_reducible assumption) | assumption)) HC0.out
             have HR489 := Aside0.mk (Kd.C_of_reads (h1 := fun _ => rfl) (hA119 _ (Kd.reads_of_C HR0.out)))
             have HC489 := Aside0.mk hC119
             clear hA119 hC119 hi0119 hsz119
             refine start_ (n := 37) (S := fun w' => True) (ds := []) #[F7,F7,F7,F7,F7,F7,F7,F7,F7,F7,F7,F7,F7,F7,F7,F7,F7,F7,F7,F7,F7,F7,F7,F7,F7,F7,F7,F7,F7,F7,F7,F7,F7,F7,F7,F7,F7] (by kernel_rfl) rfl rfl trivial (fun hHeld => ?_); refine with_tabW mapsheetslaw02_WireUnique.tab6 mapsheetslaw02_WireUnique.bits6 (fun HT_ HW_ => ?_)
             generalize wc.drew = w118 at HO_11 HB HR489 hHeld ⊢
             refine pure_ (i := 0) (N := some 62) (v := ?_) (a' := ?_) #[T7,F7,F7,F7,F7,F7,F7,F7,F7,F7,F7,F7,F7,F7,F7,F7,F7,F7,F7,F7,F7,F7,F7,F7,F7,F7,F7,F7,F7,F7,F7,F7,F7,F7,F7,F7,F7] rfl rfl (any_of HT_.out (by kernel_rfl)) (fun _ _ _ h => h) (Or.inl ⟨by rfl, ?_⟩) ?_ ?_
             rotate_left
             ·intro w'
              go_simp
              with_reducible rfl
             rotate_left
             ·simp only [Act.put, List.setIfInBounds_toArray, List.set_cons_zero, List.set_cons_succ, i64_w, i32_w]
              rfl
             refine pure_ (i := 1) (N := some 63) (v := ?_) (a' := ?_) #[T7,T7,F7,F7,F7,F7,F7,F7,F7,F7,F7,F7,F7,F7,F7,F7,F7,F7,F7,F7,F7,F7,F7,F7,F7,F7,F7,F7,F7,F7,F7,F7,F7,F7,F7,F7,F7] rfl rfl (any_of HT_.out (by kernel_rfl)) (fun _ _ _ h => h) (Or.inl ⟨by rfl, ?_⟩) ?_ ?_
             rotate_left
             ·intro w'
              go_simp
              with_reducible rfl
             rotate_left
             ·simp only [Act.put, List.setIfInBounds_toArray, List.set_cons_zero, List.set_cons_succ, i64_w, i32_w]
              rfl
             refine pure_ (i := 2) (N := some 64) (v := ?_) (a' := ?_) #[T7,T7,T7,F7,F7,F7,F7,F7,F7,F7,F7,F7,F7,F7,F7,F7,F7,F7,F7,F7,F7,F7,F7,F7,F7,F7,F7,F7,F7,F7,F7,F7,F7,F7,F7,F7,F7] rfl rfl (any_of HT_.out (by kernel_rfl)) (fun _ _ _ h => h) (Or.inl ⟨by rfl, ?_⟩) ?_ ?_
             rotate_left
             ·intro w'
              go_simp
              with_reducible rfl
             rotate_left
             ·simp only [Act.put, List.setIfInBounds_toArray, List.set_cons_zero, List.set_cons_succ, i64_w, i32_w]
              rfl
             refine pure_ (i := 3) (N := some 65) (v := undef) (a' := ?_) #[T7,T7,T7,T7,F7,F7,F7,F7,F7,F7,F7,F7,F7,F7,F7,F7,F7,F7,F7,F7,F7,F7,F7,F7,F7,F7,F7,F7,F7,F7,F7,F7,F7,F7,F7,F7,F7] rfl rfl (any_of HT_.out (by kernel_rfl)) (fun _ _ _ h => h) (Or.inr ⟨by rfl, rfl⟩) ?_ ?_
             rotate_left
             ·simp only [Act.put, List.setIfInBounds_toArray, List.set_cons_zero, List.set_cons_succ, i64_w, i32_w]
              rfl
             refine pure_ (i := 4) (N := some 66) (v := undef) (a' := ?_) #[T7,T7,T7,T7,T7,F7,F7,F7,F7,F7,F7,F7,F7,F7,F7,F7,F7,F7,F7,F7,F7,F7,F7,F7,F7,F7,F7,F7,F7,F7,F7,F7,F7,F7,F7,F7,F7] rfl rfl (any_of HT_.out (by kernel_rfl)) (fun _ _ _ h => h) (Or.inr ⟨by rfl, rfl⟩) ?_ ?_
             rotate_left
             ·simp only [Act.put, List.setIfInBounds_toArray, List.set_cons_zero, List.set_cons_succ, i64_w, i32_w]
              rfl
             refine pure_ (i := 5) (N := some 67) (v := undef) (a' := ?_) #[T7,T7,T7,T7,T7,T7,F7,F7,F7,F7,F7,F7,F7,F7,F7,F7,F7,F7,F7,F7,F7,F7,F7,F7,F7,F7,F7,F7,F7,F7,F7,F7,F7,F7,F7,F7,F7] rfl rfl (any_of HT_.out (by kernel_rfl)) (fun _ _ _ h => h) (Or.inr ⟨by rfl, rfl⟩) ?_ ?_
             rotate_left
             ·simp only [Act.put, List.setIfInBounds_toArray, List.set_cons_zero, List.set_cons_succ, i64_w, i32_w]
              rfl
             refine pure_ (i := 6) (N := some 68) (v := undef) (a' := ?_) #[T7,T7,T7,T7,T7,T7,T7,F7,F7,F7,F7,F7,F7,F7,F7,F7,F7,F7,F7,F7,F7,F7,F7,F7,F7,F7,F7,F7,F7,F7,F7,F7,F7,F7,F7,F7,F7] rfl rfl (any_of HT_.out (by kernel_rfl)) (fun _ _ _ h => h) (Or.inr ⟨by rfl, rfl⟩) ?_ ?_
             rotate_left
             ·simp only [Act.put, List.setIfInBounds_toArray, List.set_cons_zero, List.set_cons_succ, i64_w, i32_w]
              rfl
             refine pure_ (i := 7) (N := some 69) (v := undef) (a' := ?_) #[T7,T7,T7,T7,T7,T7,T7,T7,F7,F7,F7,F7,F7,F7,F7,F7,F7,F7,F7,F7,F7,F7,F7,F7,F7,F7,F7,F7,F7,F7,F7,F7,F7,F7,F7,F7,F7] rfl rfl (any_of HT_.out (by kernel_rfl)) (fun _ _ _ h => h) (Or.inr ⟨by rfl, rfl⟩) ?_ ?_
             rotate_left
             ·simp only [Act.put, List.setIfInBounds_toArray, List.set_cons_zero, List.set_cons_succ, i64_w, i32_w]
              rfl
             refine pure_ (i := 8) (N := some 70) (v := undef) (a' := ?_) #[T7,T7,T7,T7,T7,T7,T7,T7,T7,F7,F7,F7,F7,F7,F7,F7,F7,F7,F7,F7,F7,F7,F7,F7,F7,F7,F7,F7,F7,F7,F7,F7,F7,F7,F7,F7,F7] rfl rfl (any_of HT_.out (by kernel_rfl)) (fun _ _ _ h => h) (Or.inr ⟨by rfl, rfl⟩) ?_ ?_
             rotate_left
             ·simp only [Act.put, List.setIfInBounds_toArray, List.set_cons_zero, List.set_cons_succ, i64_w, i32_w]
              rfl
             refine pure_ (i := 9) (N := some 71) (v := undef) (a' := ?_) #[T7,T7,T7,T7,T7,T7,T7,T7,T7,T7,F7,F7,F7,F7,F7,F7,F7,F7,F7,F7,F7,F7,F7,F7,F7,F7,F7,F7,F7,F7,F7,F7,F7,F7,F7,F7,F7] rfl rfl (any_of HT_.out (by kernel_rfl)) (fun _ _ _ h => h) (Or.inr ⟨by rfl, rfl⟩) ?_ ?_
             rotate_left
             ·simp only [Act.put, List.setIfInBounds_toArray, List.set_cons_zero, List.set_cons_succ, i64_w, i32_w]
              rfl
             refine pure_ (i := 10) (N := some 72) (v := ?_) (a' := ?_) #[T7,T7,T7,T7,T7,T7,T7,T7,T7,T7,T7,F7,F7,F7,F7,F7,F7,F7,F7,F7,F7,F7,F7,F7,F7,F7,F7,F7,F7,F7,F7,F7,F7,F7,F7,F7,F7] rfl rfl (any_of HT_.out (by kernel_rfl)) (fun _ _ _ h => h) (Or.inl ⟨by rfl, ?_⟩) ?_ ?_
             rotate_left
             ·intro w'
              go_simp
              with_reducible rfl
             rotate_left
             ·simp only [Act.put, List.setIfInBounds_toArray, List.set_cons_zero, List.set_cons_succ, i64_w, i32_w]
              rfl
             refine pure_ (i := 11) (N := some 73) (v := ?_) (a' := ?_) #[T7,T7,T7,T7,T7,T7,T7,T7,T7,T7,T7,T7,F7,F7,F7,F7,F7,F7,F7,F7,F7,F7,F7,F7,F7,F7,F7,F7,F7,F7,F7,F7,F7,F7,F7,F7,F7] rfl rfl (any_of HT_.out (by kernel_rfl)) (fun _ _ _ h => h) (Or.inl ⟨by rfl, ?_⟩) ?_ ?_
             rotate_left
             ·intro w'
              go_simp
              with_reducible rfl
             rotate_left
             ·simp only [Act.put, List.setIfInBounds_toArray, List.set_cons_zero, List.set_cons_succ, i64_w, i32_w]
              rfl
             refine pure_ (i := 12) (N := some 74) (v := ?_) (a' := ?_) #[T7,T7,T7,T7,T7,T7,T7,T7,T7,T7,T7,T7,T7,F7,F7,F7,F7,F7,F7,F7,F7,F7,F7,F7,F7,F7,F7,F7,F7,F7,F7,F7,F7,F7,F7,F7,F7] rfl rfl (any_of HT_.out (by kernel_rfl)) (fun _ _ _ h => h) (Or.inl ⟨by rfl, ?_⟩) ?_ ?_
             rotate_left
             ·intro w'
              go_simp
              with_reducible rfl
             rotate_left
             ·simp only [Act.put, List.setIfInBounds_toArray, List.set_cons_zero, List.set_cons_succ, i64_w, i32_w]
              rfl
             refine pure_ (i := 13) (N := some 75) (v := ?_) (a' := ?_) #[T7,T7,T7,T7,T7,T7,T7,T7,T7,T7,T7,T7,T7,T7,F7,F7,F7,F7,F7,F7,F7,F7,F7,F7,F7,F7,F7,F7,F7,F7,F7,F7,F7,F7,F7,F7,F7] rfl rfl (any_of HT_.out (by kernel_rfl)) (fun _ _ _ h => h) (Or.inl ⟨by rfl, ?_⟩) ?_ ?_
             rotate_left
             ·intro w'
              go_simp
              with_reducible rfl
             rotate_left
             ·simp only [Act.put, List.setIfInBounds_toArray, List.set_cons_zero, List.set_cons_succ, i64_w, i32_w]
              rfl
             refine pure_ (i := 14) (N := some 76) (v := ?_) (a' := ?_) #[T7,T7,T7,T7,T7,T7,T7,T7,T7,T7,T7,T7,T7,T7,T7,F7,F7,F7,F7,F7,F7,F7,F7,F7,F7,F7,F7,F7,F7,F7,F7,F7,F7,F7,F7,F7,F7] rfl rfl (any_of HT_.out (by kernel_rfl)) (fun _ _ _ h => h) (Or.inl ⟨by rfl, ?_⟩) ?_ ?_
             rotate_left
             ·intro w'
              go_simp
              with_reducible rfl
             rotate_left
             ·simp only [Act.put, List.setIfInBounds_toArray, List.set_cons_zero, List.set_cons_succ, i64_w, i32_w]
              rfl
             refine pure_ (i := 15) (N := some 77) (v := ?_) (a' := ?_) #[T7,T7,T7,T7,T7,T7,T7,T7,T7,T7,T7,T7,T7,T7,T7,T7,F7,F7,F7,F7,F7,F7,F7,F7,F7,F7,F7,F7,F7,F7,F7,F7,F7,F7,F7,F7,F7] rfl rfl (any_of HT_.out (by kernel_rfl)) (fun _ _ _ h => h) (Or.inl ⟨by rfl, ?_⟩) ?_ ?_
             rotate_left
             ·intro w'
              go_simp
              with_reducible rfl
             rotate_left
             ·simp only [Act.put, List.setIfInBounds_toArray, List.set_cons_zero, List.set_cons_succ, i64_w, i32_w]
              rfl
             refine pure_ (i := 17) (N := some 79) (v := ?_) (a' := ?_) #[T7,T7,T7,T7,T7,T7,T7,T7,T7,T7,T7,T7,T7,T7,T7,T7,F7,T7,F7,F7,F7,F7,F7,F7,F7,F7,F7,F7,F7,F7,F7,F7,F7,F7,F7,F7,F7] rfl rfl (any_of HT_.out (by kernel_rfl)) (fun _ _ _ h => h) (Or.inl ⟨by rfl, ?_⟩) ?_ ?_
             rotate_left
             ·intro w'
              go_simp
              with_reducible rfl
             rotate_left
             ·simp only [Act.put, List.setIfInBounds_toArray, List.set_cons_zero, List.set_cons_succ, i64_w, i32_w]
              rfl
             refine pure_ (i := 18) (N := some 80) (v := ?_) (a' := ?_) #[T7,T7,T7,T7,T7,T7,T7,T7,T7,T7,T7,T7,T7,T7,T7,T7,F7,T7,T7,F7,F7,F7,F7,F7,F7,F7,F7,F7,F7,F7,F7,F7,F7,F7,F7,F7,F7] rfl rfl (any_of HT_.out (by kernel_rfl)) (fun _ _ _ h => h) (Or.inl ⟨by rfl, ?_⟩) ?_ ?_
             rotate_left
             ·intro w'
              go_simp
              with_reducible rfl
             rotate_left
             ·simp only [Act.put, List.setIfInBounds_toArray, List.set_cons_zero, List.set_cons_succ, i64_w, i32_w]
              rfl
             refine pure_ (i := 19) (N := some 81) (v := ?_) (a' := ?_) #[T7,T7,T7,T7,T7,T7,T7,T7,T7,T7,T7,T7,T7,T7,T7,T7,F7,T7,T7,T7,F7,F7,F7,F7,F7,F7,F7,F7,F7,F7,F7,F7,F7,F7,F7,F7,F7] rfl rfl (any_of HT_.out (by kernel_rfl)) (fun _ _ _ h => h) (Or.inl ⟨by rfl, ?_⟩) ?_ ?_
             rotate_left
             ·intro w'
              go_simp
              with_reducible rfl
             rotate_left
             ·simp only [Act.put, List.setIfInBounds_toArray, List.set_cons_zero, List.set_cons_succ, i64_w, i32_w]
              rfl
             refine one_ (i := 16) (N := some 78) #[T7,T7,T7,T7,T7,T7,T7,T7,T7,T7,T7,T7,T7,T7,T7,T7,T7,T7,T7,T7,F7,F7,F7,F7,F7,F7,F7,F7,F7,F7,F7,F7,F7,F7,F7,F7,F7] rfl rfl (one_of HT_.out (by kernel_rfl)) (by decide) (fun K hK => ?_)
             refine goes_ Try.func19 (by kernel_rfl) rfl #[.slice none 0 0, .string t454] (by rfl) rfl rfl (by (try simp only [List.map_toArray, List.map_cons, List.map_nil]); first | done | rfl | (simp only [List.length_drop, List.length_take]; rfl)) ?_
             refine (wire_PutText.calls _ _ ([] : List Int) t454 t486 _ ?side1 ?side2 A90.out).mono ?_
             (case side1 => exact Kd.C_nil _ _)
             (case side2 => exact Nat.le_refl _)
             rintro e w120 ⟨v487, rfl, ho0, hb⟩
             refine ⟨_, rfl, ?_⟩
             have n0_ := Aside0.mk (Kd.R_below (by (with_reducible repeat (first | apply Kd.R_alloc | apply Kd.R_drewN | apply Kd.R_drew)); exact HO_11.out) hb)
             have n1_ := Aside0.mk (Kd.R_lower ho0 (below_size (by repeat (first | (with_reducible first | exact HB.out | apply below_alloc | apply pw_below_drewN | apply below_drew1) | exact HB.out))))
             have n2_ := Aside0.mk (below_step (by repeat (first | (with_reducible first | exact HB.out | apply below_alloc | apply pw_below_drewN | apply below_drew1) | exact HB.out)) hb)
             clear HO_11
             clear HB
             have HO_11 := n0_
             have HO488 := n1_
             have HB := n2_
             clear n0_ n1_ n2_
             (try clear hb)
             (try clear hb2)
             (try clear hk)
             (try clear hi)
             (try clear ho0)
             obtain ⟨Ao121, co121, eo121⟩ := Kd.R_slice HO488.out
             (first | subst eo121 | (injection eo121 with f1_ f2_ f3_; have f4_ := f1_.symm; have f5_ := f3_.symm; clear f1_ f2_ f3_; subst f4_; subst f5_))
             refine hK.out _ _ trivial (fun hHeld => ?_)
             clear hK K
             refine norm_ (a' := ?_) ?_ ?_
             rotate_left
             ·show Act.put _ (some 78) _ = _
              simp only [Act.put, List.setIfInBounds_toArray, List.set_cons_zero, List.set_cons_succ, i64_w, i32_w]
              rfl
             refine one_ (i := 20) (N := some 82) #[T7,T7,T7,T7,T7,T7,T7,T7,T7,T7,T7,T7,T7,T7,T7,T7,T7,T7,T7,T7,T7,F7,F7,F7,F7,F7,F7,F7,F7,F7,F7,F7,F7,F7,F7,F7,F7] rfl rfl (one_of HT_.out (by kernel_rfl)) (by decide) (fun K hK => ?_)
             refine goes_ Try.func13 (by kernel_rfl) rfl #[.slice Ao121 t486.length co121, .slice A0 (l0.take (t455 : Int).toNat).length c0] (by rfl) rfl rfl (by (try simp only [List.map_toArray, List.map_cons, List.map_nil]); first | done | (rw [show (l0.take (t455 : Int).toNat).length = t455.toNat from (by rw [List.length_take]; have h_ : (t455 : Int) ≤ (l0.length : Int) := of_decide_eq_true (by first | (with_reducible assumption) | assumption); omega)] <;> rfl) | rfl | (simp only [List.length_drop, List.length_take]; rfl)) ?_
             with_reducible refine (mapsheetsref02_Same.calls kj5 _ _ t486 _ _ (l0.take (t455 : Int).toNat) true _ ?side1 ?side2 ?side3 ?side4 A93.out).mono ?_
             (case side1 => repeat (first | exact (Kd.R_reads' HO488.out).2.2 | (with_reducible refine Kd.C_alloc ?_ _) | (with_reducible refine Kd.C_drewN ?_ _) | (with_reducible refine Kd.C_drew ?_)))
             (case side2 => exact (Kd.R_reads' HO488.out).2.1)
             (case side3 => repeat (first | exact (Kd.C_below HR489.out HB.out) | (with_reducible refine Kd.C_alloc ?_ _) | (with_reducible refine Kd.C_drewN ?_ _) | (with_reducible refine Kd.C_drew ?_)))
             (case side4 => exact HC489.out)
             rintro e w' ⟨rfl, ⟨nd, rfl⟩⟩
             refine ⟨_, rfl, ?_⟩
             refine hK.out _ _ trivial (fun hHeld => ?_)
             clear hK K
             refine norm_ (a' := ?_) ?_ ?_
             rotate_left
             ·show Act.put _ (some 82) _ = _
              simp only [Act.put, List.setIfInBounds_toArray, List.set_cons_zero, List.set_cons_succ, i64_w, i32_w]
              rfl
             refine pure_ (i := 21) (N := some 83) (v := ?_) (a' := ?_) #[T7,T7,T7,T7,T7,T7,T7,T7,T7,T7,T7,T7,T7,T7,T7,T7,T7,T7,T7,T7,T7,T7,F7,F7,F7,F7,F7,F7,F7,F7,F7,F7,F7,F7,F7,F7,F7] rfl rfl (any_of HT_.out (by kernel_rfl)) (fun _ _ _ h => h) (Or.inl ⟨by rfl, ?_⟩) ?_ ?_
             rotate_left
             ·intro w'
              go_simp
              with_reducible rfl
             rotate_left
             ·simp only [Act.put, List.setIfInBounds_toArray, List.set_cons_zero, List.set_cons_succ, i64_w, i32_w]
              rfl
             refine pure_ (i := 22) (N := some 84) (v := ?_) (a' := ?_) #[T7,T7,T7,T7,T7,T7,T7,T7,T7,T7,T7,T7,T7,T7,T7,T7,T7,T7,T7,T7,T7,T7,T7,F7,F7,F7,F7,F7,F7,F7,F7,F7,F7,F7,F7,F7,F7] rfl rfl (any_of HT_.out (by kernel_rfl)) (fun _ _ _ h => h) (Or.inl ⟨by rfl, ?_⟩) ?_ ?_
             rotate_left
             ·intro w'
              go_simp
              with_reducible rfl
             rotate_left
             ·simp only [Act.put, List.setIfInBounds_toArray, List.set_cons_zero, List.set_cons_succ, i64_w, i32_w]
              rfl
             refine pure_ (i := 23) (N := some 85) (v := ?_) (a' := ?_) #[T7,T7,T7,T7,T7,T7,T7,T7,T7,T7,T7,T7,T7,T7,T7,T7,T7,T7,T7,T7,T7,T7,T7,T7,F7,F7,F7,F7,F7,F7,F7,F7,F7,F7,F7,F7,F7] rfl rfl (any_of HT_.out (by kernel_rfl)) (fun _ _ _ h => h) (Or.inl ⟨by rfl, ?_⟩) ?_ ?_
             rotate_left
             ·intro w'
              go_simp
              with_reducible rfl
             rotate_left
             ·simp only [Act.put, List.setIfInBounds_toArray, List.set_cons_zero, List.set_cons_succ, i64_w, i32_w]
              rfl
             refine pure_ (i := 24) (N := some 86) (v := ?_) (a' := ?_) #[T7,T7,T7,T7,T7,T7,T7,T7,T7,T7,T7,T7,T7,T7,T7,T7,T7,T7,T7,T7,T7,T7,T7,T7,T7,F7,F7,F7,F7,F7,F7,F7,F7,F7,F7,F7,F7] rfl rfl (any_of HT_.out (by kernel_rfl)) (fun _ _ _ h => h) (Or.inl ⟨by rfl, ?_⟩) ?_ ?_
             rotate_left
             ·intro w'
              go_simp
              with_reducible rfl
             rotate_left
             ·simp only [Act.put, List.setIfInBounds_toArray, List.set_cons_zero, List.set_cons_succ, i64_w, i32_w]
              rfl
             refine pure_ (i := 25) (N := some 87) (v := ?_) (a' := ?_) #[T7,T7,T7,T7,T7,T7,T7,T7,T7,T7,T7,T7,T7,T7,T7,T7,T7,T7,T7,T7,T7,T7,T7,T7,T7,T7,F7,F7,F7,F7,F7,F7,F7,F7,F7,F7,F7] rfl rfl (any_of HT_.out (by kernel_rfl)) (fun _ _ _ h => h) (Or.inl ⟨by rfl, ?_⟩) ?_ ?_
             rotate_left
             ·intro w'
              go_simp
              with_reducible rfl
             rotate_left
             ·simp only [Act.put, List.setIfInBounds_toArray, List.set_cons_zero, List.set_cons_succ, i64_w, i32_w]
              rfl
             refine pure_ (i := 26) (N := some 88) (v := ?_) (a' := ?_) #[T7,T7,T7,T7,T7,T7,T7,T7,T7,T7,T7,T7,T7,T7,T7,T7,T7,T7,T7,T7,T7,T7,T7,T7,T7,T7,T7,F7,F7,F7,F7,F7,F7,F7,F7,F7,F7] rfl rfl (any_of HT_.out (by kernel_rfl)) (fun _ _ _ h => h) (Or.inl ⟨by rfl, ?_⟩) ?_ ?_
             rotate_left
             ·intro w'
              go_simp
              with_reducible rfl
             rotate_left
             ·simp only [Act.put, List.setIfInBounds_toArray, List.set_cons_zero, List.set_cons_succ, i64_w, i32_w]
              rfl
             refine pure_ (i := 27) (N := some 89) (v := ?_) (a' := ?_) #[T7,T7,T7,T7,T7,T7,T7,T7,T7,T7,T7,T7,T7,T7,T7,T7,T7,T7,T7,T7,T7,T7,T7,T7,T7,T7,T7,T7,F7,F7,F7,F7,F7,F7,F7,F7,F7] rfl rfl (any_of HT_.out (by kernel_rfl)) (fun _ _ _ h => h) (Or.inl ⟨by rfl, ?_⟩) ?_ ?_
             rotate_left
             ·intro w'
              go_simp
              with_reducible rfl
             rotate_left
             ·simp only [Act.put, List.setIfInBounds_toArray, List.set_cons_zero, List.set_cons_succ, i64_w, i32_w]
              rfl
             refine pure_ (i := 28) (N := some 90) (v := undef) (a' := ?_) #[T7,T7,T7,T7,T7,T7,T7,T7,T7,T7,T7,T7,T7,T7,T7,T7,T7,T7,T7,T7,T7,T7,T7,T7,T7,T7,T7,T7,T7,F7,F7,F7,F7,F7,F7,F7,F7] rfl rfl (any_of HT_.out (by kernel_rfl)) (fun _ _ _ h => h) (Or.inr ⟨by rfl, rfl⟩) ?_ ?_
             rotate_left
             ·simp only [Act.put, List.setIfInBounds_toArray, List.set_cons_zero, List.set_cons_succ, i64_w, i32_w]
              rfl
             refine pure_ (i := 29) (N := some 91) (v := undef) (a' := ?_) #[T7,T7,T7,T7,T7,T7,T7,T7,T7,T7,T7,T7,T7,T7,T7,T7,T7,T7,T7,T7,T7,T7,T7,T7,T7,T7,T7,T7,T7,T7,F7,F7,F7,F7,F7,F7,F7] rfl rfl (any_of HT_.out (by kernel_rfl)) (fun _ _ _ h => h) (Or.inr ⟨by rfl, rfl⟩) ?_ ?_
             rotate_left
             ·simp only [Act.put, List.setIfInBounds_toArray, List.set_cons_zero, List.set_cons_succ, i64_w, i32_w]
              rfl
             refine pure_ (i := 30) (N := some 92) (v := undef) (a' := ?_) #[T7,T7,T7,T7,T7,T7,T7,T7,T7,T7,T7,T7,T7,T7,T7,T7,T7,T7,T7,T7,T7,T7,T7,T7,T7,T7,T7,T7,T7,T7,T7,F7,F7,F7,F7,F7,F7] rfl rfl (any_of HT_.out (by kernel_rfl)) (fun _ _ _ h => h) (Or.inr ⟨by rfl, rfl⟩) ?_ ?_
             rotate_left
             ·simp only [Act.put, List.setIfInBounds_toArray, List.set_cons_zero, List.set_cons_succ, i64_w, i32_w]
              rfl
             refine pure_ (i := 31) (N := some 93) (v := undef) (a' := ?_) #[T7,T7,T7,T7,T7,T7,T7,T7,T7,T7,T7,T7,T7,T7,T7,T7,T7,T7,T7,T7,T7,T7,T7,T7,T7,T7,T7,T7,T7,T7,T7,T7,F7,F7,F7,F7,F7] rfl rfl (any_of HT_.out (by kernel_rfl)) (fun _ _ _ h => h) (Or.inr ⟨by rfl, rfl⟩) ?_ ?_
             rotate_left
             ·simp only [Act.put, List.setIfInBounds_toArray, List.set_cons_zero, List.set_cons_succ, i64_w, i32_w]
              rfl
             refine pure_ (i := 32) (N := some 94) (v := undef) (a' := ?_) #[T7,T7,T7,T7,T7,T7,T7,T7,T7,T7,T7,T7,T7,T7,T7,T7,T7,T7,T7,T7,T7,T7,T7,T7,T7,T7,T7,T7,T7,T7,T7,T7,T7,F7,F7,F7,F7] rfl rfl (any_of HT_.out (by kernel_rfl)) (fun _ _ _ h => h) (Or.inr ⟨by rfl, rfl⟩) ?_ ?_
             rotate_left
             ·simp only [Act.put, List.setIfInBounds_toArray, List.set_cons_zero, List.set_cons_succ, i64_w, i32_w]
              rfl
             refine pure_ (i := 33) (N := some 95) (v := undef) (a' := ?_) #[T7,T7,T7,T7,T7,T7,T7,T7,T7,T7,T7,T7,T7,T7,T7,T7,T7,T7,T7,T7,T7,T7,T7,T7,T7,T7,T7,T7,T7,T7,T7,T7,T7,T7,F7,F7,F7] rfl rfl (any_of HT_.out (by kernel_rfl)) (fun _ _ _ h => h) (Or.inr ⟨by rfl, rfl⟩) ?_ ?_
             rotate_left
             ·simp only [Act.put, List.setIfInBounds_toArray, List.set_cons_zero, List.set_cons_succ, i64_w, i32_w]
              rfl
             refine pure_ (i := 34) (N := some 96) (v := undef) (a' := ?_) #[T7,T7,T7,T7,T7,T7,T7,T7,T7,T7,T7,T7,T7,T7,T7,T7,T7,T7,T7,T7,T7,T7,T7,T7,T7,T7,T7,T7,T7,T7,T7,T7,T7,T7,T7,F7,F7] rfl rfl (any_of HT_.out (by kernel_rfl)) (fun _ _ _ h => h) (Or.inr ⟨by rfl, rfl⟩) ?_ ?_
             rotate_left
             ·simp only [Act.put, List.setIfInBounds_toArray, List.set_cons_zero, List.set_cons_succ, i64_w, i32_w]
              rfl
             refine pure_ (i := 35) (N := some 97) (v := ?_) (a' := ?_) #[T7,T7,T7,T7,T7,T7,T7,T7,T7,T7,T7,T7,T7,T7,T7,T7,T7,T7,T7,T7,T7,T7,T7,T7,T7,T7,T7,T7,T7,T7,T7,T7,T7,T7,T7,T7,F7] rfl rfl (any_of HT_.out (by kernel_rfl)) (fun _ _ _ h => h) (Or.inl ⟨by rfl, ?_⟩) ?_ ?_
             rotate_left
             ·intro w'
              go_simp
              with_reducible rfl
             rotate_left
             ·simp only [Act.put, List.setIfInBounds_toArray, List.set_cons_zero, List.set_cons_succ, i64_w, i32_w]
              rfl
             refine pure_ (i := 36) (N := some 98) (v := ?_) (a' := ?_) #[T7,T7,T7,T7,T7,T7,T7,T7,T7,T7,T7,T7,T7,T7,T7,T7,T7,T7,T7,T7,T7,T7,T7,T7,T7,T7,T7,T7,T7,T7,T7,T7,T7,T7,T7,T7,T7] rfl rfl (any_of HT_.out (by kernel_rfl)) (fun _ _ _ h => h) (Or.inl ⟨by rfl, ?_⟩) ?_ ?_
             rotate_left
             ·intro w'
              go_simp
              with_reducible rfl
             rotate_left
             ·simp only [Act.put, List.setIfInBounds_toArray, List.set_cons_zero, List.set_cons_succ, i64_w, i32_w]
              rfl
             refine done_ (done_of HT_.out (by kernel_rfl)) ?_
             try go_wp2_with (first | (go_at_call 16; (with_reducible refine (mapsheetslaw02_awake.calls kj5  t497 _ A117.out).mono ?_); rintro e w122 ⟨rfl, hb⟩; have n0_ := Aside0.mk (Kd.R_below (by (with_reducible repeat (first | apply Kd.R_alloc | apply Kd.R_drewN | apply Kd.R_drew)); exact HO_11.out) hb); have n1_ := Aside0.mk (Kd.R_below (by (with_reducible repeat (first | apply Kd.R_alloc | apply Kd.R_drewN | apply Kd.R_drew)); exact HO488.out) hb); have n2_ := Aside0.mk (below_step (by repeat (first | (with_reducible first | exact HB.out | apply below_alloc | apply pw_below_drewN | apply below_drew1) | exact HB.out)) hb); clear HO_11; clear HO488; clear HB; have HO_11 := n0_; have HO488 := n1_; have HB := n2_; clear n0_ n1_ n2_; (try clear hb); (try clear hb2); (try clear hk); (try clear hi)))
             go_ret
             exact ⟨by first | rfl | (simp [errW_none, errW_some] <;> rfl) | (simp [*, errW_none, errW_some] <;> rfl), by repeat (first | (with_reducible first | exact HB.out | apply below_alloc | apply pw_below_drewN | apply below_drew1) | exact HB.out)⟩
            ·rw [if_neg c116] at H
             exact absurd H (by simp)
           ·rw [if_neg c115] at H
            exact absurd H (by simp)
          ·rw [if_neg c114] at H
           exact absurd H (by simp)
        ·replace c94 := Bool.eq_false_iff.mpr c94
         subst c94
         have H1 : (none) = some r := by rw [if_neg (show ¬ (false = true) by decide)] at H; exact H
         clear H
         have H := H1
         clear H1
         exact absurd H (by simp)
       ·rw [if_neg c92] at H
        exact absurd H (by simp)
      ·rw [if_neg c91] at H
       exact absurd H (by simp)
     ·rw [if_neg c89] at H
      have c89b0 : (t456 == 0) = false := beq_eq_false_iff_ne.mpr c89
      have c89b1 : (t456 != 0) = true := bne_iff_ne.mpr c89
      by_cases c123 : t459 = 0
      ·rw [if_pos c123] at H
       have c123b0 : (t459 == 0) = true := beq_iff_eq.mpr c123
       have c123b1 : (t459 != 0) = false := bne_eq_false_iff_eq.mpr c123
       clear c123
       replace H := Option.bind_eq_some_iff.mp H
       obtain ⟨t498, A1240, H⟩ := H
       (try dsimp only at H)
       have A124 := Aside0.mk A1240
       clear A1240
       by_cases c125 : 0 ≤ t458
       ·rw [if_pos c125] at H
        have c125b0 := eq_true c125
        have c125b1 : decide (0 ≤ t458) = true := decide_eq_true c125
        clear c125
        by_cases c126 : t458 ≤ (l0.length : Int)
        ·rw [if_pos c126] at H
         have c126b0 := eq_true c126
         have c126b1 : decide (t458 ≤ (l0.length : Int)) = true := decide_eq_true c126
         clear c126
         replace H := Option.bind_eq_some_iff.mp H
         obtain ⟨t502, A1270, H⟩ := H
         (try dsimp only at H)
         have A127 := Aside0.mk A1270
         clear A1270
         by_cases c128 : t502 = true
         ·subst c128
          have H1 : (if ((t453 == 0) == (decide (t452 > 0))) = true then (if ((t456 == 0) == (decide (t455 > 0))) = true then (if ((t459 == 0) == (decide (t458 > 0))) = true then ((mapsheetslaw02_awake.f kj5).bind fun t503 => (some t503)) else (none)) else (none)) else (none)) = some r := by rw [if_pos rfl] at H; exact H
          clear H
          have H := H1
          clear H1
          by_cases c129 : ((t453 == 0) == (decide (t452 > 0))) = true
          ·rw [if_pos c129] at H
           have c129b0 : ((t453 == 0) == (decide (t452 > 0))) = true := c129
           (first | (have c129b3 : decide (0 < t452) = true := by have h_ := c129; rw [show (t453 == 0) = true from by assumption] at h_; simpa using h_) | (have c129b3 : decide (0 < t452) = false := by have h_ := c129; rw [show (t453 == 0) = false from by assumption] at h_; simpa using h_) | skip)
           (try (have c129b1 : decide ((t453 == 0) = (decide (t452 > 0))) = true := by simpa using c129))
           (try (have c129b2 : ((t453 == 0) == (decide (t452 > 0))) = true := by simpa using c129))
           clear c129
           by_cases c130 : ((t456 == 0) == (decide (t455 > 0))) = true
           ·rw [if_pos c130] at H
            have c130b0 : ((t456 == 0) == (decide (t455 > 0))) = true := c130
            (first | (have c130b3 : decide (0 < t455) = true := by have h_ := c130; rw [show (t456 == 0) = true from by assumption] at h_; simpa using h_) | (have c130b3 : decide (0 < t455) = false := by have h_ := c130; rw [show (t456 == 0) = false from by assumption] at h_; simpa using h_) | skip)
            (try (have c130b1 : decide ((t456 == 0) = (decide (t455 > 0))) = true := by simpa using c130))
            (try (have c130b2 : ((t456 == 0) == (decide (t455 > 0))) = true := by simpa using c130))
            clear c130
            by_cases c131 : ((t459 == 0) == (decide (t458 > 0))) = true
            ·rw [if_pos c131] at H
             have c131b0 : ((t459 == 0) == (decide (t458 > 0))) = true := c131
             (first | (have c131b3 : decide (0 < t458) = true := by have h_ := c131; rw [show (t459 == 0) = true from by assumption] at h_; simpa using h_) | (have c131b3 : decide (0 < t458) = false := by have h_ := c131; rw [show (t459 == 0) = false from by assumption] at h_; simpa using h_) | skip)
             (try (have c131b1 : decide ((t459 == 0) = (decide (t458 > 0))) = true := by simpa using c131))
             (try (have c131b2 : ((t459 == 0) == (decide (t458 > 0))) = true := by simpa using c131))
             clear c131
             replace H := Option.bind_eq_some_iff.mp H
             obtain ⟨t503, A1320, H⟩ := H
             (try dsimp only at H)
             have A132 := Aside0.mk A1320
             clear A1320
             obtain rfl := Option.some.inj H
             try go_wp2
             have n0_ := Aside0.mk (Kd.R_drew HO_11.out)
             have n1_ := Aside0.mk (below_drew1 HB.out)
             clear HO_11
             clear HB
             have HO_11 := n0_
             have HB := n1_
             clear n0_ n1_
             obtain ⟨i0134, hi0134, _, hsz134, _⟩ := info_parts info5
             obtain ⟨hcut134, hA134, hC134⟩ := print_take_of (P := Try.prog) (Value.int .u8) 0 22 5 .i64 Try.underlying22 hi0134 hsz134 A0 c0 l0 t458 (of_decide_eq_true (by first | (with_reducible assumption) | assumption)) (of_decide_eq_true (by first | (with_reducible assumption) | assumption)) HC0.out
             have HR501 := Aside0.mk (Kd.C_of_reads (h1 := fun _ => rfl) (hA134 _ (Kd.reads_of_C HR0.out)))
             have HC501 := Aside0.mk hC134
             clear hA134 hC134 hi0134 hsz134
             obtain ⟨Ao135, co135, eo135⟩ := Kd.R_slice HO_11.out
             (first | subst eo135 | (injection eo135 with f1_ f2_ f3_; have f4_ := f1_.symm; have f5_ := f3_.symm; clear f1_ f2_ f3_; subst f4_; subst f5_))
             refine start_ (n := 37) (S := fun w' => True) (ds := []) #[F7,F7,F7,F7,F7,F7,F7,F7,F7,F7,F7,F7,F7,F7,F7,F7,F7,F7,F7,F7,F7,F7,F7,F7,F7,F7,F7,F7,F7,F7,F7,F7,F7,F7,F7,F7,F7] (by kernel_rfl) rfl rfl trivial (fun hHeld => ?_); refine with_tabW mapsheetslaw02_WireUnique.tab6 mapsheetslaw02_WireUnique.bits6 (fun HT_ HW_ => ?_)
             generalize wc.drew = w133 at HO_11 HB HR501 hHeld ⊢
             refine pure_ (i := 0) (N := some 62) (v := ?_) (a' := ?_) #[T7,F7,F7,F7,F7,F7,F7,F7,F7,F7,F7,F7,F7,F7,F7,F7,F7,F7,F7,F7,F7,F7,F7,F7,F7,F7,F7,F7,F7,F7,F7,F7,F7,F7,F7,F7,F7] rfl rfl (any_of HT_.out (by kernel_rfl)) (fun _ _ _ h => h) (Or.inl ⟨by rfl, ?_⟩) ?_ ?_
             rotate_left
             ·intro w'
              go_simp
              with_reducible rfl
             rotate_left
             ·simp only [Act.put, List.setIfInBounds_toArray, List.set_cons_zero, List.set_cons_succ, i64_w, i32_w]
              rfl
             refine pure_ (i := 1) (N := some 63) (v := ?_) (a' := ?_) #[T7,T7,F7,F7,F7,F7,F7,F7,F7,F7,F7,F7,F7,F7,F7,F7,F7,F7,F7,F7,F7,F7,F7,F7,F7,F7,F7,F7,F7,F7,F7,F7,F7,F7,F7,F7,F7] rfl rfl (any_of HT_.out (by kernel_rfl)) (fun _ _ _ h => h) (Or.inl ⟨by rfl, ?_⟩) ?_ ?_
             rotate_left
             ·intro w'
              go_simp
              with_reducible rfl
             rotate_left
             ·simp only [Act.put, List.setIfInBounds_toArray, List.set_cons_zero, List.set_cons_succ, i64_w, i32_w]
              rfl
             refine pure_ (i := 2) (N := some 64) (v := ?_) (a' := ?_) #[T7,T7,T7,F7,F7,F7,F7,F7,F7,F7,F7,F7,F7,F7,F7,F7,F7,F7,F7,F7,F7,F7,F7,F7,F7,F7,F7,F7,F7,F7,F7,F7,F7,F7,F7,F7,F7] rfl rfl (any_of HT_.out (by kernel_rfl)) (fun _ _ _ h => h) (Or.inl ⟨by rfl, ?_⟩) ?_ ?_
             rotate_left
             ·intro w'
              go_simp
              with_reducible rfl
             rotate_left
             ·simp only [Act.put, List.setIfInBounds_toArray, List.set_cons_zero, List.set_cons_succ, i64_w, i32_w]
              rfl
             refine pure_ (i := 3) (N := some 65) (v := undef) (a' := ?_) #[T7,T7,T7,T7,F7,F7,F7,F7,F7,F7,F7,F7,F7,F7,F7,F7,F7,F7,F7,F7,F7,F7,F7,F7,F7,F7,F7,F7,F7,F7,F7,F7,F7,F7,F7,F7,F7] rfl rfl (any_of HT_.out (by kernel_rfl)) (fun _ _ _ h => h) (Or.inr ⟨by rfl, rfl⟩) ?_ ?_
             rotate_left
             ·simp only [Act.put, List.setIfInBounds_toArray, List.set_cons_zero, List.set_cons_succ, i64_w, i32_w]
              rfl
             refine pure_ (i := 4) (N := some 66) (v := undef) (a' := ?_) #[T7,T7,T7,T7,T7,F7,F7,F7,F7,F7,F7,F7,F7,F7,F7,F7,F7,F7,F7,F7,F7,F7,F7,F7,F7,F7,F7,F7,F7,F7,F7,F7,F7,F7,F7,F7,F7] rfl rfl (any_of HT_.out (by kernel_rfl)) (fun _ _ _ h => h) (Or.inr ⟨by rfl, rfl⟩) ?_ ?_
             rotate_left
             ·simp only [Act.put, List.setIfInBounds_toArray, List.set_cons_zero, List.set_cons_succ, i64_w, i32_w]
              rfl
             refine pure_ (i := 5) (N := some 67) (v := undef) (a' := ?_) #[T7,T7,T7,T7,T7,T7,F7,F7,F7,F7,F7,F7,F7,F7,F7,F7,F7,F7,F7,F7,F7,F7,F7,F7,F7,F7,F7,F7,F7,F7,F7,F7,F7,F7,F7,F7,F7] rfl rfl (any_of HT_.out (by kernel_rfl)) (fun _ _ _ h => h) (Or.inr ⟨by rfl, rfl⟩) ?_ ?_
             rotate_left
             ·simp only [Act.put, List.setIfInBounds_toArray, List.set_cons_zero, List.set_cons_succ, i64_w, i32_w]
              rfl
             refine pure_ (i := 6) (N := some 68) (v := undef) (a' := ?_) #[T7,T7,T7,T7,T7,T7,T7,F7,F7,F7,F7,F7,F7,F7,F7,F7,F7,F7,F7,F7,F7,F7,F7,F7,F7,F7,F7,F7,F7,F7,F7,F7,F7,F7,F7,F7,F7] rfl rfl (any_of HT_.out (by kernel_rfl)) (fun _ _ _ h => h) (Or.inr ⟨by rfl, rfl⟩) ?_ ?_
             rotate_left
             ·simp only [Act.put, List.setIfInBounds_toArray, List.set_cons_zero, List.set_cons_succ, i64_w, i32_w]
              rfl
             refine pure_ (i := 7) (N := some 69) (v := undef) (a' := ?_) #[T7,T7,T7,T7,T7,T7,T7,T7,F7,F7,F7,F7,F7,F7,F7,F7,F7,F7,F7,F7,F7,F7,F7,F7,F7,F7,F7,F7,F7,F7,F7,F7,F7,F7,F7,F7,F7] rfl rfl (any_of HT_.out (by kernel_rfl)) (fun _ _ _ h => h) (Or.inr ⟨by rfl, rfl⟩) ?_ ?_
             rotate_left
             ·simp only [Act.put, List.setIfInBounds_toArray, List.set_cons_zero, List.set_cons_succ, i64_w, i32_w]
              rfl
             refine pure_ (i := 8) (N := some 70) (v := undef) (a' := ?_) #[T7,T7,T7,T7,T7,T7,T7,T7,T7,F7,F7,F7,F7,F7,F7,F7,F7,F7,F7,F7,F7,F7,F7,F7,F7,F7,F7,F7,F7,F7,F7,F7,F7,F7,F7,F7,F7] rfl rfl (any_of HT_.out (by kernel_rfl)) (fun _ _ _ h => h) (Or.inr ⟨by rfl, rfl⟩) ?_ ?_
             rotate_left
             ·simp only [Act.put, List.setIfInBounds_toArray, List.set_cons_zero, List.set_cons_succ, i64_w, i32_w]
              rfl
             refine pure_ (i := 9) (N := some 71) (v := undef) (a' := ?_) #[T7,T7,T7,T7,T7,T7,T7,T7,T7,T7,F7,F7,F7,F7,F7,F7,F7,F7,F7,F7,F7,F7,F7,F7,F7,F7,F7,F7,F7,F7,F7,F7,F7,F7,F7,F7,F7] rfl rfl (any_of HT_.out (by kernel_rfl)) (fun _ _ _ h => h) (Or.inr ⟨by rfl, rfl⟩) ?_ ?_
             rotate_left
             ·simp only [Act.put, List.setIfInBounds_toArray, List.set_cons_zero, List.set_cons_succ, i64_w, i32_w]
              rfl
             refine pure_ (i := 10) (N := some 72) (v := ?_) (a' := ?_) #[T7,T7,T7,T7,T7,T7,T7,T7,T7,T7,T7,F7,F7,F7,F7,F7,F7,F7,F7,F7,F7,F7,F7,F7,F7,F7,F7,F7,F7,F7,F7,F7,F7,F7,F7,F7,F7] rfl rfl (any_of HT_.out (by kernel_rfl)) (fun _ _ _ h => h) (Or.inl ⟨by rfl, ?_⟩) ?_ ?_
             rotate_left
             ·intro w'
              go_simp
              with_reducible rfl
             rotate_left
             ·simp only [Act.put, List.setIfInBounds_toArray, List.set_cons_zero, List.set_cons_succ, i64_w, i32_w]
              rfl
             refine pure_ (i := 11) (N := some 73) (v := ?_) (a' := ?_) #[T7,T7,T7,T7,T7,T7,T7,T7,T7,T7,T7,T7,F7,F7,F7,F7,F7,F7,F7,F7,F7,F7,F7,F7,F7,F7,F7,F7,F7,F7,F7,F7,F7,F7,F7,F7,F7] rfl rfl (any_of HT_.out (by kernel_rfl)) (fun _ _ _ h => h) (Or.inl ⟨by rfl, ?_⟩) ?_ ?_
             rotate_left
             ·intro w'
              go_simp
              with_reducible rfl
             rotate_left
             ·simp only [Act.put, List.setIfInBounds_toArray, List.set_cons_zero, List.set_cons_succ, i64_w, i32_w]
              rfl
             refine pure_ (i := 12) (N := some 74) (v := ?_) (a' := ?_) #[T7,T7,T7,T7,T7,T7,T7,T7,T7,T7,T7,T7,T7,F7,F7,F7,F7,F7,F7,F7,F7,F7,F7,F7,F7,F7,F7,F7,F7,F7,F7,F7,F7,F7,F7,F7,F7] rfl rfl (any_of HT_.out (by kernel_rfl)) (fun _ _ _ h => h) (Or.inl ⟨by rfl, ?_⟩) ?_ ?_
             rotate_left
             ·intro w'
              go_simp
              with_reducible rfl
             rotate_left
             ·simp only [Act.put, List.setIfInBounds_toArray, List.set_cons_zero, List.set_cons_succ, i64_w, i32_w]
              rfl
             refine pure_ (i := 13) (N := some 75) (v := ?_) (a' := ?_) #[T7,T7,T7,T7,T7,T7,T7,T7,T7,T7,T7,T7,T7,T7,F7,F7,F7,F7,F7,F7,F7,F7,F7,F7,F7,F7,F7,F7,F7,F7,F7,F7,F7,F7,F7,F7,F7] rfl rfl (any_of HT_.out (by kernel_rfl)) (fun _ _ _ h => h) (Or.inl ⟨by rfl, ?_⟩) ?_ ?_
             rotate_left
             ·intro w'
              go_simp
              with_reducible rfl
             rotate_left
             ·simp only [Act.put, List.setIfInBounds_toArray, List.set_cons_zero, List.set_cons_succ, i64_w, i32_w]
              rfl
             refine pure_ (i := 14) (N := some 76) (v := ?_) (a' := ?_) #[T7,T7,T7,T7,T7,T7,T7,T7,T7,T7,T7,T7,T7,T7,T7,F7,F7,F7,F7,F7,F7,F7,F7,F7,F7,F7,F7,F7,F7,F7,F7,F7,F7,F7,F7,F7,F7] rfl rfl (any_of HT_.out (by kernel_rfl)) (fun _ _ _ h => h) (Or.inl ⟨by rfl, ?_⟩) ?_ ?_
             rotate_left
             ·intro w'
              go_simp
              with_reducible rfl
             rotate_left
             ·simp only [Act.put, List.setIfInBounds_toArray, List.set_cons_zero, List.set_cons_succ, i64_w, i32_w]
              rfl
             refine pure_ (i := 15) (N := some 77) (v := undef) (a' := ?_) #[T7,T7,T7,T7,T7,T7,T7,T7,T7,T7,T7,T7,T7,T7,T7,T7,F7,F7,F7,F7,F7,F7,F7,F7,F7,F7,F7,F7,F7,F7,F7,F7,F7,F7,F7,F7,F7] rfl rfl (any_of HT_.out (by kernel_rfl)) (fun _ _ _ h => h) (Or.inr ⟨by rfl, rfl⟩) ?_ ?_
             rotate_left
             ·simp only [Act.put, List.setIfInBounds_toArray, List.set_cons_zero, List.set_cons_succ, i64_w, i32_w]
              rfl
             refine pure_ (i := 16) (N := some 78) (v := undef) (a' := ?_) #[T7,T7,T7,T7,T7,T7,T7,T7,T7,T7,T7,T7,T7,T7,T7,T7,T7,F7,F7,F7,F7,F7,F7,F7,F7,F7,F7,F7,F7,F7,F7,F7,F7,F7,F7,F7,F7] rfl rfl (any_of HT_.out (by kernel_rfl)) (fun _ _ _ h => h) (Or.inr ⟨by rfl, rfl⟩) ?_ ?_
             rotate_left
             ·simp only [Act.put, List.setIfInBounds_toArray, List.set_cons_zero, List.set_cons_succ, i64_w, i32_w]
              rfl
             refine pure_ (i := 17) (N := some 79) (v := undef) (a' := ?_) #[T7,T7,T7,T7,T7,T7,T7,T7,T7,T7,T7,T7,T7,T7,T7,T7,T7,T7,F7,F7,F7,F7,F7,F7,F7,F7,F7,F7,F7,F7,F7,F7,F7,F7,F7,F7,F7] rfl rfl (any_of HT_.out (by kernel_rfl)) (fun _ _ _ h => h) (Or.inr ⟨by rfl, rfl⟩) ?_ ?_
             rotate_left
             ·simp only [Act.put, List.setIfInBounds_toArray, List.set_cons_zero, List.set_cons_succ, i64_w, i32_w]
              rfl
             refine pure_ (i := 18) (N := some 80) (v := undef) (a' := ?_) #[T7,T7,T7,T7,T7,T7,T7,T7,T7,T7,T7,T7,T7,T7,T7,T7,T7,T7,T7,F7,F7,F7,F7,F7,F7,F7,F7,F7,F7,F7,F7,F7,F7,F7,F7,F7,F7] rfl rfl (any_of HT_.out (by kernel_rfl)) (fun _ _ _ h => h) (Or.inr ⟨by rfl, rfl⟩) ?_ ?_
             rotate_left
             ·simp only [Act.put, List.setIfInBounds_toArray, List.set_cons_zero, List.set_cons_succ, i64_w, i32_w]
              rfl
             refine pure_ (i := 19) (N := some 81) (v := undef) (a' := ?_) #[T7,T7,T7,T7,T7,T7,T7,T7,T7,T7,T7,T7,T7,T7,T7,T7,T7,T7,T7,T7,F7,F7,F7,F7,F7,F7,F7,F7,F7,F7,F7,F7,F7,F7,F7,F7,F7] rfl rfl (any_of HT_.out (by kernel_rfl)) (fun _ _ _ h => h) (Or.inr ⟨by rfl, rfl⟩) ?_ ?_
             rotate_left
             ·simp only [Act.put, List.setIfInBounds_toArray, List.set_cons_zero, List.set_cons_succ, i64_w, i32_w]
              rfl
             refine pure_ (i := 20) (N := some 82) (v := undef) (a' := ?_) #[T7,T7,T7,T7,T7,T7,T7,T7,T7,T7,T7,T7,T7,T7,T7,T7,T7,T7,T7,T7,T7,F7,F7,F7,F7,F7,F7,F7,F7,F7,F7,F7,F7,F7,F7,F7,F7] rfl rfl (any_of HT_.out (by kernel_rfl)) (fun _ _ _ h => h) (Or.inr ⟨by rfl, rfl⟩) ?_ ?_
             rotate_left
             ·simp only [Act.put, List.setIfInBounds_toArray, List.set_cons_zero, List.set_cons_succ, i64_w, i32_w]
              rfl
             refine pure_ (i := 21) (N := some 83) (v := undef) (a' := ?_) #[T7,T7,T7,T7,T7,T7,T7,T7,T7,T7,T7,T7,T7,T7,T7,T7,T7,T7,T7,T7,T7,T7,F7,F7,F7,F7,F7,F7,F7,F7,F7,F7,F7,F7,F7,F7,F7] rfl rfl (any_of HT_.out (by kernel_rfl)) (fun _ _ _ h => h) (Or.inr ⟨by rfl, rfl⟩) ?_ ?_
             rotate_left
             ·simp only [Act.put, List.setIfInBounds_toArray, List.set_cons_zero, List.set_cons_succ, i64_w, i32_w]
              rfl
             refine pure_ (i := 22) (N := some 84) (v := ?_) (a' := ?_) #[T7,T7,T7,T7,T7,T7,T7,T7,T7,T7,T7,T7,T7,T7,T7,T7,T7,T7,T7,T7,T7,T7,T7,F7,F7,F7,F7,F7,F7,F7,F7,F7,F7,F7,F7,F7,F7] rfl rfl (any_of HT_.out (by kernel_rfl)) (fun _ _ _ h => h) (Or.inl ⟨by rfl, ?_⟩) ?_ ?_
             rotate_left
             ·intro w'
              go_simp
              with_reducible rfl
             rotate_left
             ·simp only [Act.put, List.setIfInBounds_toArray, List.set_cons_zero, List.set_cons_succ, i64_w, i32_w]
              rfl
             refine pure_ (i := 23) (N := some 85) (v := ?_) (a' := ?_) #[T7,T7,T7,T7,T7,T7,T7,T7,T7,T7,T7,T7,T7,T7,T7,T7,T7,T7,T7,T7,T7,T7,T7,T7,F7,F7,F7,F7,F7,F7,F7,F7,F7,F7,F7,F7,F7] rfl rfl (any_of HT_.out (by kernel_rfl)) (fun _ _ _ h => h) (Or.inl ⟨by rfl, ?_⟩) ?_ ?_
             rotate_left
             ·intro w'
              go_simp
              with_reducible rfl
             rotate_left
             ·simp only [Act.put, List.setIfInBounds_toArray, List.set_cons_zero, List.set_cons_succ, i64_w, i32_w]
              rfl
             refine pure_ (i := 24) (N := some 86) (v := ?_) (a' := ?_) #[T7,T7,T7,T7,T7,T7,T7,T7,T7,T7,T7,T7,T7,T7,T7,T7,T7,T7,T7,T7,T7,T7,T7,T7,T7,F7,F7,F7,F7,F7,F7,F7,F7,F7,F7,F7,F7] rfl rfl (any_of HT_.out (by kernel_rfl)) (fun _ _ _ h => h) (Or.inl ⟨by rfl, ?_⟩) ?_ ?_
             rotate_left
             ·intro w'
              go_simp
              with_reducible rfl
             rotate_left
             ·simp only [Act.put, List.setIfInBounds_toArray, List.set_cons_zero, List.set_cons_succ, i64_w, i32_w]
              rfl
             refine pure_ (i := 25) (N := some 87) (v := ?_) (a' := ?_) #[T7,T7,T7,T7,T7,T7,T7,T7,T7,T7,T7,T7,T7,T7,T7,T7,T7,T7,T7,T7,T7,T7,T7,T7,T7,T7,F7,F7,F7,F7,F7,F7,F7,F7,F7,F7,F7] rfl rfl (any_of HT_.out (by kernel_rfl)) (fun _ _ _ h => h) (Or.inl ⟨by rfl, ?_⟩) ?_ ?_
             rotate_left
             ·intro w'
              go_simp
              with_reducible rfl
             rotate_left
             ·simp only [Act.put, List.setIfInBounds_toArray, List.set_cons_zero, List.set_cons_succ, i64_w, i32_w]
              rfl
             refine pure_ (i := 26) (N := some 88) (v := ?_) (a' := ?_) #[T7,T7,T7,T7,T7,T7,T7,T7,T7,T7,T7,T7,T7,T7,T7,T7,T7,T7,T7,T7,T7,T7,T7,T7,T7,T7,T7,F7,F7,F7,F7,F7,F7,F7,F7,F7,F7] rfl rfl (any_of HT_.out (by kernel_rfl)) (fun _ _ _ h => h) (Or.inl ⟨by rfl, ?_⟩) ?_ ?_
             rotate_left
             ·intro w'
              go_simp
              with_reducible rfl
             rotate_left
             ·simp only [Act.put, List.setIfInBounds_toArray, List.set_cons_zero, List.set_cons_succ, i64_w, i32_w]
              rfl
             refine pure_ (i := 27) (N := some 89) (v := ?_) (a' := ?_) #[T7,T7,T7,T7,T7,T7,T7,T7,T7,T7,T7,T7,T7,T7,T7,T7,T7,T7,T7,T7,T7,T7,T7,T7,T7,T7,T7,T7,F7,F7,F7,F7,F7,F7,F7,F7,F7] rfl rfl (any_of HT_.out (by kernel_rfl)) (fun _ _ _ h => h) (Or.inl ⟨by rfl, ?_⟩) ?_ ?_
             rotate_left
             ·intro w'
              go_simp
              with_reducible rfl
             rotate_left
             ·simp only [Act.put, List.setIfInBounds_toArray, List.set_cons_zero, List.set_cons_succ, i64_w, i32_w]
              rfl
             refine pure_ (i := 28) (N := some 90) (v := ?_) (a' := ?_) #[T7,T7,T7,T7,T7,T7,T7,T7,T7,T7,T7,T7,T7,T7,T7,T7,T7,T7,T7,T7,T7,T7,T7,T7,T7,T7,T7,T7,T7,F7,F7,F7,F7,F7,F7,F7,F7] rfl rfl (any_of HT_.out (by kernel_rfl)) (fun _ _ _ h => h) (Or.inl ⟨by rfl, ?_⟩) ?_ ?_
             rotate_left
             ·intro w'
              go_simp
              with_reducible rfl
             rotate_left
             ·simp only [Act.put, List.setIfInBounds_toArray, List.set_cons_zero, List.set_cons_succ, i64_w, i32_w]
              rfl
             refine pure_ (i := 30) (N := some 92) (v := ?_) (a' := ?_) #[T7,T7,T7,T7,T7,T7,T7,T7,T7,T7,T7,T7,T7,T7,T7,T7,T7,T7,T7,T7,T7,T7,T7,T7,T7,T7,T7,T7,T7,F7,T7,F7,F7,F7,F7,F7,F7] rfl rfl (any_of HT_.out (by kernel_rfl)) (fun _ _ _ h => h) (Or.inl ⟨by rfl, ?_⟩) ?_ ?_
             rotate_left
             ·intro w'
              go_simp
              with_reducible rfl
             rotate_left
             ·simp only [Act.put, List.setIfInBounds_toArray, List.set_cons_zero, List.set_cons_succ, i64_w, i32_w]
              rfl
             refine pure_ (i := 31) (N := some 93) (v := ?_) (a' := ?_) #[T7,T7,T7,T7,T7,T7,T7,T7,T7,T7,T7,T7,T7,T7,T7,T7,T7,T7,T7,T7,T7,T7,T7,T7,T7,T7,T7,T7,T7,F7,T7,T7,F7,F7,F7,F7,F7] rfl rfl (any_of HT_.out (by kernel_rfl)) (fun _ _ _ h => h) (Or.inl ⟨by rfl, ?_⟩) ?_ ?_
             rotate_left
             ·intro w'
              go_simp
              with_reducible rfl
             rotate_left
             ·simp only [Act.put, List.setIfInBounds_toArray, List.set_cons_zero, List.set_cons_succ, i64_w, i32_w]
              rfl
             refine pure_ (i := 32) (N := some 94) (v := ?_) (a' := ?_) #[T7,T7,T7,T7,T7,T7,T7,T7,T7,T7,T7,T7,T7,T7,T7,T7,T7,T7,T7,T7,T7,T7,T7,T7,T7,T7,T7,T7,T7,F7,T7,T7,T7,F7,F7,F7,F7] rfl rfl (any_of HT_.out (by kernel_rfl)) (fun _ _ _ h => h) (Or.inl ⟨by rfl, ?_⟩) ?_ ?_
             rotate_left
             ·intro w'
              go_simp
              with_reducible rfl
             rotate_left
             ·simp only [Act.put, List.setIfInBounds_toArray, List.set_cons_zero, List.set_cons_succ, i64_w, i32_w]
              rfl
             refine one_ (i := 29) (N := some 91) #[T7,T7,T7,T7,T7,T7,T7,T7,T7,T7,T7,T7,T7,T7,T7,T7,T7,T7,T7,T7,T7,T7,T7,T7,T7,T7,T7,T7,T7,T7,T7,T7,T7,F7,F7,F7,F7] rfl rfl (one_of HT_.out (by kernel_rfl)) (by decide) (fun K hK => ?_)
             refine goes_ Try.func23 (by kernel_rfl) rfl #[.slice none 0 0, .slice Ao135 t457.length co135] (by rfl) rfl rfl (by (try simp only [List.map_toArray, List.map_cons, List.map_nil]); first | done | rfl | (simp only [List.length_drop, List.length_take]; rfl)) ?_
             refine (wire_PutList.calls kj5 _ _ ([] : List Int) _ _ t457 t498 _ ?side1 ?side2 ?side3 ?side4 A124.out).mono ?_
             (case side1 => exact Kd.C_nil _ _)
             (case side2 => exact Nat.le_refl _)
             (case side3 => repeat (first | exact (Kd.R_reads' HO_11.out).2.2 | (with_reducible refine Kd.C_alloc ?_ _) | (with_reducible refine Kd.C_drewN ?_ _) | (with_reducible refine Kd.C_drew ?_)))
             (case side4 => exact (Kd.R_reads' HO_11.out).2.1)
             rintro e w136 ⟨v499, rfl, ho0, hb⟩
             refine ⟨_, rfl, ?_⟩
             have n0_ := Aside0.mk (Kd.R_below (by (with_reducible repeat (first | apply Kd.R_alloc | apply Kd.R_drewN | apply Kd.R_drew)); exact HO_11.out) hb)
             have n1_ := Aside0.mk (Kd.R_lower ho0 (below_size (by repeat (first | (with_reducible first | exact HB.out | apply below_alloc | apply pw_below_drewN | apply below_drew1) | exact HB.out))))
             have n2_ := Aside0.mk (below_step (by repeat (first | (with_reducible first | exact HB.out | apply below_alloc | apply pw_below_drewN | apply below_drew1) | exact HB.out)) hb)
             clear HO_11
             clear HB
             have HO_11 := n0_
             have HO500 := n1_
             have HB := n2_
             clear n0_ n1_ n2_
             (try clear hb)
             (try clear hb2)
             (try clear hk)
             (try clear hi)
             (try clear ho0)
             obtain ⟨Ao137, co137, eo137⟩ := Kd.R_slice HO500.out
             (first | subst eo137 | (injection eo137 with f1_ f2_ f3_; have f4_ := f1_.symm; have f5_ := f3_.symm; clear f1_ f2_ f3_; subst f4_; subst f5_))
             refine hK.out _ _ trivial (fun hHeld => ?_)
             clear hK K
             refine norm_ (a' := ?_) ?_ ?_
             rotate_left
             ·show Act.put _ (some 91) _ = _
              simp only [Act.put, List.setIfInBounds_toArray, List.set_cons_zero, List.set_cons_succ, i64_w, i32_w]
              rfl
             refine one_ (i := 33) (N := some 95) #[T7,T7,T7,T7,T7,T7,T7,T7,T7,T7,T7,T7,T7,T7,T7,T7,T7,T7,T7,T7,T7,T7,T7,T7,T7,T7,T7,T7,T7,T7,T7,T7,T7,T7,F7,F7,F7] rfl rfl (one_of HT_.out (by kernel_rfl)) (by decide) (fun K hK => ?_)
             refine goes_ Try.func13 (by kernel_rfl) rfl #[.slice Ao137 t498.length co137, .slice A0 (l0.take (t458 : Int).toNat).length c0] (by rfl) rfl rfl (by (try simp only [List.map_toArray, List.map_cons, List.map_nil]); first | done | (rw [show (l0.take (t458 : Int).toNat).length = t458.toNat from (by rw [List.length_take]; have h_ : (t458 : Int) ≤ (l0.length : Int) := of_decide_eq_true (by first | (with_reducible assumption) | assumption); omega)] <;> rfl) | rfl | (simp only [List.length_drop, List.length_take]; rfl)) ?_
             with_reducible refine (mapsheetsref02_Same.calls kj5 _ _ t498 _ _ (l0.take (t458 : Int).toNat) true _ ?side1 ?side2 ?side3 ?side4 A127.out).mono ?_
             (case side1 => repeat (first | exact (Kd.R_reads' HO500.out).2.2 | (with_reducible refine Kd.C_alloc ?_ _) | (with_reducible refine Kd.C_drewN ?_ _) | (with_reducible refine Kd.C_drew ?_)))
             (case side2 => exact (Kd.R_reads' HO500.out).2.1)
             (case side3 => repeat (first | exact (Kd.C_below HR501.out HB.out) | (with_reducible refine Kd.C_alloc ?_ _) | (with_reducible refine Kd.C_drewN ?_ _) | (with_reducible refine Kd.C_drew ?_)))
             (case side4 => exact HC501.out)
             rintro e w' ⟨rfl, ⟨nd, rfl⟩⟩
             refine ⟨_, rfl, ?_⟩
             refine hK.out _ _ trivial (fun hHeld => ?_)
             clear hK K
             refine norm_ (a' := ?_) ?_ ?_
             rotate_left
             ·show Act.put _ (some 95) _ = _
              simp only [Act.put, List.setIfInBounds_toArray, List.set_cons_zero, List.set_cons_succ, i64_w, i32_w]
              rfl
             refine pure_ (i := 34) (N := some 96) (v := ?_) (a' := ?_) #[T7,T7,T7,T7,T7,T7,T7,T7,T7,T7,T7,T7,T7,T7,T7,T7,T7,T7,T7,T7,T7,T7,T7,T7,T7,T7,T7,T7,T7,T7,T7,T7,T7,T7,T7,F7,F7] rfl rfl (any_of HT_.out (by kernel_rfl)) (fun _ _ _ h => h) (Or.inl ⟨by rfl, ?_⟩) ?_ ?_
             rotate_left
             ·intro w'
              go_simp
              with_reducible rfl
             rotate_left
             ·simp only [Act.put, List.setIfInBounds_toArray, List.set_cons_zero, List.set_cons_succ, i64_w, i32_w]
              rfl
             refine pure_ (i := 35) (N := some 97) (v := ?_) (a' := ?_) #[T7,T7,T7,T7,T7,T7,T7,T7,T7,T7,T7,T7,T7,T7,T7,T7,T7,T7,T7,T7,T7,T7,T7,T7,T7,T7,T7,T7,T7,T7,T7,T7,T7,T7,T7,T7,F7] rfl rfl (any_of HT_.out (by kernel_rfl)) (fun _ _ _ h => h) (Or.inl ⟨by rfl, ?_⟩) ?_ ?_
             rotate_left
             ·intro w'
              go_simp
              with_reducible rfl
             rotate_left
             ·simp only [Act.put, List.setIfInBounds_toArray, List.set_cons_zero, List.set_cons_succ, i64_w, i32_w]
              rfl
             refine pure_ (i := 36) (N := some 98) (v := ?_) (a' := ?_) #[T7,T7,T7,T7,T7,T7,T7,T7,T7,T7,T7,T7,T7,T7,T7,T7,T7,T7,T7,T7,T7,T7,T7,T7,T7,T7,T7,T7,T7,T7,T7,T7,T7,T7,T7,T7,T7] rfl rfl (any_of HT_.out (by kernel_rfl)) (fun _ _ _ h => h) (Or.inl ⟨by rfl, ?_⟩) ?_ ?_
             rotate_left
             ·intro w'
              go_simp
              with_reducible rfl
             rotate_left
             ·simp only [Act.put, List.setIfInBounds_toArray, List.set_cons_zero, List.set_cons_succ, i64_w, i32_w]
              rfl
             refine done_ (done_of HT_.out (by kernel_rfl)) ?_
             try go_wp2_with (first | (go_at_call 16; (with_reducible refine (mapsheetslaw02_awake.calls kj5  t503 _ A132.out).mono ?_); rintro e w138 ⟨rfl, hb⟩; have n0_ := Aside0.mk (Kd.R_below (by (with_reducible repeat (first | apply Kd.R_alloc | apply Kd.R_drewN | apply Kd.R_drew)); exact HO_11.out) hb); have n1_ := Aside0.mk (Kd.R_below (by (with_reducible repeat (first | apply Kd.R_alloc | apply Kd.R_drewN | apply Kd.R_drew)); exact HO500.out) hb); have n2_ := Aside0.mk (below_step (by repeat (first | (with_reducible first | exact HB.out | apply below_alloc | apply pw_below_drewN | apply below_drew1) | exact HB.out)) hb); clear HO_11; clear HO500; clear HB; have HO_11 := n0_; have HO500 := n1_; have HB := n2_; clear n0_ n1_ n2_; (try clear hb); (try clear hb2); (try clear hk); (try clear hi)))
             go_ret
             exact ⟨by first | rfl | (simp [errW_none, errW_some] <;> rfl) | (simp [*, errW_none, errW_some] <;> rfl), by repeat (first | (with_reducible first | exact HB.out | apply below_alloc | apply pw_below_drewN | apply below_drew1) | exact HB.out)⟩
            ·rw [if_neg c131] at H
             exact absurd H (by simp)
           ·rw [if_neg c130] at H
            exact absurd H (by simp)
          ·rw [if_neg c129] at H
           exact absurd H (by simp)
         ·replace c128 := Bool.eq_false_iff.mpr c128
          subst c128
          have H1 : (none) = some r := by rw [if_neg (show ¬ (false = true) by decide)] at H; exact H
          clear H
          have H := H1
          clear H1
          exact absurd H (by simp)
        ·rw [if_neg c126] at H
         exact absurd H (by simp)
       ·rw [if_neg c125] at H
        exact absurd H (by simp)
      ·rw [if_neg c123] at H
       have c123b0 : (t459 == 0) = false := beq_eq_false_iff_ne.mpr c123
       have c123b1 : (t459 != 0) = true := bne_iff_ne.mpr c123
       by_cases c139 : ((t453 == 0) == (decide (t452 > 0))) = true
       ·rw [if_pos c139] at H
        have c139b0 : ((t453 == 0) == (decide (t452 > 0))) = true := c139
        (first | (have c139b3 : decide (0 < t452) = true := by have h_ := c139; rw [show (t453 == 0) = true from by assumption] at h_; simpa using h_) | (have c139b3 : decide (0 < t452) = false := by have h_ := c139; rw [show (t453 == 0) = false from by assumption] at h_; simpa using h_) | skip)
        (try (have c139b1 : decide ((t453 == 0) = (decide (t452 > 0))) = true := by simpa using c139))
        (try (have c139b2 : ((t453 == 0) == (decide (t452 > 0))) = true := by simpa using c139))
        clear c139
        by_cases c140 : ((t456 == 0) == (decide (t455 > 0))) = true
        ·rw [if_pos c140] at H
         have c140b0 : ((t456 == 0) == (decide (t455 > 0))) = true := c140
         (first | (have c140b3 : decide (0 < t455) = true := by have h_ := c140; rw [show (t456 == 0) = true from by assumption] at h_; simpa using h_) | (have c140b3 : decide (0 < t455) = false := by have h_ := c140; rw [show (t456 == 0) = false from by assumption] at h_; simpa using h_) | skip)
         (try (have c140b1 : decide ((t456 == 0) = (decide (t455 > 0))) = true := by simpa using c140))
         (try (have c140b2 : ((t456 == 0) == (decide (t455 > 0))) = true := by simpa using c140))
         clear c140
         by_cases c141 : ((t459 == 0) == (decide (t458 > 0))) = true
         ·rw [if_pos c141] at H
          have c141b0 : ((t459 == 0) == (decide (t458 > 0))) = true := c141
          (first | (have c141b3 : decide (0 < t458) = true := by have h_ := c141; rw [show (t459 == 0) = true from by assumption] at h_; simpa using h_) | (have c141b3 : decide (0 < t458) = false := by have h_ := c141; rw [show (t459 == 0) = false from by assumption] at h_; simpa using h_) | skip)
          (try (have c141b1 : decide ((t459 == 0) = (decide (t458 > 0))) = true := by simpa using c141))
          (try (have c141b2 : ((t459 == 0) == (decide (t458 > 0))) = true := by simpa using c141))
          clear c141
          replace H := Option.bind_eq_some_iff.mp H
          obtain ⟨t504, A1420, H⟩ := H
          (try dsimp only at H)
          have A142 := Aside0.mk A1420
          clear A1420
          obtain rfl := Option.some.inj H
          try go_wp2
          have n0_ := Aside0.mk (Kd.R_drew HO_11.out)
          have n1_ := Aside0.mk (below_drew1 HB.out)
          clear HO_11
          clear HB
          have HO_11 := n0_
          have HB := n1_
          clear n0_ n1_
          refine start_ (n := 37) (S := fun w' => True) (ds := []) #[F7,F7,F7,F7,F7,F7,F7,F7,F7,F7,F7,F7,F7,F7,F7,F7,F7,F7,F7,F7,F7,F7,F7,F7,F7,F7,F7,F7,F7,F7,F7,F7,F7,F7,F7,F7,F7] (by kernel_rfl) rfl rfl trivial (fun hHeld => ?_); refine with_tabW mapsheetslaw02_WireUnique.tab6 mapsheetslaw02_WireUnique.bits6 (fun HT_ HW_ => ?_)
          generalize wc.drew = w143 at HO_11 HB hHeld ⊢
          refine pure_ (i := 0) (N := some 62) (v := ?_) (a' := ?_) #[T7,F7,F7,F7,F7,F7,F7,F7,F7,F7,F7,F7,F7,F7,F7,F7,F7,F7,F7,F7,F7,F7,F7,F7,F7,F7,F7,F7,F7,F7,F7,F7,F7,F7,F7,F7,F7] rfl rfl (any_of HT_.out (by kernel_rfl)) (fun _ _ _ h => h) (Or.inl ⟨by rfl, ?_⟩) ?_ ?_
          rotate_left
          ·intro w'
           go_simp
           with_reducible rfl
          rotate_left
          ·simp only [Act.put, List.setIfInBounds_toArray, List.set_cons_zero, List.set_cons_succ, i64_w, i32_w]
           rfl
          refine pure_ (i := 1) (N := some 63) (v := ?_) (a' := ?_) #[T7,T7,F7,F7,F7,F7,F7,F7,F7,F7,F7,F7,F7,F7,F7,F7,F7,F7,F7,F7,F7,F7,F7,F7,F7,F7,F7,F7,F7,F7,F7,F7,F7,F7,F7,F7,F7] rfl rfl (any_of HT_.out (by kernel_rfl)) (fun _ _ _ h => h) (Or.inl ⟨by rfl, ?_⟩) ?_ ?_
          rotate_left
          ·intro w'
           go_simp
           with_reducible rfl
          rotate_left
          ·simp only [Act.put, List.setIfInBounds_toArray, List.set_cons_zero, List.set_cons_succ, i64_w, i32_w]
           rfl
          refine pure_ (i := 2) (N := some 64) (v := ?_) (a' := ?_) #[T7,T7,T7,F7,F7,F7,F7,F7,F7,F7,F7,F7,F7,F7,F7,F7,F7,F7,F7,F7,F7,F7,F7,F7,F7,F7,F7,F7,F7,F7,F7,F7,F7,F7,F7,F7,F7] rfl rfl (any_of HT_.out (by kernel_rfl)) (fun _ _ _ h => h) (Or.inl ⟨by rfl, ?_⟩) ?_ ?_
          rotate_left
          ·intro w'
           go_simp
           with_reducible rfl
          rotate_left
          ·simp only [Act.put, List.setIfInBounds_toArray, List.set_cons_zero, List.set_cons_succ, i64_w, i32_w]
           rfl
          refine pure_ (i := 3) (N := some 65) (v := undef) (a' := ?_) #[T7,T7,T7,T7,F7,F7,F7,F7,F7,F7,F7,F7,F7,F7,F7,F7,F7,F7,F7,F7,F7,F7,F7,F7,F7,F7,F7,F7,F7,F7,F7,F7,F7,F7,F7,F7,F7] rfl rfl (any_of HT_.out (by kernel_rfl)) (fun _ _ _ h => h) (Or.inr ⟨by rfl, rfl⟩) ?_ ?_
          rotate_left
          ·simp only [Act.put, List.setIfInBounds_toArray, List.set_cons_zero, List.set_cons_succ, i64_w, i32_w]
           rfl
          refine pure_ (i := 4) (N := some 66) (v := undef) (a' := ?_) #[T7,T7,T7,T7,T7,F7,F7,F7,F7,F7,F7,F7,F7,F7,F7,F7,F7,F7,F7,F7,F7,F7,F7,F7,F7,F7,F7,F7,F7,F7,F7,F7,F7,F7,F7,F7,F7] rfl rfl (any_of HT_.out (by kernel_rfl)) (fun _ _ _ h => h) (Or.inr ⟨by rfl, rfl⟩) ?_ ?_
          rotate_left
          ·simp only [Act.put, List.setIfInBounds_toArray, List.set_cons_zero, List.set_cons_succ, i64_w, i32_w]
           rfl
          refine pure_ (i := 5) (N := some 67) (v := undef) (a' := ?_) #[T7,T7,T7,T7,T7,T7,F7,F7,F7,F7,F7,F7,F7,F7,F7,F7,F7,F7,F7,F7,F7,F7,F7,F7,F7,F7,F7,F7,F7,F7,F7,F7,F7,F7,F7,F7,F7] rfl rfl (any_of HT_.out (by kernel_rfl)) (fun _ _ _ h => h) (Or.inr ⟨by rfl, rfl⟩) ?_ ?_
          rotate_left
          ·simp only [Act.put, List.setIfInBounds_toArray, List.set_cons_zero, List.set_cons_succ, i64_w, i32_w]
           rfl
          refine pure_ (i := 6) (N := some 68) (v := undef) (a' := ?_) #[T7,T7,T7,T7,T7,T7,T7,F7,F7,F7,F7,F7,F7,F7,F7,F7,F7,F7,F7,F7,F7,F7,F7,F7,F7,F7,F7,F7,F7,F7,F7,F7,F7,F7,F7,F7,F7] rfl rfl (any_of HT_.out (by kernel_rfl)) (fun _ _ _ h => h) (Or.inr ⟨by rfl, rfl⟩) ?_ ?_
          rotate_left
          ·simp only [Act.put, List.setIfInBounds_toArray, List.set_cons_zero, List.set_cons_succ, i64_w, i32_w]
           rfl
          refine pure_ (i := 7) (N := some 69) (v := undef) (a' := ?_) #[T7,T7,T7,T7,T7,T7,T7,T7,F7,F7,F7,F7,F7,F7,F7,F7,F7,F7,F7,F7,F7,F7,F7,F7,F7,F7,F7,F7,F7,F7,F7,F7,F7,F7,F7,F7,F7] rfl rfl (any_of HT_.out (by kernel_rfl)) (fun _ _ _ h => h) (Or.inr ⟨by rfl, rfl⟩) ?_ ?_
          rotate_left
          ·simp only [Act.put, List.setIfInBounds_toArray, List.set_cons_zero, List.set_cons_succ, i64_w, i32_w]
           rfl
          refine pure_ (i := 8) (N := some 70) (v := undef) (a' := ?_) #[T7,T7,T7,T7,T7,T7,T7,T7,T7,F7,F7,F7,F7,F7,F7,F7,F7,F7,F7,F7,F7,F7,F7,F7,F7,F7,F7,F7,F7,F7,F7,F7,F7,F7,F7,F7,F7] rfl rfl (any_of HT_.out (by kernel_rfl)) (fun _ _ _ h => h) (Or.inr ⟨by rfl, rfl⟩) ?_ ?_
          rotate_left
          ·simp only [Act.put, List.setIfInBounds_toArray, List.set_cons_zero, List.set_cons_succ, i64_w, i32_w]
           rfl
          refine pure_ (i := 9) (N := some 71) (v := undef) (a' := ?_) #[T7,T7,T7,T7,T7,T7,T7,T7,T7,T7,F7,F7,F7,F7,F7,F7,F7,F7,F7,F7,F7,F7,F7,F7,F7,F7,F7,F7,F7,F7,F7,F7,F7,F7,F7,F7,F7] rfl rfl (any_of HT_.out (by kernel_rfl)) (fun _ _ _ h => h) (Or.inr ⟨by rfl, rfl⟩) ?_ ?_
          rotate_left
          ·simp only [Act.put, List.setIfInBounds_toArray, List.set_cons_zero, List.set_cons_succ, i64_w, i32_w]
           rfl
          refine pure_ (i := 10) (N := some 72) (v := ?_) (a' := ?_) #[T7,T7,T7,T7,T7,T7,T7,T7,T7,T7,T7,F7,F7,F7,F7,F7,F7,F7,F7,F7,F7,F7,F7,F7,F7,F7,F7,F7,F7,F7,F7,F7,F7,F7,F7,F7,F7] rfl rfl (any_of HT_.out (by kernel_rfl)) (fun _ _ _ h => h) (Or.inl ⟨by rfl, ?_⟩) ?_ ?_
          rotate_left
          ·intro w'
           go_simp
           with_reducible rfl
          rotate_left
          ·simp only [Act.put, List.setIfInBounds_toArray, List.set_cons_zero, List.set_cons_succ, i64_w, i32_w]
           rfl
          refine pure_ (i := 11) (N := some 73) (v := ?_) (a' := ?_) #[T7,T7,T7,T7,T7,T7,T7,T7,T7,T7,T7,T7,F7,F7,F7,F7,F7,F7,F7,F7,F7,F7,F7,F7,F7,F7,F7,F7,F7,F7,F7,F7,F7,F7,F7,F7,F7] rfl rfl (any_of HT_.out (by kernel_rfl)) (fun _ _ _ h => h) (Or.inl ⟨by rfl, ?_⟩) ?_ ?_
          rotate_left
          ·intro w'
           go_simp
           with_reducible rfl
          rotate_left
          ·simp only [Act.put, List.setIfInBounds_toArray, List.set_cons_zero, List.set_cons_succ, i64_w, i32_w]
           rfl
          refine pure_ (i := 12) (N := some 74) (v := ?_) (a' := ?_) #[T7,T7,T7,T7,T7,T7,T7,T7,T7,T7,T7,T7,T7,F7,F7,F7,F7,F7,F7,F7,F7,F7,F7,F7,F7,F7,F7,F7,F7,F7,F7,F7,F7,F7,F7,F7,F7] rfl rfl (any_of HT_.out (by kernel_rfl)) (fun _ _ _ h => h) (Or.inl ⟨by rfl, ?_⟩) ?_ ?_
          rotate_left
          ·intro w'
           go_simp
           with_reducible rfl
          rotate_left
          ·simp only [Act.put, List.setIfInBounds_toArray, List.set_cons_zero, List.set_cons_succ, i64_w, i32_w]
           rfl
          refine pure_ (i := 13) (N := some 75) (v := ?_) (a' := ?_) #[T7,T7,T7,T7,T7,T7,T7,T7,T7,T7,T7,T7,T7,T7,F7,F7,F7,F7,F7,F7,F7,F7,F7,F7,F7,F7,F7,F7,F7,F7,F7,F7,F7,F7,F7,F7,F7] rfl rfl (any_of HT_.out (by kernel_rfl)) (fun _ _ _ h => h) (Or.inl ⟨by rfl, ?_⟩) ?_ ?_
          rotate_left
          ·intro w'
           go_simp
           with_reducible rfl
          rotate_left
          ·simp only [Act.put, List.setIfInBounds_toArray, List.set_cons_zero, List.set_cons_succ, i64_w, i32_w]
           rfl
          refine pure_ (i := 14) (N := some 76) (v := ?_) (a' := ?_) #[T7,T7,T7,T7,T7,T7,T7,T7,T7,T7,T7,T7,T7,T7,T7,F7,F7,F7,F7,F7,F7,F7,F7,F7,F7,F7,F7,F7,F7,F7,F7,F7,F7,F7,F7,F7,F7] rfl rfl (any_of HT_.out (by kernel_rfl)) (fun _ _ _ h => h) (Or.inl ⟨by rfl, ?_⟩) ?_ ?_
          rotate_left
          ·intro w'
           go_simp
           with_reducible rfl
          rotate_left
          ·simp only [Act.put, List.setIfInBounds_toArray, List.set_cons_zero, List.set_cons_succ, i64_w, i32_w]
           rfl
          refine pure_ (i := 15) (N := some 77) (v := undef) (a' := ?_) #[T7,T7,T7,T7,T7,T7,T7,T7,T7,T7,T7,T7,T7,T7,T7,T7,F7,F7,F7,F7,F7,F7,F7,F7,F7,F7,F7,F7,F7,F7,F7,F7,F7,F7,F7,F7,F7] rfl rfl (any_of HT_.out (by kernel_rfl)) (fun _ _ _ h => h) (Or.inr ⟨by rfl, rfl⟩) ?_ ?_
          rotate_left
          ·simp only [Act.put, List.setIfInBounds_toArray, List.set_cons_zero, List.set_cons_succ, i64_w, i32_w]
           rfl
          refine pure_ (i := 16) (N := some 78) (v := undef) (a' := ?_) #[T7,T7,T7,T7,T7,T7,T7,T7,T7,T7,T7,T7,T7,T7,T7,T7,T7,F7,F7,F7,F7,F7,F7,F7,F7,F7,F7,F7,F7,F7,F7,F7,F7,F7,F7,F7,F7] rfl rfl (any_of HT_.out (by kernel_rfl)) (fun _ _ _ h => h) (Or.inr ⟨by rfl, rfl⟩) ?_ ?_
          rotate_left
          ·simp only [Act.put, List.setIfInBounds_toArray, List.set_cons_zero, List.set_cons_succ, i64_w, i32_w]
           rfl
          refine pure_ (i := 17) (N := some 79) (v := undef) (a' := ?_) #[T7,T7,T7,T7,T7,T7,T7,T7,T7,T7,T7,T7,T7,T7,T7,T7,T7,T7,F7,F7,F7,F7,F7,F7,F7,F7,F7,F7,F7,F7,F7,F7,F7,F7,F7,F7,F7] rfl rfl (any_of HT_.out (by kernel_rfl)) (fun _ _ _ h => h) (Or.inr ⟨by rfl, rfl⟩) ?_ ?_
          rotate_left
          ·simp only [Act.put, List.setIfInBounds_toArray, List.set_cons_zero, List.set_cons_succ, i64_w, i32_w]
           rfl
          refine pure_ (i := 18) (N := some 80) (v := undef) (a' := ?_) #[T7,T7,T7,T7,T7,T7,T7,T7,T7,T7,T7,T7,T7,T7,T7,T7,T7,T7,T7,F7,F7,F7,F7,F7,F7,F7,F7,F7,F7,F7,F7,F7,F7,F7,F7,F7,F7] rfl rfl (any_of HT_.out (by kernel_rfl)) (fun _ _ _ h => h) (Or.inr ⟨by rfl, rfl⟩) ?_ ?_
          rotate_left
          ·simp only [Act.put, List.setIfInBounds_toArray, List.set_cons_zero, List.set_cons_succ, i64_w, i32_w]
           rfl
          refine pure_ (i := 19) (N := some 81) (v := undef) (a' := ?_) #[T7,T7,T7,T7,T7,T7,T7,T7,T7,T7,T7,T7,T7,T7,T7,T7,T7,T7,T7,T7,F7,F7,F7,F7,F7,F7,F7,F7,F7,F7,F7,F7,F7,F7,F7,F7,F7] rfl rfl (any_of HT_.out (by kernel_rfl)) (fun _ _ _ h => h) (Or.inr ⟨by rfl, rfl⟩) ?_ ?_
          rotate_left
          ·simp only [Act.put, List.setIfInBounds_toArray, List.set_cons_zero, List.set_cons_succ, i64_w, i32_w]
           rfl
          refine pure_ (i := 20) (N := some 82) (v := undef) (a' := ?_) #[T7,T7,T7,T7,T7,T7,T7,T7,T7,T7,T7,T7,T7,T7,T7,T7,T7,T7,T7,T7,T7,F7,F7,F7,F7,F7,F7,F7,F7,F7,F7,F7,F7,F7,F7,F7,F7] rfl rfl (any_of HT_.out (by kernel_rfl)) (fun _ _ _ h => h) (Or.inr ⟨by rfl, rfl⟩) ?_ ?_
          rotate_left
          ·simp only [Act.put, List.setIfInBounds_toArray, List.set_cons_zero, List.set_cons_succ, i64_w, i32_w]
           rfl
          refine pure_ (i := 21) (N := some 83) (v := undef) (a' := ?_) #[T7,T7,T7,T7,T7,T7,T7,T7,T7,T7,T7,T7,T7,T7,T7,T7,T7,T7,T7,T7,T7,T7,F7,F7,F7,F7,F7,F7,F7,F7,F7,F7,F7,F7,F7,F7,F7] rfl rfl (any_of HT_.out (by kernel_rfl)) (fun _ _ _ h => h) (Or.inr ⟨by rfl, rfl⟩) ?_ ?_
          rotate_left
          ·simp only [Act.put, List.setIfInBounds_toArray, List.set_cons_zero, List.set_cons_succ, i64_w, i32_w]
           rfl
          refine pure_ (i := 22) (N := some 84) (v := ?_) (a' := ?_) #[T7,T7,T7,T7,T7,T7,T7,T7,T7,T7,T7,T7,T7,T7,T7,T7,T7,T7,T7,T7,T7,T7,T7,F7,F7,F7,F7,F7,F7,F7,F7,F7,F7,F7,F7,F7,F7] rfl rfl (any_of HT_.out (by kernel_rfl)) (fun _ _ _ h => h) (Or.inl ⟨by rfl, ?_⟩) ?_ ?_
          rotate_left
          ·intro w'
           go_simp
           with_reducible rfl
          rotate_left
          ·simp only [Act.put, List.setIfInBounds_toArray, List.set_cons_zero, List.set_cons_succ, i64_w, i32_w]
           rfl
          refine pure_ (i := 23) (N := some 85) (v := ?_) (a' := ?_) #[T7,T7,T7,T7,T7,T7,T7,T7,T7,T7,T7,T7,T7,T7,T7,T7,T7,T7,T7,T7,T7,T7,T7,T7,F7,F7,F7,F7,F7,F7,F7,F7,F7,F7,F7,F7,F7] rfl rfl (any_of HT_.out (by kernel_rfl)) (fun _ _ _ h => h) (Or.inl ⟨by rfl, ?_⟩) ?_ ?_
          rotate_left
          ·intro w'
           go_simp
           with_reducible rfl
          rotate_left
          ·simp only [Act.put, List.setIfInBounds_toArray, List.set_cons_zero, List.set_cons_succ, i64_w, i32_w]
           rfl
          refine pure_ (i := 24) (N := some 86) (v := ?_) (a' := ?_) #[T7,T7,T7,T7,T7,T7,T7,T7,T7,T7,T7,T7,T7,T7,T7,T7,T7,T7,T7,T7,T7,T7,T7,T7,T7,F7,F7,F7,F7,F7,F7,F7,F7,F7,F7,F7,F7] rfl rfl (any_of HT_.out (by kernel_rfl)) (fun _ _ _ h => h) (Or.inl ⟨by rfl, ?_⟩) ?_ ?_
          rotate_left
          ·intro w'
           go_simp
           with_reducible rfl
          rotate_left
          ·simp only [Act.put, List.setIfInBounds_toArray, List.set_cons_zero, List.set_cons_succ, i64_w, i32_w]
           rfl
          refine pure_ (i := 25) (N := some 87) (v := ?_) (a' := ?_) #[T7,T7,T7,T7,T7,T7,T7,T7,T7,T7,T7,T7,T7,T7,T7,T7,T7,T7,T7,T7,T7,T7,T7,T7,T7,T7,F7,F7,F7,F7,F7,F7,F7,F7,F7,F7,F7] rfl rfl (any_of HT_.out (by kernel_rfl)) (fun _ _ _ h => h) (Or.inl ⟨by rfl, ?_⟩) ?_ ?_
          rotate_left
          ·intro w'
           go_simp
           with_reducible rfl
          rotate_left
          ·simp only [Act.put, List.setIfInBounds_toArray, List.set_cons_zero, List.set_cons_succ, i64_w, i32_w]
           rfl
          refine pure_ (i := 26) (N := some 88) (v := ?_) (a' := ?_) #[T7,T7,T7,T7,T7,T7,T7,T7,T7,T7,T7,T7,T7,T7,T7,T7,T7,T7,T7,T7,T7,T7,T7,T7,T7,T7,T7,F7,F7,F7,F7,F7,F7,F7,F7,F7,F7] rfl rfl (any_of HT_.out (by kernel_rfl)) (fun _ _ _ h => h) (Or.inl ⟨by rfl, ?_⟩) ?_ ?_
          rotate_left
          ·intro w'
           go_simp
           with_reducible rfl
          rotate_left
          ·simp only [Act.put, List.setIfInBounds_toArray, List.set_cons_zero, List.set_cons_succ, i64_w, i32_w]
           rfl
          refine pure_ (i := 27) (N := some 89) (v := ?_) (a' := ?_) #[T7,T7,T7,T7,T7,T7,T7,T7,T7,T7,T7,T7,T7,T7,T7,T7,T7,T7,T7,T7,T7,T7,T7,T7,T7,T7,T7,T7,F7,F7,F7,F7,F7,F7,F7,F7,F7] rfl rfl (any_of HT_.out (by kernel_rfl)) (fun _ _ _ h => h) (Or.inl ⟨by rfl, ?_⟩) ?_ ?_
          rotate_left
          ·intro w'
           go_simp
           with_reducible rfl
          rotate_left
          ·simp only [Act.put, List.setIfInBounds_toArray, List.set_cons_zero, List.set_cons_succ, i64_w, i32_w]
           rfl
          refine pure_ (i := 28) (N := some 90) (v := undef) (a' := ?_) #[T7,T7,T7,T7,T7,T7,T7,T7,T7,T7,T7,T7,T7,T7,T7,T7,T7,T7,T7,T7,T7,T7,T7,T7,T7,T7,T7,T7,T7,F7,F7,F7,F7,F7,F7,F7,F7] rfl rfl (any_of HT_.out (by kernel_rfl)) (fun _ _ _ h => h) (Or.inr ⟨by rfl, rfl⟩) ?_ ?_
          rotate_left
          ·simp only [Act.put, List.setIfInBounds_toArray, List.set_cons_zero, List.set_cons_succ, i64_w, i32_w]
           rfl
          refine pure_ (i := 29) (N := some 91) (v := undef) (a' := ?_) #[T7,T7,T7,T7,T7,T7,T7,T7,T7,T7,T7,T7,T7,T7,T7,T7,T7,T7,T7,T7,T7,T7,T7,T7,T7,T7,T7,T7,T7,T7,F7,F7,F7,F7,F7,F7,F7] rfl rfl (any_of HT_.out (by kernel_rfl)) (fun _ _ _ h => h) (Or.inr ⟨by rfl, rfl⟩) ?_ ?_
          rotate_left
          ·simp only [Act.put, List.setIfInBounds_toArray, List.set_cons_zero, List.set_cons_succ, i64_w, i32_w]
           rfl
          refine pure_ (i := 30) (N := some 92) (v := undef) (a' := ?_) #[T7,T7,T7,T7,T7,T7,T7,T7,T7,T7,T7,T7,T7,T7,T7,T7,T7,T7,T7,T7,T7,T7,T7,T7,T7,T7,T7,T7,T7,T7,T7,F7,F7,F7,F7,F7,F7] rfl rfl (any_of HT_.out (by kernel_rfl)) (fun _ _ _ h => h) (Or.inr ⟨by rfl, rfl⟩) ?_ ?_
          rotate_left
          ·simp only [Act.put, List.setIfInBounds_toArray, List.set_cons_zero, List.set_cons_succ, i64_w, i32_w]
           rfl
          refine pure_ (i := 31) (N := some 93) (v := undef) (a' := ?_) #[T7,T7,T7,T7,T7,T7,T7,T7,T7,T7,T7,T7,T7,T7,T7,T7,T7,T7,T7,T7,T7,T7,T7,T7,T7,T7,T7,T7,T7,T7,T7,T7,F7,F7,F7,F7,F7] rfl rfl (any_of HT_.out (by kernel_rfl)) (fun _ _ _ h => h) (Or.inr ⟨by rfl, rfl⟩) ?_ ?_
          rotate_left
          ·simp only [Act.put, List.setIfInBounds_toArray, List.set_cons_zero, List.set_cons_succ, i64_w, i32_w]
           rfl
          refine pure_ (i := 32) (N := some 94) (v := undef) (a' := ?_) #[T7,T7,T7,T7,T7,T7,T7,T7,T7,T7,T7,T7,T7,T7,T7,T7,T7,T7,T7,T7,T7,T7,T7,T7,T7,T7,T7,T7,T7,T7,T7,T7,T7,F7,F7,F7,F7] rfl rfl (any_of HT_.out (by kernel_rfl)) (fun _ _ _ h => h) (Or.inr ⟨by rfl, rfl⟩) ?_ ?_
          rotate_left
          ·simp only [Act.put, List.setIfInBounds_toArray, List.set_cons_zero, List.set_cons_succ, i64_w, i32_w]
           rfl
          refine pure_ (i := 33) (N := some 95) (v := undef) (a' := ?_) #[T7,T7,T7,T7,T7,T7,T7,T7,T7,T7,T7,T7,T7,T7,T7,T7,T7,T7,T7,T7,T7,T7,T7,T7,T7,T7,T7,T7,T7,T7,T7,T7,T7,T7,F7,F7,F7] rfl rfl (any_of HT_.out (by kernel_rfl)) (fun _ _ _ h => h) (Or.inr ⟨by rfl, rfl⟩) ?_ ?_
          rotate_left
          ·simp only [Act.put, List.setIfInBounds_toArray, List.set_cons_zero, List.set_cons_succ, i64_w, i32_w]
           rfl
          refine pure_ (i := 34) (N := some 96) (v := undef) (a' := ?_) #[T7,T7,T7,T7,T7,T7,T7,T7,T7,T7,T7,T7,T7,T7,T7,T7,T7,T7,T7,T7,T7,T7,T7,T7,T7,T7,T7,T7,T7,T7,T7,T7,T7,T7,T7,F7,F7] rfl rfl (any_of HT_.out (by kernel_rfl)) (fun _ _ _ h => h) (Or.inr ⟨by rfl, rfl⟩) ?_ ?_
          rotate_left
          ·simp only [Act.put, List.setIfInBounds_toArray, List.set_cons_zero, List.set_cons_succ, i64_w, i32_w]
           rfl
          refine pure_ (i := 35) (N := some 97) (v := ?_) (a' := ?_) #[T7,T7,T7,T7,T7,T7,T7,T7,T7,T7,T7,T7,T7,T7,T7,T7,T7,T7,T7,T7,T7,T7,T7,T7,T7,T7,T7,T7,T7,T7,T7,T7,T7,T7,T7,T7,F7] rfl rfl (any_of HT_.out (by kernel_rfl)) (fun _ _ _ h => h) (Or.inl ⟨by rfl, ?_⟩) ?_ ?_
          rotate_left
          ·intro w'
           go_simp
           with_reducible rfl
          rotate_left
          ·simp only [Act.put, List.setIfInBounds_toArray, List.set_cons_zero, List.set_cons_succ, i64_w, i32_w]
           rfl
          refine pure_ (i := 36) (N := some 98) (v := ?_) (a' := ?_) #[T7,T7,T7,T7,T7,T7,T7,T7,T7,T7,T7,T7,T7,T7,T7,T7,T7,T7,T7,T7,T7,T7,T7,T7,T7,T7,T7,T7,T7,T7,T7,T7,T7,T7,T7,T7,T7] rfl rfl (any_of HT_.out (by kernel_rfl)) (fun _ _ _ h => h) (Or.inl ⟨by rfl, ?_⟩) ?_ ?_
          rotate_left
          ·intro w'
           go_simp
           with_reducible rfl
          rotate_left
          ·simp only [Act.put, List.setIfInBounds_toArray, List.set_cons_zero, List.set_cons_succ, i64_w, i32_w]
           rfl
          refine done_ (done_of HT_.out (by kernel_rfl)) ?_
          try go_wp2_with (first | (go_at_call 16; (with_reducible refine (mapsheetslaw02_awake.calls kj5  t504 _ A142.out).mono ?_); rintro e w144 ⟨rfl, hb⟩; have n0_ := Aside0.mk (Kd.R_below (by (with_reducible repeat (first | apply Kd.R_alloc | apply Kd.R_drewN | apply Kd.R_drew)); exact HO_11.out) hb); have n1_ := Aside0.mk (below_step (by repeat (first | (with_reducible first | exact HB.out | apply below_alloc | apply pw_below_drewN | apply below_drew1) | exact HB.out)) hb); clear HO_11; clear HB; have HO_11 := n0_; have HB := n1_; clear n0_ n1_; (try clear hb); (try clear hb2); (try clear hk); (try clear hi)))
          go_ret
          exact ⟨by first | rfl | (simp [errW_none, errW_some] <;> rfl) | (simp [*, errW_none, errW_some] <;> rfl), by repeat (first | (with_reducible first | exact HB.out | apply below_alloc | apply pw_below_drewN | apply below_drew1) | exact HB.out)⟩
         ·rw [if_neg c141] at H
          exact absurd H (by simp)
        ·rw [if_neg c140] at H
         exact absurd H (by simp)
       ·rw [if_neg c139] at H
        exact absurd H (by simp)

/-- THE ONE PURE STATEMENT of mapsheetslaw02_WireUnique: yours. -/
def mapsheetslaw02_WireUnique.Pure : Prop := ∀ (l0 : List Int) (a1 : Int), l0.length ≤ maxLen → l0.length * 1 ≤ 140737488351232 → (∀ x ∈ l0, (Lit.int .u8 x).wf = true) → (Lit.int .i64 a1).wf = true → ∃ k, mapsheetslaw02_WireUnique.f k l0 a1 = some true
theorem mapsheetslaw02_WireUnique.walk (P : mapsheetslaw02_WireUnique.Pure) (a0 : Option Addr) (len0 cap0 : Nat) (z0 : List Int) (a1 : Int) (w : World) (w0 : (a0 = none ∧ len0 = 0 ∧ cap0 = 0 ∧ z0 = []) ∨ ∃ x, a0 = some x ∧ len0 ≤ cap0 ∧ cap0 ≤ maxLen ∧ z0.length = cap0 ∧ (∀ i, i < z0.length → w.cell? (x.add i) = some (.int .u8 (z0.getD i 0))) ∧ ∀ n ∈ z0, (Lit.int .u8 n).wf = true) (y0 : len0 * 1 ≤ 140737488351232) (w1 : (Lit.int .i64 a1).wf = true) :
  Calls Try.prog 7 #[.slice a0 len0 cap0, .int .i64 a1] w fun e w' => e = .returned (.bool true) ∧ Below w.heap.size w w' := by
 obtain ⟨l0, rfl, hr0, hm0, hw0, hc0⟩ := ReadsInt.ofRowC w0
 obtain ⟨k, h⟩ := P l0 a1 hm0 y0 hw0 w1
 refine (mapsheetslaw02_WireUnique.calls k _ _ l0 a1 true w (Kd.C_of_reads (d := (0 : Int)) (h1 := fun _ => rfl) hr0) hc0 h).mono ?_
 rintro e w' ⟨rfl, hd⟩
 exact ⟨rfl, hd⟩

end Go.Proofs.Ytkmgmiofmegjmaa.PA
