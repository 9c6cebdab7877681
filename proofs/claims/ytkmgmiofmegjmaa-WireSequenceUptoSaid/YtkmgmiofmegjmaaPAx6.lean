-- Written by wip/pp.py of this repository, on the kit's print program. Not trusted: Lean checks it.
import Derived.Test.YtkmgmiofmegjmaaPAx0
import Derived.Test.YtkmgmiofmegjmaaPAx1
import Derived.Test.YtkmgmiofmegjmaaPAx2
import Derived.Test.YtkmgmiofmegjmaaPAx3
import Derived.Test.YtkmgmiofmegjmaaPAx4
namespace Go.Proofs.Ytkmgmiofmegjmaa.PA
open Go.RowKit Go.Proofs.YtkmgmiofmegjmaaW.PrintWords Go.Proofs.YtkmgmiofmegjmaaW.PrintLast Go.Proofs.YtkmgmiofmegjmaaW.PrintMore
attribute [local go_sem] max2_int min2_int max_two min_two max_three min_three max_four min_four   -- for this text's walks alone
set_option linter.unusedVariables false
set_option linter.unusedSimpArgs false

/-! ### mapsheetslaw02_WireSequence: function 6 -/
mutual
def mapsheetslaw02_WireSequence.l0 : Nat → List (S42) → List Int → List Int → Int → Option (Bool)
  | 0, _, _, _, _ => none
  | k + 1, x0, x1, x5, x6 => if x6 < (x0.length : Int) then (if 0 ≤ x6 then (if ((rd_T42 x0 x6).f0) = 0 then ((wire_PutInt.f x5 ((rd_T42 x0 x6).f1)).bind fun t305 => (mapsheetslaw02_WireSequence.l0 k x0 x1 t305 (wrap64 (x6 + 1)))) else (if ((rd_T42 x0 x6).f0) = 1 then ((wire_PutText.f x5 ((rd_T42 x0 x6).f2)).bind fun t309 => (mapsheetslaw02_WireSequence.l0 k x0 x1 t309 (wrap64 (x6 + 1)))) else ((wire_PutList.f k x5 ((rd_T42 x0 x6).f3)).bind fun t313 => (mapsheetslaw02_WireSequence.l0 k x0 x1 t313 (wrap64 (x6 + 1)))))) else (none)) else ((some (([] : List Int) : List Int)).bind fun y316 => (if y316.length + x5.length < 140737488355328 then ((some (y316 ++ x5 : List Int)).bind fun y319 => (if y319.length + x1.length < 140737488355328 then (mapsheetslaw02_WireSequence.l1 k x0 x1 (y319 ++ x1) 0) else (none))) else (none)))
def mapsheetslaw02_WireSequence.l1 : Nat → List (S42) → List Int → List Int → Int → Option (Bool)
  | 0, _, _, _, _ => none
  | k + 1, x0, x1, x5, x7 => if x7 < (x0.length : Int) then (if 0 ≤ x7 then (if ((rd_T42 x0 x7).f0) = 0 then ((wire_Int.f k x5).bind fun bt331 => (if bt331.2.2 = 0 then (if bt331.2.1 < 1 then (none) else (if bt331.2.1 > (x5.length : Int) then (none) else (if bt331.1 = ((rd_T42 x0 x7).f1) then ((mapsheetsref02_SameInts.f k ((rd_T42 x0 x7).f3) ((rd_T42 x0 x7).f3)).bind fun t337 => (if t337 = true then (if 0 ≤ bt331.2.1 then (if bt331.2.1 ≤ (x5.length : Int) then (mapsheetslaw02_WireSequence.l1 k x0 x1 (x5.drop (bt331.2.1 : Int).toNat) (wrap64 (x7 + 1))) else (none)) else (none)) else (none))) else (none)))) else (none))) else (if ((rd_T42 x0 x7).f0) = 1 then ((wire_Text.f k x5 (((rd_T42 x0 x7).f2).size : Int)).bind fun bt342 => (if bt342.2.2 = 0 then (if bt342.2.1 < 1 then (none) else (if bt342.2.1 > (x5.length : Int) then (none) else (if bt342.1.toList = ((rd_T42 x0 x7).f2).toList then ((mapsheetsref02_SameInts.f k ((rd_T42 x0 x7).f3) ((rd_T42 x0 x7).f3)).bind fun t348 => (if t348 = true then (if 0 ≤ bt342.2.1 then (if bt342.2.1 ≤ (x5.length : Int) then (mapsheetslaw02_WireSequence.l1 k x0 x1 (x5.drop (bt342.2.1 : Int).toNat) (wrap64 (x7 + 1))) else (none)) else (none)) else (none))) else (none)))) else (none))) else ((wire_List.f k x5 (((rd_T42 x0 x7).f3).length : Int)).bind fun bt353 => (if bt353.2.2 = 0 then (if bt353.2.1 < 1 then (none) else (if bt353.2.1 > (x5.length : Int) then (none) else ((mapsheetsref02_SameInts.f k bt353.1 ((rd_T42 x0 x7).f3)).bind fun t361 => (if t361 = true then (if 0 ≤ bt353.2.1 then (if bt353.2.1 ≤ (x5.length : Int) then (mapsheetslaw02_WireSequence.l1 k x0 x1 (x5.drop (bt353.2.1 : Int).toNat) (wrap64 (x7 + 1))) else (none)) else (none)) else (none))))) else (none))))) else (none)) else ((mapsheetsref02_Same.f k x5 x1).bind fun t325 => (if t325 = true then ((mapsheetslaw02_awake.f k).bind fun t326 => (some t326)) else (none)))
end
def mapsheetslaw02_WireSequence.f (k : Nat) (l0 : List (S42)) (l1 : List Int) : Option (Bool) := if (l0.length : Int) > 100 then ((mapsheetslaw02_awake.f k).bind fun t302 => (some t302)) else (mapsheetslaw02_WireSequence.l0 k l0 l1 ([] : List Int) 0)
theorem mapsheetslaw02_WireSequence.mono_l : ∀ k, (∀ y0 y1 y2 y3, LeO (mapsheetslaw02_WireSequence.l0 k y0 y1 y2 y3) (mapsheetslaw02_WireSequence.l0 (k + 1) y0 y1 y2 y3)) ∧ (∀ y0 y1 y2 y3, LeO (mapsheetslaw02_WireSequence.l1 k y0 y1 y2 y3) (mapsheetslaw02_WireSequence.l1 (k + 1) y0 y1 y2 y3))
  | 0 => ⟨fun _ _ _ _ r h => by simp [mapsheetslaw02_WireSequence.l0] at h, fun _ _ _ _ r h => by simp [mapsheetslaw02_WireSequence.l1] at h⟩
  | k + 1 => by
    obtain ⟨ih0, ih1⟩ := mapsheetslaw02_WireSequence.mono_l k
    refine ⟨?_, ?_⟩
    · intro y0 y1 y2 y3
      unfold mapsheetslaw02_WireSequence.l0
      repeat' first
      | (with_reducible exact ih0 _ _ _ _)
      | (with_reducible exact ih1 _ _ _ _)
      | (with_reducible exact mapsheetslaw02_awake.mono _)
      | (with_reducible exact mapsheetsref02_Same.mono _ _ _)
      | (with_reducible exact mapsheetsref02_SameInts.mono _ _ _)
      | (with_reducible exact wire_Int.mono _ _)
      | (with_reducible exact wire_List.mono _ _ _)
      | (with_reducible exact wire_PutList.mono _ _ _)
      | (with_reducible exact wire_Text.mono _ _ _)
      | (with_reducible exact LeO.refl _)
      | (with_reducible exact LeO.none _)
      | (with_reducible refine LeO.ite ?_ ?_)
      | (with_reducible refine LeO.bind ?_ (fun _ => ?_))
      | exact ih0 _ _ _ _
      | exact ih1 _ _ _ _
      | exact mapsheetslaw02_awake.mono _
      | exact mapsheetsref02_Same.mono _ _ _
      | exact mapsheetsref02_SameInts.mono _ _ _
      | exact wire_Int.mono _ _
      | exact wire_List.mono _ _ _
      | exact wire_PutList.mono _ _ _
      | exact wire_Text.mono _ _ _
      | exact LeO.none _
      | refine LeO.ite ?_ ?_
      | refine LeO.bind ?_ (fun _ => ?_)
    · intro y0 y1 y2 y3
      unfold mapsheetslaw02_WireSequence.l1
      repeat' first
      | (with_reducible exact ih0 _ _ _ _)
      | (with_reducible exact ih1 _ _ _ _)
      | (with_reducible exact mapsheetslaw02_awake.mono _)
      | (with_reducible exact mapsheetsref02_Same.mono _ _ _)
      | (with_reducible exact mapsheetsref02_SameInts.mono _ _ _)
      | (with_reducible exact wire_Int.mono _ _)
      | (with_reducible exact wire_List.mono _ _ _)
      | (with_reducible exact wire_PutList.mono _ _ _)
      | (with_reducible exact wire_Text.mono _ _ _)
      | (with_reducible exact LeO.refl _)
      | (with_reducible exact LeO.none _)
      | (with_reducible refine LeO.ite ?_ ?_)
      | (with_reducible refine LeO.bind ?_ (fun _ => ?_))
      | exact ih0 _ _ _ _
      | exact ih1 _ _ _ _
      | exact mapsheetslaw02_awake.mono _
      | exact mapsheetsref02_Same.mono _ _ _
      | exact mapsheetsref02_SameInts.mono _ _ _
      | exact wire_Int.mono _ _
      | exact wire_List.mono _ _ _
      | exact wire_PutList.mono _ _ _
      | exact wire_Text.mono _ _ _
      | exact LeO.none _
      | refine LeO.ite ?_ ?_
      | refine LeO.bind ?_ (fun _ => ?_)
theorem mapsheetslaw02_WireSequence.mono : ∀ a0 a1 k, LeO (mapsheetslaw02_WireSequence.f k a0 a1) (mapsheetslaw02_WireSequence.f (k + 1) a0 a1) := by
  intro a0 a1 k
  obtain ⟨ih0, ih1⟩ := mapsheetslaw02_WireSequence.mono_l k
  unfold mapsheetslaw02_WireSequence.f
  repeat' first
      | (with_reducible exact ih0 _ _ _ _)
      | (with_reducible exact ih1 _ _ _ _)
      | (with_reducible exact mapsheetslaw02_awake.mono _)
      | (with_reducible exact mapsheetsref02_Same.mono _ _ _)
      | (with_reducible exact mapsheetsref02_SameInts.mono _ _ _)
      | (with_reducible exact wire_Int.mono _ _)
      | (with_reducible exact wire_List.mono _ _ _)
      | (with_reducible exact wire_PutList.mono _ _ _)
      | (with_reducible exact wire_Text.mono _ _ _)
      | (with_reducible exact LeO.refl _)
      | (with_reducible exact LeO.none _)
      | (with_reducible refine LeO.ite ?_ ?_)
      | (with_reducible refine LeO.bind ?_ (fun _ => ?_))
      | exact ih0 _ _ _ _
      | exact ih1 _ _ _ _
      | exact mapsheetslaw02_awake.mono _
      | exact mapsheetsref02_Same.mono _ _ _
      | exact mapsheetsref02_SameInts.mono _ _ _
      | exact wire_Int.mono _ _
      | exact wire_List.mono _ _ _
      | exact wire_PutList.mono _ _ _
      | exact wire_Text.mono _ _ _
      | exact LeO.none _
      | refine LeO.ite ?_ ?_
      | refine LeO.bind ?_ (fun _ => ?_)
set_option maxHeartbeats 8000000 in
set_option maxRecDepth 100000 in
theorem mapsheetslaw02_WireSequence.calls (k : Nat) (A0 : Option Addr) (c0 : Nat) (l0 : List (S42)) (A1 : Option Addr) (c1 : Nat) (l1 : List Int) (r : Bool) (w : World) (hr0 : Kd.C k42 w A0 l0.length l0) (hc0 : l0.length ≤ c0) (hr1 : Kd.C (Kd.int .u8) w A1 l1.length l1) (hc1 : l1.length ≤ c1) (h : mapsheetslaw02_WireSequence.f k l0 l1 = some r) :
    Calls Try.prog 6 #[.slice A0 l0.length c0, .slice A1 l1.length c1] w fun e w' => e = .returned (.bool r) ∧ Below w.heap.size w w' := by
  have HR0 := Aside0.mk hr0
  have HC0 := Aside0.mk hc0
  clear hr0 hc0
  have HR1 := Aside0.mk hr1
  have HC1 := Aside0.mk hc1
  clear hr1 hc1
  have HB := Aside0.mk (Below.refl w.heap.size w)
  have H : (if (l0.length : Int) > 100 then ((mapsheetslaw02_awake.f k).bind fun t302 => (some t302)) else (mapsheetslaw02_WireSequence.l0 k l0 l1 ([] : List Int) 0)) = some r := h
  clear h
  by_cases c3 : (l0.length : Int) > 100
  · rw [if_pos c3] at H
    have c3b0 : decide (100 < (l0.length : Int)) = true := decide_eq_true c3
    have c3b1 : decide (100 < l0.length) = true := decide_eq_true (by omega)
    clear c3
    replace H := Option.bind_eq_some_iff.mp H
    obtain ⟨t302, A40, H⟩ := H
    replace H : (some t302) = some r := H
    have A4 := Aside0.mk A40
    clear A40
    obtain rfl := Option.some.inj H
    go_enter Try.func6, Try.ntmps6
    go_wp2_with (first | (go_at_call 16; (with_reducible refine (mapsheetslaw02_awake.calls k  t302 _ A4.out).mono ?_); rintro e w5 ⟨rfl, hb⟩; have n0_ := Aside0.mk (below_step (by repeat (first | (with_reducible first | exact HB.out | apply below_alloc | apply pw_below_drewN | apply below_drew1) | exact HB.out)) hb); clear HB; have HB := n0_; clear n0_; (try clear hb); (try clear hb2); (try clear hk); (try clear hi)))
    repeat (go_quiet (first | (go_at_call 16; (with_reducible refine (mapsheetslaw02_awake.calls k  t302 _ A4.out).mono ?_); rintro e w5 ⟨rfl, hb⟩; have n0_ := Aside0.mk (below_step (by repeat (first | (with_reducible first | exact HB.out | apply below_alloc | apply pw_below_drewN | apply below_drew1) | exact HB.out)) hb); clear HB; have HB := n0_; clear n0_; (try clear hb); (try clear hb2); (try clear hk); (try clear hi))); try go_wp2_with (first | (go_at_call 16; (with_reducible refine (mapsheetslaw02_awake.calls k  t302 _ A4.out).mono ?_); rintro e w5 ⟨rfl, hb⟩; have n0_ := Aside0.mk (below_step (by repeat (first | (with_reducible first | exact HB.out | apply below_alloc | apply pw_below_drewN | apply below_drew1) | exact HB.out)) hb); clear HB; have HB := n0_; clear n0_; (try clear hb); (try clear hb2); (try clear hk); (try clear hi))))
    go_ret
    exact ⟨by first | rfl | (simp [errW_none, errW_some] <;> rfl) | (simp [*, errW_none, errW_some] <;> rfl), by repeat (first | (with_reducible first | exact HB.out | apply below_alloc | apply pw_below_drewN | apply below_drew1) | exact HB.out)⟩
  · rw [if_neg c3] at H
    have c3b0 : decide (100 < (l0.length : Int)) = false := decide_eq_false c3
    have c3b1 : decide (100 < l0.length) = false := decide_eq_false (by omega)
    clear c3
    have H' := Aside0.mk H
    clear H
    go_enter Try.func6, Try.ntmps6
    go_wp2
    repeat (go_quiet (fail); try go_wp2)
    go_loopg [5, 6] k (fun kq v5 v6 w' => ∃ (x5_1 : List Int) (x6_1 : Int), v6 = .int .i64 x6_1 ∧ Aside0 (mapsheetslaw02_WireSequence.l0 kq l0 l1 x5_1 x6_1 = some r) ∧ Aside0 (kq ≤ k) ∧ Aside0 (Kd.Q (Kd.int .u8) 5 w' w.heap.size (fun _ => True) v5 x5_1) ∧ Aside0 (Below w.heap.size w w'))
    case atStart => exact ⟨(([] : List Int)), (0), (by first | rfl | (simp; done) | (simp [*]; done)), H', ⟨Nat.le_refl _⟩, ⟨Kd.Q_of_R (by first | exact Kd.R_nil _ _ _ _ _ | exact Kd.N_nil _ _ _ _ _ | exact Kd.V_nil _ _ _ _ _ | exact Kd.Q_nil _ _ _ _ _ | exact Kd.S_nil _ _ _ _ _)⟩, ⟨by repeat (first | (with_reducible first | exact HB.out | apply below_alloc | apply pw_below_drewN | apply below_drew1) | exact HB.out)⟩⟩
    case round =>
      clear H'
      try clear c1
      try clear p2
      try clear c3
      try clear c3b0
      try clear c3b1
      obtain ⟨x5_1, x6_1, rfl, HA, HK1, HO_5, HB⟩ := hrel
      cases gk with
      | zero => exact absurd HA.out (by simp [mapsheetslaw02_WireSequence.l0])
      | succ k1 =>
        have H := HA.out
        clear HA
        simp only [mapsheetslaw02_WireSequence.l0] at H
        by_cases c6 : x6_1 < (l0.length : Int)
        · rw [if_pos c6] at H
          have c6b0 : decide (x6_1 < (l0.length : Int)) = true := decide_eq_true c6
          clear c6
          by_cases c7 : 0 ≤ x6_1
          · rw [if_pos c7] at H
            have c7b0 : decide (0 ≤ x6_1) = true := decide_eq_true c7
            clear c7
            by_cases c8 : ((rd_T42 l0 x6_1).f0) = 0
            · rw [if_pos c8] at H
              have c8b0 : (((rd_T42 l0 x6_1).f0) == 0) = true := beq_iff_eq.mpr c8
              have c8b1 : (((rd_T42 l0 x6_1).f0) != 0) = false := bne_eq_false_iff_eq.mpr c8
              clear c8
              replace H := Option.bind_eq_some_iff.mp H
              obtain ⟨t305, A90, H⟩ := H
              replace H : (mapsheetslaw02_WireSequence.l0 k1 l0 l1 t305 (wrap64 (x6_1 + 1))) = some r := H
              have A9 := Aside0.mk A90
              clear A90
              have H' := Aside0.mk H
              clear H
              have p303 : 0 ≤ (x6_1 : Int) := of_decide_eq_true (by first | (with_reducible assumption) | assumption)
              have q303 : x6_1 < (l0.length : Int) := of_decide_eq_true (by first | (with_reducible assumption) | assumption)
              obtain ⟨ad303, A303_3, c303_3, e303, hx303_0, hx303_1, hx303_2, hx303_3, hl303_3, hi303_3⟩ := at_T42 HR0.out x6_1 p303 q303
              cases e303
              replace hx303_0 := (HB.out.cell (World.block_lt_of_cell? w _ hx303_0)).trans hx303_0
              replace hx303_1 := (HB.out.cell (World.block_lt_of_cell? w _ hx303_1)).trans hx303_1
              replace hx303_2 := (HB.out.cell (World.block_lt_of_cell? w _ hx303_2)).trans hx303_2
              replace hx303_3 := (HB.out.cell (World.block_lt_of_cell? w _ hx303_3)).trans hx303_3
              have HR303_3 := Aside0.mk hi303_3
              have HC303_3 := Aside0.mk hl303_3
              clear hi303_3 hl303_3
              replace p303 := eq_true p303
              replace q303 := eq_true q303
              have p304 : 0 ≤ (x6_1 : Int) := of_decide_eq_true (by first | (with_reducible assumption) | assumption)
              have q304 : x6_1 < (l0.length : Int) := of_decide_eq_true (by first | (with_reducible assumption) | assumption)
              obtain ⟨ad304, A304_3, c304_3, e304, hx304_0, hx304_1, hx304_2, hx304_3, hl304_3, hi304_3⟩ := at_T42 HR0.out x6_1 p304 q304
              obtain rfl : ad303 = ad304 := (by injection e304)
              replace hx304_0 := (HB.out.cell (World.block_lt_of_cell? w _ hx304_0)).trans hx304_0
              replace hx304_1 := (HB.out.cell (World.block_lt_of_cell? w _ hx304_1)).trans hx304_1
              replace hx304_2 := (HB.out.cell (World.block_lt_of_cell? w _ hx304_2)).trans hx304_2
              replace hx304_3 := (HB.out.cell (World.block_lt_of_cell? w _ hx304_3)).trans hx304_3
              have HR304_3 := Aside0.mk hi304_3
              have HC304_3 := Aside0.mk hl304_3
              clear hi304_3 hl304_3
              replace p304 := eq_true p304
              replace q304 := eq_true q304
              have ea_ := Option.some.inj (hx303_3.symm.trans hx304_3)
              injection ea_ with ea_ en_ ec_
              subst ea_
              subst ec_
              clear en_
              obtain ⟨Ao10, co10, eo10, _⟩ := Kd.Q_slice HO_5.out
              subst eo10
              go_wp2_with (first | (go_at_call 14; (with_reducible refine (wire_PutInt.calls _ _ x5_1 ((rd_T42 l0 x6_1).f1) t305 _ ?side1 ?side2 A9.out).mono ?_); (case side1 => repeat (first | exact (Kd.Q_reads' HO_5.out).2.2 | (with_reducible refine Kd.C_alloc ?_ _) | (with_reducible refine Kd.C_drewN ?_ _) | (with_reducible refine Kd.C_drew ?_))); (case side2 => exact (Kd.Q_reads' HO_5.out).2.1); rintro e w11 ⟨v306, rfl, ho0, hb⟩; have n0_ := Aside0.mk (Kd.Q_elder' (by (with_reducible repeat (first | apply Kd.Q_alloc | apply Kd.Q_drewN | apply Kd.Q_drew)); exact HO_5.out) (Kd.R_base ho0) hb); have n1_ := Aside0.mk (Kd.R_lower (Kd.R_new' ho0 (Kd.Q_lt (by (with_reducible repeat (first | apply Kd.Q_alloc | apply Kd.Q_drewN | apply Kd.Q_drew)); exact HO_5.out))) (below_size (by repeat (first | (with_reducible first | exact HB.out | apply below_alloc | apply pw_below_drewN | apply below_drew1) | exact HB.out)))); have n2_ := Aside0.mk (below_step (by repeat (first | (with_reducible first | exact HB.out | apply below_alloc | apply pw_below_drewN | apply below_drew1) | exact HB.out)) hb); clear HO_5; clear HB; have HO_5 := n0_; have HO307 := n1_; have HB := n2_; clear n0_ n1_ n2_; (try clear hb); (try clear hb2); (try clear hk); (try clear hi); (try clear ho0)))
              repeat (go_quiet (first | (go_at_call 14; (with_reducible refine (wire_PutInt.calls _ _ x5_1 ((rd_T42 l0 x6_1).f1) t305 _ ?side1 ?side2 A9.out).mono ?_); (case side1 => repeat (first | exact (Kd.Q_reads' HO_5.out).2.2 | (with_reducible refine Kd.C_alloc ?_ _) | (with_reducible refine Kd.C_drewN ?_ _) | (with_reducible refine Kd.C_drew ?_))); (case side2 => exact (Kd.Q_reads' HO_5.out).2.1); rintro e w11 ⟨v306, rfl, ho0, hb⟩; have n0_ := Aside0.mk (Kd.Q_elder' (by (with_reducible repeat (first | apply Kd.Q_alloc | apply Kd.Q_drewN | apply Kd.Q_drew)); exact HO_5.out) (Kd.R_base ho0) hb); have n1_ := Aside0.mk (Kd.R_lower (Kd.R_new' ho0 (Kd.Q_lt (by (with_reducible repeat (first | apply Kd.Q_alloc | apply Kd.Q_drewN | apply Kd.Q_drew)); exact HO_5.out))) (below_size (by repeat (first | (with_reducible first | exact HB.out | apply below_alloc | apply pw_below_drewN | apply below_drew1) | exact HB.out)))); have n2_ := Aside0.mk (below_step (by repeat (first | (with_reducible first | exact HB.out | apply below_alloc | apply pw_below_drewN | apply below_drew1) | exact HB.out)) hb); clear HO_5; clear HB; have HO_5 := n0_; have HO307 := n1_; have HB := n2_; clear n0_ n1_ n2_; (try clear hb); (try clear hb2); (try clear hk); (try clear hi); (try clear ho0))); try go_wp2_with (first | (go_at_call 14; (with_reducible refine (wire_PutInt.calls _ _ x5_1 ((rd_T42 l0 x6_1).f1) t305 _ ?side1 ?side2 A9.out).mono ?_); (case side1 => repeat (first | exact (Kd.Q_reads' HO_5.out).2.2 | (with_reducible refine Kd.C_alloc ?_ _) | (with_reducible refine Kd.C_drewN ?_ _) | (with_reducible refine Kd.C_drew ?_))); (case side2 => exact (Kd.Q_reads' HO_5.out).2.1); rintro e w11 ⟨v306, rfl, ho0, hb⟩; have n0_ := Aside0.mk (Kd.Q_elder' (by (with_reducible repeat (first | apply Kd.Q_alloc | apply Kd.Q_drewN | apply Kd.Q_drew)); exact HO_5.out) (Kd.R_base ho0) hb); have n1_ := Aside0.mk (Kd.R_lower (Kd.R_new' ho0 (Kd.Q_lt (by (with_reducible repeat (first | apply Kd.Q_alloc | apply Kd.Q_drewN | apply Kd.Q_drew)); exact HO_5.out))) (below_size (by repeat (first | (with_reducible first | exact HB.out | apply below_alloc | apply pw_below_drewN | apply below_drew1) | exact HB.out)))); have n2_ := Aside0.mk (below_step (by repeat (first | (with_reducible first | exact HB.out | apply below_alloc | apply pw_below_drewN | apply below_drew1) | exact HB.out)) hb); clear HO_5; clear HB; have HO_5 := n0_; have HO307 := n1_; have HB := n2_; clear n0_ n1_ n2_; (try clear hb); (try clear hb2); (try clear hk); (try clear hi); (try clear ho0))))
              go_roundg k1
              case measure => have := HK1.out; omega
              case rel => exact ⟨(t305), (wrap64 (x6_1 + 1)), (by first | rfl | (simp; done) | (simp [*]; done)), H', ⟨by have := HK1.out; omega⟩, ⟨Kd.Q_of_R (by (with_reducible repeat (first | apply Kd.R_alloc | apply Kd.R_drewN | apply Kd.R_drew)); exact Kd.R_mono HO307.out (fun _ hk => trivial))⟩, ⟨by repeat (first | (with_reducible first | exact HB.out | apply below_alloc | apply pw_below_drewN | apply below_drew1) | exact HB.out)⟩⟩
            · rw [if_neg c8] at H
              have c8b0 : (((rd_T42 l0 x6_1).f0) == 0) = false := beq_eq_false_iff_ne.mpr c8
              have c8b1 : (((rd_T42 l0 x6_1).f0) != 0) = true := bne_iff_ne.mpr c8
              by_cases c12 : ((rd_T42 l0 x6_1).f0) = 1
              · rw [if_pos c12] at H
                have c12b0 : (((rd_T42 l0 x6_1).f0) == 1) = true := beq_iff_eq.mpr c12
                have c12b1 : (((rd_T42 l0 x6_1).f0) != 1) = false := bne_eq_false_iff_eq.mpr c12
                clear c12
                replace H := Option.bind_eq_some_iff.mp H
                obtain ⟨t309, A130, H⟩ := H
                replace H : (mapsheetslaw02_WireSequence.l0 k1 l0 l1 t309 (wrap64 (x6_1 + 1))) = some r := H
                have A13 := Aside0.mk A130
                clear A130
                have H' := Aside0.mk H
                clear H
                have p303 : 0 ≤ (x6_1 : Int) := of_decide_eq_true (by first | (with_reducible assumption) | assumption)
                have q303 : x6_1 < (l0.length : Int) := of_decide_eq_true (by first | (with_reducible assumption) | assumption)
                obtain ⟨ad303, A303_3, c303_3, e303, hx303_0, hx303_1, hx303_2, hx303_3, hl303_3, hi303_3⟩ := at_T42 HR0.out x6_1 p303 q303
                cases e303
                replace hx303_0 := (HB.out.cell (World.block_lt_of_cell? w _ hx303_0)).trans hx303_0
                replace hx303_1 := (HB.out.cell (World.block_lt_of_cell? w _ hx303_1)).trans hx303_1
                replace hx303_2 := (HB.out.cell (World.block_lt_of_cell? w _ hx303_2)).trans hx303_2
                replace hx303_3 := (HB.out.cell (World.block_lt_of_cell? w _ hx303_3)).trans hx303_3
                have HR303_3 := Aside0.mk hi303_3
                have HC303_3 := Aside0.mk hl303_3
                clear hi303_3 hl303_3
                replace p303 := eq_true p303
                replace q303 := eq_true q303
                have p308 : 0 ≤ (x6_1 : Int) := of_decide_eq_true (by first | (with_reducible assumption) | assumption)
                have q308 : x6_1 < (l0.length : Int) := of_decide_eq_true (by first | (with_reducible assumption) | assumption)
                obtain ⟨ad308, A308_3, c308_3, e308, hx308_0, hx308_1, hx308_2, hx308_3, hl308_3, hi308_3⟩ := at_T42 HR0.out x6_1 p308 q308
                obtain rfl : ad303 = ad308 := (by injection e308)
                replace hx308_0 := (HB.out.cell (World.block_lt_of_cell? w _ hx308_0)).trans hx308_0
                replace hx308_1 := (HB.out.cell (World.block_lt_of_cell? w _ hx308_1)).trans hx308_1
                replace hx308_2 := (HB.out.cell (World.block_lt_of_cell? w _ hx308_2)).trans hx308_2
                replace hx308_3 := (HB.out.cell (World.block_lt_of_cell? w _ hx308_3)).trans hx308_3
                have HR308_3 := Aside0.mk hi308_3
                have HC308_3 := Aside0.mk hl308_3
                clear hi308_3 hl308_3
                replace p308 := eq_true p308
                replace q308 := eq_true q308
                have ea_ := Option.some.inj (hx303_3.symm.trans hx308_3)
                injection ea_ with ea_ en_ ec_
                subst ea_
                subst ec_
                clear en_
                obtain ⟨Ao14, co14, eo14, _⟩ := Kd.Q_slice HO_5.out
                subst eo14
                go_wp2_with (first | (go_at_call 19; (with_reducible refine (wire_PutText.calls _ _ x5_1 ((rd_T42 l0 x6_1).f2) t309 _ ?side1 ?side2 A13.out).mono ?_); (case side1 => repeat (first | exact (Kd.Q_reads' HO_5.out).2.2 | (with_reducible refine Kd.C_alloc ?_ _) | (with_reducible refine Kd.C_drewN ?_ _) | (with_reducible refine Kd.C_drew ?_))); (case side2 => exact (Kd.Q_reads' HO_5.out).2.1); rintro e w15 ⟨v310, rfl, ho0, hb⟩; have n0_ := Aside0.mk (Kd.Q_elder' (by (with_reducible repeat (first | apply Kd.Q_alloc | apply Kd.Q_drewN | apply Kd.Q_drew)); exact HO_5.out) (Kd.R_base ho0) hb); have n1_ := Aside0.mk (Kd.R_lower (Kd.R_new' ho0 (Kd.Q_lt (by (with_reducible repeat (first | apply Kd.Q_alloc | apply Kd.Q_drewN | apply Kd.Q_drew)); exact HO_5.out))) (below_size (by repeat (first | (with_reducible first | exact HB.out | apply below_alloc | apply pw_below_drewN | apply below_drew1) | exact HB.out)))); have n2_ := Aside0.mk (below_step (by repeat (first | (with_reducible first | exact HB.out | apply below_alloc | apply pw_below_drewN | apply below_drew1) | exact HB.out)) hb); clear HO_5; clear HB; have HO_5 := n0_; have HO311 := n1_; have HB := n2_; clear n0_ n1_ n2_; (try clear hb); (try clear hb2); (try clear hk); (try clear hi); (try clear ho0)))
                repeat (go_quiet (first | (go_at_call 19; (with_reducible refine (wire_PutText.calls _ _ x5_1 ((rd_T42 l0 x6_1).f2) t309 _ ?side1 ?side2 A13.out).mono ?_); (case side1 => repeat (first | exact (Kd.Q_reads' HO_5.out).2.2 | (with_reducible refine Kd.C_alloc ?_ _) | (with_reducible refine Kd.C_drewN ?_ _) | (with_reducible refine Kd.C_drew ?_))); (case side2 => exact (Kd.Q_reads' HO_5.out).2.1); rintro e w15 ⟨v310, rfl, ho0, hb⟩; have n0_ := Aside0.mk (Kd.Q_elder' (by (with_reducible repeat (first | apply Kd.Q_alloc | apply Kd.Q_drewN | apply Kd.Q_drew)); exact HO_5.out) (Kd.R_base ho0) hb); have n1_ := Aside0.mk (Kd.R_lower (Kd.R_new' ho0 (Kd.Q_lt (by (with_reducible repeat (first | apply Kd.Q_alloc | apply Kd.Q_drewN | apply Kd.Q_drew)); exact HO_5.out))) (below_size (by repeat (first | (with_reducible first | exact HB.out | apply below_alloc | apply pw_below_drewN | apply below_drew1) | exact HB.out)))); have n2_ := Aside0.mk (below_step (by repeat (first | (with_reducible first | exact HB.out | apply below_alloc | apply pw_below_drewN | apply below_drew1) | exact HB.out)) hb); clear HO_5; clear HB; have HO_5 := n0_; have HO311 := n1_; have HB := n2_; clear n0_ n1_ n2_; (try clear hb); (try clear hb2); (try clear hk); (try clear hi); (try clear ho0))); try go_wp2_with (first | (go_at_call 19; (with_reducible refine (wire_PutText.calls _ _ x5_1 ((rd_T42 l0 x6_1).f2) t309 _ ?side1 ?side2 A13.out).mono ?_); (case side1 => repeat (first | exact (Kd.Q_reads' HO_5.out).2.2 | (with_reducible refine Kd.C_alloc ?_ _) | (with_reducible refine Kd.C_drewN ?_ _) | (with_reducible refine Kd.C_drew ?_))); (case side2 => exact (Kd.Q_reads' HO_5.out).2.1); rintro e w15 ⟨v310, rfl, ho0, hb⟩; have n0_ := Aside0.mk (Kd.Q_elder' (by (with_reducible repeat (first | apply Kd.Q_alloc | apply Kd.Q_drewN | apply Kd.Q_drew)); exact HO_5.out) (Kd.R_base ho0) hb); have n1_ := Aside0.mk (Kd.R_lower (Kd.R_new' ho0 (Kd.Q_lt (by (with_reducible repeat (first | apply Kd.Q_alloc | apply Kd.Q_drewN | apply Kd.Q_drew)); exact HO_5.out))) (below_size (by repeat (first | (with_reducible first | exact HB.out | apply below_alloc | apply pw_below_drewN | apply below_drew1) | exact HB.out)))); have n2_ := Aside0.mk (below_step (by repeat (first | (with_reducible first | exact HB.out | apply below_alloc | apply pw_below_drewN | apply below_drew1) | exact HB.out)) hb); clear HO_5; clear HB; have HO_5 := n0_; have HO311 := n1_; have HB := n2_; clear n0_ n1_ n2_; (try clear hb); (try clear hb2); (try clear hk); (try clear hi); (try clear ho0))))
                go_roundg k1
                case measure => have := HK1.out; omega
                case rel => exact ⟨(t309), (wrap64 (x6_1 + 1)), (by first | rfl | (simp; done) | (simp [*]; done)), H', ⟨by have := HK1.out; omega⟩, ⟨Kd.Q_of_R (by (with_reducible repeat (first | apply Kd.R_alloc | apply Kd.R_drewN | apply Kd.R_drew)); exact Kd.R_mono HO311.out (fun _ hk => trivial))⟩, ⟨by repeat (first | (with_reducible first | exact HB.out | apply below_alloc | apply pw_below_drewN | apply below_drew1) | exact HB.out)⟩⟩
              · rw [if_neg c12] at H
                have c12b0 : (((rd_T42 l0 x6_1).f0) == 1) = false := beq_eq_false_iff_ne.mpr c12
                have c12b1 : (((rd_T42 l0 x6_1).f0) != 1) = true := bne_iff_ne.mpr c12
                replace H := Option.bind_eq_some_iff.mp H
                obtain ⟨t313, A160, H⟩ := H
                replace H : (mapsheetslaw02_WireSequence.l0 k1 l0 l1 t313 (wrap64 (x6_1 + 1))) = some r := H
                have A16 := Aside0.mk A160
                clear A160
                have H' := Aside0.mk H
                clear H
                have p303 : 0 ≤ (x6_1 : Int) := of_decide_eq_true (by first | (with_reducible assumption) | assumption)
                have q303 : x6_1 < (l0.length : Int) := of_decide_eq_true (by first | (with_reducible assumption) | assumption)
                obtain ⟨ad303, A303_3, c303_3, e303, hx303_0, hx303_1, hx303_2, hx303_3, hl303_3, hi303_3⟩ := at_T42 HR0.out x6_1 p303 q303
                cases e303
                replace hx303_0 := (HB.out.cell (World.block_lt_of_cell? w _ hx303_0)).trans hx303_0
                replace hx303_1 := (HB.out.cell (World.block_lt_of_cell? w _ hx303_1)).trans hx303_1
                replace hx303_2 := (HB.out.cell (World.block_lt_of_cell? w _ hx303_2)).trans hx303_2
                replace hx303_3 := (HB.out.cell (World.block_lt_of_cell? w _ hx303_3)).trans hx303_3
                have HR303_3 := Aside0.mk hi303_3
                have HC303_3 := Aside0.mk hl303_3
                clear hi303_3 hl303_3
                replace p303 := eq_true p303
                replace q303 := eq_true q303
                have p312 : 0 ≤ (x6_1 : Int) := of_decide_eq_true (by first | (with_reducible assumption) | assumption)
                have q312 : x6_1 < (l0.length : Int) := of_decide_eq_true (by first | (with_reducible assumption) | assumption)
                obtain ⟨ad312, A312_3, c312_3, e312, hx312_0, hx312_1, hx312_2, hx312_3, hl312_3, hi312_3⟩ := at_T42 HR0.out x6_1 p312 q312
                obtain rfl : ad303 = ad312 := (by injection e312)
                replace hx312_0 := (HB.out.cell (World.block_lt_of_cell? w _ hx312_0)).trans hx312_0
                replace hx312_1 := (HB.out.cell (World.block_lt_of_cell? w _ hx312_1)).trans hx312_1
                replace hx312_2 := (HB.out.cell (World.block_lt_of_cell? w _ hx312_2)).trans hx312_2
                replace hx312_3 := (HB.out.cell (World.block_lt_of_cell? w _ hx312_3)).trans hx312_3
                have HR312_3 := Aside0.mk hi312_3
                have HC312_3 := Aside0.mk hl312_3
                clear hi312_3 hl312_3
                replace p312 := eq_true p312
                replace q312 := eq_true q312
                have ea_ := Option.some.inj (hx303_3.symm.trans hx312_3)
                injection ea_ with ea_ en_ ec_
                subst ea_
                subst ec_
                clear en_
                obtain ⟨Ao17, co17, eo17, _⟩ := Kd.Q_slice HO_5.out
                subst eo17
                go_wp2_with (first | (go_at_call 23; (with_reducible refine (wire_PutList.calls k1 _ _ x5_1 _ _ ((rd_T42 l0 x6_1).f3) t313 _ ?side1 ?side2 ?side3 ?side4 A16.out).mono ?_); (case side1 => repeat (first | exact (Kd.Q_reads' HO_5.out).2.2 | (with_reducible refine Kd.C_alloc ?_ _) | (with_reducible refine Kd.C_drewN ?_ _) | (with_reducible refine Kd.C_drew ?_))); (case side2 => exact (Kd.Q_reads' HO_5.out).2.1); (case side3 => repeat (first | exact (Kd.C_below HR312_3.out HB.out) | (with_reducible refine Kd.C_alloc ?_ _) | (with_reducible refine Kd.C_drewN ?_ _) | (with_reducible refine Kd.C_drew ?_))); (case side4 => exact HC312_3.out); rintro e w18 ⟨v314, rfl, ho0, hb⟩; have n0_ := Aside0.mk (Kd.Q_elder' (by (with_reducible repeat (first | apply Kd.Q_alloc | apply Kd.Q_drewN | apply Kd.Q_drew)); exact HO_5.out) (Kd.R_base ho0) hb); have n1_ := Aside0.mk (Kd.R_lower (Kd.R_new' ho0 (Kd.Q_lt (by (with_reducible repeat (first | apply Kd.Q_alloc | apply Kd.Q_drewN | apply Kd.Q_drew)); exact HO_5.out))) (below_size (by repeat (first | (with_reducible first | exact HB.out | apply below_alloc | apply pw_below_drewN | apply below_drew1) | exact HB.out)))); have n2_ := Aside0.mk (below_step (by repeat (first | (with_reducible first | exact HB.out | apply below_alloc | apply pw_below_drewN | apply below_drew1) | exact HB.out)) hb); clear HO_5; clear HB; have HO_5 := n0_; have HO315 := n1_; have HB := n2_; clear n0_ n1_ n2_; (try clear hb); (try clear hb2); (try clear hk); (try clear hi); (try clear ho0)))
                repeat (go_quiet (first | (go_at_call 23; (with_reducible refine (wire_PutList.calls k1 _ _ x5_1 _ _ ((rd_T42 l0 x6_1).f3) t313 _ ?side1 ?side2 ?side3 ?side4 A16.out).mono ?_); (case side1 => repeat (first | exact (Kd.Q_reads' HO_5.out).2.2 | (with_reducible refine Kd.C_alloc ?_ _) | (with_reducible refine Kd.C_drewN ?_ _) | (with_reducible refine Kd.C_drew ?_))); (case side2 => exact (Kd.Q_reads' HO_5.out).2.1); (case side3 => repeat (first | exact (Kd.C_below HR312_3.out HB.out) | (with_reducible refine Kd.C_alloc ?_ _) | (with_reducible refine Kd.C_drewN ?_ _) | (with_reducible refine Kd.C_drew ?_))); (case side4 => exact HC312_3.out); rintro e w18 ⟨v314, rfl, ho0, hb⟩; have n0_ := Aside0.mk (Kd.Q_elder' (by (with_reducible repeat (first | apply Kd.Q_alloc | apply Kd.Q_drewN | apply Kd.Q_drew)); exact HO_5.out) (Kd.R_base ho0) hb); have n1_ := Aside0.mk (Kd.R_lower (Kd.R_new' ho0 (Kd.Q_lt (by (with_reducible repeat (first | apply Kd.Q_alloc | apply Kd.Q_drewN | apply Kd.Q_drew)); exact HO_5.out))) (below_size (by repeat (first | (with_reducible first | exact HB.out | apply below_alloc | apply pw_below_drewN | apply below_drew1) | exact HB.out)))); have n2_ := Aside0.mk (below_step (by repeat (first | (with_reducible first | exact HB.out | apply below_alloc | apply pw_below_drewN | apply below_drew1) | exact HB.out)) hb); clear HO_5; clear HB; have HO_5 := n0_; have HO315 := n1_; have HB := n2_; clear n0_ n1_ n2_; (try clear hb); (try clear hb2); (try clear hk); (try clear hi); (try clear ho0))); try go_wp2_with (first | (go_at_call 23; (with_reducible refine (wire_PutList.calls k1 _ _ x5_1 _ _ ((rd_T42 l0 x6_1).f3) t313 _ ?side1 ?side2 ?side3 ?side4 A16.out).mono ?_); (case side1 => repeat (first | exact (Kd.Q_reads' HO_5.out).2.2 | (with_reducible refine Kd.C_alloc ?_ _) | (with_reducible refine Kd.C_drewN ?_ _) | (with_reducible refine Kd.C_drew ?_))); (case side2 => exact (Kd.Q_reads' HO_5.out).2.1); (case side3 => repeat (first | exact (Kd.C_below HR312_3.out HB.out) | (with_reducible refine Kd.C_alloc ?_ _) | (with_reducible refine Kd.C_drewN ?_ _) | (with_reducible refine Kd.C_drew ?_))); (case side4 => exact HC312_3.out); rintro e w18 ⟨v314, rfl, ho0, hb⟩; have n0_ := Aside0.mk (Kd.Q_elder' (by (with_reducible repeat (first | apply Kd.Q_alloc | apply Kd.Q_drewN | apply Kd.Q_drew)); exact HO_5.out) (Kd.R_base ho0) hb); have n1_ := Aside0.mk (Kd.R_lower (Kd.R_new' ho0 (Kd.Q_lt (by (with_reducible repeat (first | apply Kd.Q_alloc | apply Kd.Q_drewN | apply Kd.Q_drew)); exact HO_5.out))) (below_size (by repeat (first | (with_reducible first | exact HB.out | apply below_alloc | apply pw_below_drewN | apply below_drew1) | exact HB.out)))); have n2_ := Aside0.mk (below_step (by repeat (first | (with_reducible first | exact HB.out | apply below_alloc | apply pw_below_drewN | apply below_drew1) | exact HB.out)) hb); clear HO_5; clear HB; have HO_5 := n0_; have HO315 := n1_; have HB := n2_; clear n0_ n1_ n2_; (try clear hb); (try clear hb2); (try clear hk); (try clear hi); (try clear ho0))))
                go_roundg k1
                case measure => have := HK1.out; omega
                case rel => exact ⟨(t313), (wrap64 (x6_1 + 1)), (by first | rfl | (simp; done) | (simp [*]; done)), H', ⟨by have := HK1.out; omega⟩, ⟨Kd.Q_of_R (by (with_reducible repeat (first | apply Kd.R_alloc | apply Kd.R_drewN | apply Kd.R_drew)); exact Kd.R_mono HO315.out (fun _ hk => trivial))⟩, ⟨by repeat (first | (with_reducible first | exact HB.out | apply below_alloc | apply pw_below_drewN | apply below_drew1) | exact HB.out)⟩⟩
          · rw [if_neg c7] at H
            exact absurd H (by simp)
        · rw [if_neg c6] at H
          have c6b0 : decide (x6_1 < (l0.length : Int)) = false := decide_eq_false c6
          clear c6
          obtain ⟨y316, hy316⟩ : ∃ y_ : List Int, y_ = (([] : List Int)) := ⟨_, rfl⟩
          replace H : (if y316.length + x5_1.length < 140737488355328 then ((some (y316 ++ x5_1 : List Int)).bind fun y319 => (if y319.length + l1.length < 140737488355328 then (mapsheetslaw02_WireSequence.l1 k1 l0 l1 (y319 ++ l1) 0) else (none))) else (none)) = some r := by first | (rw [hy316]; with_reducible exact H) | (have H2_ := (Option.bind_some _ _).symm.trans H; rw [hy316]; with_reducible exact H2_) | (have H2_ := (Option.bind_some _ _).symm.trans H; with_reducible exact H2_) | with_reducible exact H | (rw [hy316]; exact H) | exact H
          have Ny316 := Aside0.mk hy316
          clear hy316
          by_cases c19 : y316.length + x5_1.length < 140737488355328
          · rw [if_pos c19] at H
            have LMc19 := Aside0.mk c19
            clear c19
            obtain ⟨y319, hy319⟩ : ∃ y_ : List Int, y_ = (y316 ++ x5_1) := ⟨_, rfl⟩
            replace H : (if y319.length + l1.length < 140737488355328 then (mapsheetslaw02_WireSequence.l1 k1 l0 l1 (y319 ++ l1) 0) else (none)) = some r := by first | (rw [hy319]; with_reducible exact H) | (have H2_ := (Option.bind_some _ _).symm.trans H; rw [hy319]; with_reducible exact H2_) | (have H2_ := (Option.bind_some _ _).symm.trans H; with_reducible exact H2_) | with_reducible exact H | (rw [hy319]; exact H) | exact H
            have Ny319 := Aside0.mk hy319
            clear hy319
            by_cases c20 : y319.length + l1.length < 140737488355328
            · rw [if_pos c20] at H
              have LMc20 := Aside0.mk c20
              clear c20
              obtain ⟨y322, hy322⟩ : ∃ y_ : List Int, y_ = (y319 ++ l1) := ⟨_, rfl⟩
              replace H : (mapsheetslaw02_WireSequence.l1 k1 l0 l1 y322 0) = some r := by first | (rw [hy322]; with_reducible exact H) | (have H2_ := (Option.bind_some _ _).symm.trans H; rw [hy322]; with_reducible exact H2_) | (have H2_ := (Option.bind_some _ _).symm.trans H; with_reducible exact H2_) | with_reducible exact H | (rw [hy322]; exact H) | exact H
              have Ny322 := Aside0.mk hy322
              clear hy322
              have H' := Aside0.mk H
              clear H
              go_wp2_with (first | ((with_reducible refine gate_dst (N := 53) rfl ?_); (try (refine gate_guard (by rfl) ?_; dsimp only)); refine Kd.R_lit (Kd.int .u8) _ 5 ?hg (N := 53) ?hd (xs := ([] : List Int)) (inner := []) (ok := fun _ => True) (okp := fun _ => True) ?hr ?hp (fun _ hk => hk) trivial (Below.refl _ _) (Nat.le_refl _) (by simp) ?_; (case hd => rfl); (case hg => rfl); (case hr => first | (go_simp; done) | (go_simp; rfl)); (case hp => exact (Reps.none _ _)); intro v317 w21 ho22 hb hg_ hnew_; clear hg_ hnew_; (first | rw [← Ny316.out] at ho22 | (simp only [Int.reduceToNat] at ho22; rw [← Ny316.out] at ho22)); have n0_ := Aside0.mk (Kd.Q_elder' (by (with_reducible repeat (first | apply Kd.Q_alloc | apply Kd.Q_drewN | apply Kd.Q_drew)); exact HO_5.out) (Kd.R_base ho22) hb); have n1_ := Aside0.mk (Kd.R_lower (Kd.R_new' ho22 (Kd.Q_lt (by (with_reducible repeat (first | apply Kd.Q_alloc | apply Kd.Q_drewN | apply Kd.Q_drew)); exact HO_5.out))) (below_size (by repeat (first | (with_reducible first | exact HB.out | apply below_alloc | apply pw_below_drewN | apply below_drew1) | exact HB.out)))); have n2_ := Aside0.mk (below_step (by repeat (first | (with_reducible first | exact HB.out | apply below_alloc | apply pw_below_drewN | apply below_drew1) | exact HB.out)) hb); clear HO_5; clear HB; have HO_5 := n0_; have HO318 := n1_; have HB := n2_; clear n0_ n1_ n2_; clear hb ho22; obtain ⟨Ao24, co24, eo24, _⟩ := Kd.Q_slice HO_5.out; subst eo24) | ((with_reducible refine gate_builtin (b := .append) (xs := #[.tmp 53, .tmp 54]) rfl ?_); (try (refine gate_guard (by rfl) ?_; dsimp only)); at_builtin; refine Kd.R_append_rows (Kd.int .u8) (w0 := w) w.heap.size rfl (.tmp 53) (.tmp 54) 22 5 (.int .u8 0) 1 rfl Try.underlying22 info5 rfl (by decide) (by omega) v317 y316 x5_1 _ _ _ (fun k_ => some k_ ≠ (.slice Ao24 x5_1.length co24 : Value).ownBlock) (fun _ => False) rfl rfl ?aO ?aR (fun _ _ h => h) (fun _ h => h.elim) ?aF ?aB ?aS ?aL ?_; (case aR => repeat (first | exact (Kd.Q_reads' HO_5.out).2.2 | (with_reducible refine Kd.C_alloc ?_ _) | (with_reducible refine Kd.C_drewN ?_ _) | (with_reducible refine Kd.C_drew ?_))); (case aB => exact (by repeat (first | (with_reducible first | exact HB.out | apply below_alloc | apply pw_below_drewN | apply below_drew1) | exact HB.out))); (case aF => exact (fun k_ hk => Kd.fresh' (Kd.Q_lt (by (with_reducible repeat (first | apply Kd.Q_alloc | apply Kd.Q_drewN | apply Kd.Q_drew)); exact HO_5.out)) k_ hk)); (case aO => exact (by (with_reducible repeat (first | apply Kd.R_alloc | apply Kd.R_drewN | apply Kd.R_drew)); exact Kd.R_mono HO318.out (fun _ hk => hk.2))); (case aS => exact (below_size (by repeat (first | (with_reducible first | exact HB.out | apply below_alloc | apply pw_below_drewN | apply below_drew1) | exact HB.out)))); (case aL => have := LMc19.out; omega); intro v320 w23 ho hb hg hat; rw [← Ny319.out] at ho; have n0_ := Aside0.mk (Kd.Q_after (ok := (fun _ => True)) (by (with_reducible repeat (first | apply Kd.Q_alloc | apply Kd.Q_drewN | apply Kd.Q_drew)); exact HO_5.out) hg hat); have n1_ := Aside0.mk (hb); have n2_ := Aside0.mk (ho); clear HO_5; clear HB; clear HO318; have HO_5 := n0_; have HB := n1_; have HO321 := n2_; clear n0_ n1_ n2_; clear ho hb hg hat) | ((with_reducible refine gate_builtin (b := .append) (xs := #[.tmp 55, .tmp 56]) rfl ?_); (try (refine gate_guard (by rfl) ?_; dsimp only)); at_builtin; refine Kd.R_append_rows (Kd.int .u8) (w0 := w) w.heap.size rfl (.tmp 55) (.tmp 56) 22 5 (.int .u8 0) 1 rfl Try.underlying22 info5 rfl (by decide) (by omega) v320 y319 l1 _ _ _ (fun k_ => some k_ ≠ (.slice Ao24 x5_1.length co24 : Value).ownBlock) (fun _ => False) rfl rfl ?aO ?aR (fun _ _ h => h) (fun _ h => h.elim) ?aF ?aB ?aS ?aL ?_; (case aR => repeat (first | exact (Kd.C_below HR1.out HB.out) | (with_reducible refine Kd.C_alloc ?_ _) | (with_reducible refine Kd.C_drewN ?_ _) | (with_reducible refine Kd.C_drew ?_))); (case aB => exact (by repeat (first | (with_reducible first | exact HB.out | apply below_alloc | apply pw_below_drewN | apply below_drew1) | exact HB.out))); (case aF => exact (fun k_ hk => Kd.fresh' (Kd.Q_lt (by (with_reducible repeat (first | apply Kd.Q_alloc | apply Kd.Q_drewN | apply Kd.Q_drew)); exact HO_5.out)) k_ hk)); (case aO => exact (by (with_reducible repeat (first | apply Kd.R_alloc | apply Kd.R_drewN | apply Kd.R_drew)); exact HO321.out)); (case aS => exact (below_size (by repeat (first | (with_reducible first | exact HB.out | apply below_alloc | apply pw_below_drewN | apply below_drew1) | exact HB.out)))); (case aL => have := LMc20.out; omega); intro v323 w25 ho hb hg hat; rw [← Ny322.out] at ho; have n0_ := Aside0.mk (Kd.Q_after (ok := (fun _ => True)) (by (with_reducible repeat (first | apply Kd.Q_alloc | apply Kd.Q_drewN | apply Kd.Q_drew)); exact HO_5.out) hg hat); have n1_ := Aside0.mk (hb); have n2_ := Aside0.mk (ho); clear HO_5; clear HB; clear HO321; have HO_5 := n0_; have HB := n1_; have HO324 := n2_; clear n0_ n1_ n2_; clear ho hb hg hat))
              repeat (go_quiet (first | ((with_reducible refine gate_dst (N := 53) rfl ?_); (try (refine gate_guard (by rfl) ?_; dsimp only)); refine Kd.R_lit (Kd.int .u8) _ 5 ?hg (N := 53) ?hd (xs := ([] : List Int)) (inner := []) (ok := fun _ => True) (okp := fun _ => True) ?hr ?hp (fun _ hk => hk) trivial (Below.refl _ _) (Nat.le_refl _) (by simp) ?_; (case hd => rfl); (case hg => rfl); (case hr => first | (go_simp; done) | (go_simp; rfl)); (case hp => exact (Reps.none _ _)); intro v317 w21 ho22 hb hg_ hnew_; clear hg_ hnew_; (first | rw [← Ny316.out] at ho22 | (simp only [Int.reduceToNat] at ho22; rw [← Ny316.out] at ho22)); have n0_ := Aside0.mk (Kd.Q_elder' (by (with_reducible repeat (first | apply Kd.Q_alloc | apply Kd.Q_drewN | apply Kd.Q_drew)); exact HO_5.out) (Kd.R_base ho22) hb); have n1_ := Aside0.mk (Kd.R_lower (Kd.R_new' ho22 (Kd.Q_lt (by (with_reducible repeat (first | apply Kd.Q_alloc | apply Kd.Q_drewN | apply Kd.Q_drew)); exact HO_5.out))) (below_size (by repeat (first | (with_reducible first | exact HB.out | apply below_alloc | apply pw_below_drewN | apply below_drew1) | exact HB.out)))); have n2_ := Aside0.mk (below_step (by repeat (first | (with_reducible first | exact HB.out | apply below_alloc | apply pw_below_drewN | apply below_drew1) | exact HB.out)) hb); clear HO_5; clear HB; have HO_5 := n0_; have HO318 := n1_; have HB := n2_; clear n0_ n1_ n2_; clear hb ho22; obtain ⟨Ao24, co24, eo24, _⟩ := Kd.Q_slice HO_5.out; subst eo24) | ((with_reducible refine gate_builtin (b := .append) (xs := #[.tmp 53, .tmp 54]) rfl ?_); (try (refine gate_guard (by rfl) ?_; dsimp only)); at_builtin; refine Kd.R_append_rows (Kd.int .u8) (w0 := w) w.heap.size rfl (.tmp 53) (.tmp 54) 22 5 (.int .u8 0) 1 rfl Try.underlying22 info5 rfl (by decide) (by omega) v317 y316 x5_1 _ _ _ (fun k_ => some k_ ≠ (.slice Ao24 x5_1.length co24 : Value).ownBlock) (fun _ => False) rfl rfl ?aO ?aR (fun _ _ h => h) (fun _ h => h.elim) ?aF ?aB ?aS ?aL ?_; (case aR => repeat (first | exact (Kd.Q_reads' HO_5.out).2.2 | (with_reducible refine Kd.C_alloc ?_ _) | (with_reducible refine Kd.C_drewN ?_ _) | (with_reducible refine Kd.C_drew ?_))); (case aB => exact (by repeat (first | (with_reducible first | exact HB.out | apply below_alloc | apply pw_below_drewN | apply below_drew1) | exact HB.out))); (case aF => exact (fun k_ hk => Kd.fresh' (Kd.Q_lt (by (with_reducible repeat (first | apply Kd.Q_alloc | apply Kd.Q_drewN | apply Kd.Q_drew)); exact HO_5.out)) k_ hk)); (case aO => exact (by (with_reducible repeat (first | apply Kd.R_alloc | apply Kd.R_drewN | apply Kd.R_drew)); exact Kd.R_mono HO318.out (fun _ hk => hk.2))); (case aS => exact (below_size (by repeat (first | (with_reducible first | exact HB.out | apply below_alloc | apply pw_below_drewN | apply below_drew1) | exact HB.out)))); (case aL => have := LMc19.out; omega); intro v320 w23 ho hb hg hat; rw [← Ny319.out] at ho; have n0_ := Aside0.mk (Kd.Q_after (ok := (fun _ => True)) (by (with_reducible repeat (first | apply Kd.Q_alloc | apply Kd.Q_drewN | apply Kd.Q_drew)); exact HO_5.out) hg hat); have n1_ := Aside0.mk (hb); have n2_ := Aside0.mk (ho); clear HO_5; clear HB; clear HO318; have HO_5 := n0_; have HB := n1_; have HO321 := n2_; clear n0_ n1_ n2_; clear ho hb hg hat) | ((with_reducible refine gate_builtin (b := .append) (xs := #[.tmp 55, .tmp 56]) rfl ?_); (try (refine gate_guard (by rfl) ?_; dsimp only)); at_builtin; refine Kd.R_append_rows (Kd.int .u8) (w0 := w) w.heap.size rfl (.tmp 55) (.tmp 56) 22 5 (.int .u8 0) 1 rfl Try.underlying22 info5 rfl (by decide) (by omega) v320 y319 l1 _ _ _ (fun k_ => some k_ ≠ (.slice Ao24 x5_1.length co24 : Value).ownBlock) (fun _ => False) rfl rfl ?aO ?aR (fun _ _ h => h) (fun _ h => h.elim) ?aF ?aB ?aS ?aL ?_; (case aR => repeat (first | exact (Kd.C_below HR1.out HB.out) | (with_reducible refine Kd.C_alloc ?_ _) | (with_reducible refine Kd.C_drewN ?_ _) | (with_reducible refine Kd.C_drew ?_))); (case aB => exact (by repeat (first | (with_reducible first | exact HB.out | apply below_alloc | apply pw_below_drewN | apply below_drew1) | exact HB.out))); (case aF => exact (fun k_ hk => Kd.fresh' (Kd.Q_lt (by (with_reducible repeat (first | apply Kd.Q_alloc | apply Kd.Q_drewN | apply Kd.Q_drew)); exact HO_5.out)) k_ hk)); (case aO => exact (by (with_reducible repeat (first | apply Kd.R_alloc | apply Kd.R_drewN | apply Kd.R_drew)); exact HO321.out)); (case aS => exact (below_size (by repeat (first | (with_reducible first | exact HB.out | apply below_alloc | apply pw_below_drewN | apply below_drew1) | exact HB.out)))); (case aL => have := LMc20.out; omega); intro v323 w25 ho hb hg hat; rw [← Ny322.out] at ho; have n0_ := Aside0.mk (Kd.Q_after (ok := (fun _ => True)) (by (with_reducible repeat (first | apply Kd.Q_alloc | apply Kd.Q_drewN | apply Kd.Q_drew)); exact HO_5.out) hg hat); have n1_ := Aside0.mk (hb); have n2_ := Aside0.mk (ho); clear HO_5; clear HB; clear HO321; have HO_5 := n0_; have HB := n1_; have HO324 := n2_; clear n0_ n1_ n2_; clear ho hb hg hat)); try go_wp2_with (first | ((with_reducible refine gate_dst (N := 53) rfl ?_); (try (refine gate_guard (by rfl) ?_; dsimp only)); refine Kd.R_lit (Kd.int .u8) _ 5 ?hg (N := 53) ?hd (xs := ([] : List Int)) (inner := []) (ok := fun _ => True) (okp := fun _ => True) ?hr ?hp (fun _ hk => hk) trivial (Below.refl _ _) (Nat.le_refl _) (by simp) ?_; (case hd => rfl); (case hg => rfl); (case hr => first | (go_simp; done) | (go_simp; rfl)); (case hp => exact (Reps.none _ _)); intro v317 w21 ho22 hb hg_ hnew_; clear hg_ hnew_; (first | rw [← Ny316.out] at ho22 | (simp only [Int.reduceToNat] at ho22; rw [← Ny316.out] at ho22)); have n0_ := Aside0.mk (Kd.Q_elder' (by (with_reducible repeat (first | apply Kd.Q_alloc | apply Kd.Q_drewN | apply Kd.Q_drew)); exact HO_5.out) (Kd.R_base ho22) hb); have n1_ := Aside0.mk (Kd.R_lower (Kd.R_new' ho22 (Kd.Q_lt (by (with_reducible repeat (first | apply Kd.Q_alloc | apply Kd.Q_drewN | apply Kd.Q_drew)); exact HO_5.out))) (below_size (by repeat (first | (with_reducible first | exact HB.out | apply below_alloc | apply pw_below_drewN | apply below_drew1) | exact HB.out)))); have n2_ := Aside0.mk (below_step (by repeat (first | (with_reducible first | exact HB.out | apply below_alloc | apply pw_below_drewN | apply below_drew1) | exact HB.out)) hb); clear HO_5; clear HB; have HO_5 := n0_; have HO318 := n1_; have HB := n2_; clear n0_ n1_ n2_; clear hb ho22; obtain ⟨Ao24, co24, eo24, _⟩ := Kd.Q_slice HO_5.out; subst eo24) | ((with_reducible refine gate_builtin (b := .append) (xs := #[.tmp 53, .tmp 54]) rfl ?_); (try (refine gate_guard (by rfl) ?_; dsimp only)); at_builtin; refine Kd.R_append_rows (Kd.int .u8) (w0 := w) w.heap.size rfl (.tmp 53) (.tmp 54) 22 5 (.int .u8 0) 1 rfl Try.underlying22 info5 rfl (by decide) (by omega) v317 y316 x5_1 _ _ _ (fun k_ => some k_ ≠ (.slice Ao24 x5_1.length co24 : Value).ownBlock) (fun _ => False) rfl rfl ?aO ?aR (fun _ _ h => h) (fun _ h => h.elim) ?aF ?aB ?aS ?aL ?_; (case aR => repeat (first | exact (Kd.Q_reads' HO_5.out).2.2 | (with_reducible refine Kd.C_alloc ?_ _) | (with_reducible refine Kd.C_drewN ?_ _) | (with_reducible refine Kd.C_drew ?_))); (case aB => exact (by repeat (first | (with_reducible first | exact HB.out | apply below_alloc | apply pw_below_drewN | apply below_drew1) | exact HB.out))); (case aF => exact (fun k_ hk => Kd.fresh' (Kd.Q_lt (by (with_reducible repeat (first | apply Kd.Q_alloc | apply Kd.Q_drewN | apply Kd.Q_drew)); exact HO_5.out)) k_ hk)); (case aO => exact (by (with_reducible repeat (first | apply Kd.R_alloc | apply Kd.R_drewN | apply Kd.R_drew)); exact Kd.R_mono HO318.out (fun _ hk => hk.2))); (case aS => exact (below_size (by repeat (first | (with_reducible first | exact HB.out | apply below_alloc | apply pw_below_drewN | apply below_drew1) | exact HB.out)))); (case aL => have := LMc19.out; omega); intro v320 w23 ho hb hg hat; rw [← Ny319.out] at ho; have n0_ := Aside0.mk (Kd.Q_after (ok := (fun _ => True)) (by (with_reducible repeat (first | apply Kd.Q_alloc | apply Kd.Q_drewN | apply Kd.Q_drew)); exact HO_5.out) hg hat); have n1_ := Aside0.mk (hb); have n2_ := Aside0.mk (ho); clear HO_5; clear HB; clear HO318; have HO_5 := n0_; have HB := n1_; have HO321 := n2_; clear n0_ n1_ n2_; clear ho hb hg hat) | ((with_reducible refine gate_builtin (b := .append) (xs := #[.tmp 55, .tmp 56]) rfl ?_); (try (refine gate_guard (by rfl) ?_; dsimp only)); at_builtin; refine Kd.R_append_rows (Kd.int .u8) (w0 := w) w.heap.size rfl (.tmp 55) (.tmp 56) 22 5 (.int .u8 0) 1 rfl Try.underlying22 info5 rfl (by decide) (by omega) v320 y319 l1 _ _ _ (fun k_ => some k_ ≠ (.slice Ao24 x5_1.length co24 : Value).ownBlock) (fun _ => False) rfl rfl ?aO ?aR (fun _ _ h => h) (fun _ h => h.elim) ?aF ?aB ?aS ?aL ?_; (case aR => repeat (first | exact (Kd.C_below HR1.out HB.out) | (with_reducible refine Kd.C_alloc ?_ _) | (with_reducible refine Kd.C_drewN ?_ _) | (with_reducible refine Kd.C_drew ?_))); (case aB => exact (by repeat (first | (with_reducible first | exact HB.out | apply below_alloc | apply pw_below_drewN | apply below_drew1) | exact HB.out))); (case aF => exact (fun k_ hk => Kd.fresh' (Kd.Q_lt (by (with_reducible repeat (first | apply Kd.Q_alloc | apply Kd.Q_drewN | apply Kd.Q_drew)); exact HO_5.out)) k_ hk)); (case aO => exact (by (with_reducible repeat (first | apply Kd.R_alloc | apply Kd.R_drewN | apply Kd.R_drew)); exact HO321.out)); (case aS => exact (below_size (by repeat (first | (with_reducible first | exact HB.out | apply below_alloc | apply pw_below_drewN | apply below_drew1) | exact HB.out)))); (case aL => have := LMc20.out; omega); intro v323 w25 ho hb hg hat; rw [← Ny322.out] at ho; have n0_ := Aside0.mk (Kd.Q_after (ok := (fun _ => True)) (by (with_reducible repeat (first | apply Kd.Q_alloc | apply Kd.Q_drewN | apply Kd.Q_drew)); exact HO_5.out) hg hat); have n1_ := Aside0.mk (hb); have n2_ := Aside0.mk (ho); clear HO_5; clear HB; clear HO321; have HO_5 := n0_; have HB := n1_; have HO324 := n2_; clear n0_ n1_ n2_; clear ho hb hg hat)))
              go_loopg [5, 7] k1 (fun kq v5 v7 w' => ∃ (x5_2 : List Int) (x7_2 : Int), v7 = .int .i64 x7_2 ∧ Aside0 (mapsheetslaw02_WireSequence.l1 kq l0 l1 x5_2 x7_2 = some r) ∧ Aside0 (kq ≤ k1) ∧ Aside0 (Kd.Q (Kd.int .u8) 5 w' w.heap.size (fun _ => True) v5 x5_2) ∧ Aside0 (Below w.heap.size w w'))
              case atStart => exact ⟨(y322), (0), (by first | rfl | (simp; done) | (simp [*]; done)), H', ⟨Nat.le_refl _⟩, ⟨Kd.Q_of_R (by (with_reducible repeat (first | apply Kd.R_alloc | apply Kd.R_drewN | apply Kd.R_drew)); exact Kd.R_mono HO324.out (fun _ hk => trivial))⟩, ⟨by repeat (first | (with_reducible first | exact HB.out | apply below_alloc | apply pw_below_drewN | apply below_drew1) | exact HB.out)⟩⟩
              case round =>
                clear H'
                try clear c1
                try clear c2
                try clear p2
                try clear c3
                try clear c3b0
                try clear c3b1
                try clear p3
                try clear q3
                try clear hx3
                try clear c6
                try clear c6b0
                try clear p6
                try clear c7
                try clear c7b0
                try clear c8
                try clear c8b0
                try clear c8b1
                try clear c12
                try clear c12b0
                try clear c12b1
                try clear c19
                try clear c20
                try clear hx303_0
                try clear hx303_1
                try clear hx303_2
                try clear hx303_3
                try clear hx304_0
                try clear hx304_1
                try clear hx304_2
                try clear hx304_3
                try clear hx308_0
                try clear hx308_1
                try clear hx308_2
                try clear hx308_3
                try clear hx312_0
                try clear hx312_1
                try clear hx312_2
                try clear hx312_3
                try clear p2
                try clear p303
                try clear p304
                try clear p308
                try clear p312
                try clear q303
                try clear q304
                try clear q308
                try clear q312
                obtain ⟨x5_2, x7_2, rfl, HA, HK2, HO_5, HB⟩ := hrel
                cases gk with
                | zero => exact absurd HA.out (by simp [mapsheetslaw02_WireSequence.l1])
                | succ k2 =>
                  have H := HA.out
                  clear HA
                  simp only [mapsheetslaw02_WireSequence.l1] at H
                  by_cases c26 : x7_2 < (l0.length : Int)
                  · rw [if_pos c26] at H
                    have c26b0 : decide (x7_2 < (l0.length : Int)) = true := decide_eq_true c26
                    clear c26
                    by_cases c27 : 0 ≤ x7_2
                    · rw [if_pos c27] at H
                      have c27b0 : decide (0 ≤ x7_2) = true := decide_eq_true c27
                      clear c27
                      by_cases c28 : ((rd_T42 l0 x7_2).f0) = 0
                      · rw [if_pos c28] at H
                        have c28b0 : (((rd_T42 l0 x7_2).f0) == 0) = true := beq_iff_eq.mpr c28
                        have c28b1 : (((rd_T42 l0 x7_2).f0) != 0) = false := bne_eq_false_iff_eq.mpr c28
                        clear c28
                        replace H := Option.bind_eq_some_iff.mp H
                        obtain ⟨⟨t331, t332, t333⟩, A290, H⟩ := H
                        replace H : (if t333 = 0 then (if t332 < 1 then (none) else (if t332 > (x5_2.length : Int) then (none) else (if t331 = ((rd_T42 l0 x7_2).f1) then ((mapsheetsref02_SameInts.f k2 ((rd_T42 l0 x7_2).f3) ((rd_T42 l0 x7_2).f3)).bind fun t337 => (if t337 = true then (if 0 ≤ t332 then (if t332 ≤ (x5_2.length : Int) then (mapsheetslaw02_WireSequence.l1 k2 l0 l1 (x5_2.drop (t332 : Int).toNat) (wrap64 (x7_2 + 1))) else (none)) else (none)) else (none))) else (none)))) else (none)) = some r := H
                        have A29 := Aside0.mk A290
                        clear A290
                        by_cases c30 : t333 = 0
                        · rw [if_pos c30] at H
                          have c30b0 : (t333 == 0) = true := beq_iff_eq.mpr c30
                          have c30b1 : (t333 != 0) = false := bne_eq_false_iff_eq.mpr c30
                          clear c30
                          by_cases c31 : t332 < 1
                          · rw [if_pos c31] at H
                            exact absurd H (by simp)
                          · rw [if_neg c31] at H
                            have c31b0 : decide (t332 < 1) = false := decide_eq_false c31
                            clear c31
                            by_cases c32 : t332 > (x5_2.length : Int)
                            · rw [if_pos c32] at H
                              exact absurd H (by simp)
                            · rw [if_neg c32] at H
                              have c32b0 : decide ((x5_2.length : Int) < t332) = false := decide_eq_false c32
                              clear c32
                              by_cases c33 : t331 = ((rd_T42 l0 x7_2).f1)
                              · rw [if_pos c33] at H
                                have c33b0 : (t331 == ((rd_T42 l0 x7_2).f1)) = true := beq_iff_eq.mpr c33
                                have c33b1 : (t331 != ((rd_T42 l0 x7_2).f1)) = false := bne_eq_false_iff_eq.mpr c33
                                clear c33
                                replace H := Option.bind_eq_some_iff.mp H
                                obtain ⟨t337, A340, H⟩ := H
                                replace H : (if t337 = true then (if 0 ≤ t332 then (if t332 ≤ (x5_2.length : Int) then (mapsheetslaw02_WireSequence.l1 k2 l0 l1 (x5_2.drop (t332 : Int).toNat) (wrap64 (x7_2 + 1))) else (none)) else (none)) else (none)) = some r := H
                                have A34 := Aside0.mk A340
                                clear A340
                                by_cases c35 : t337 = true
                                · subst c35
                                  have H1 : (if 0 ≤ t332 then (if t332 ≤ (x5_2.length : Int) then (mapsheetslaw02_WireSequence.l1 k2 l0 l1 (x5_2.drop (t332 : Int).toNat) (wrap64 (x7_2 + 1))) else (none)) else (none)) = some r := by rw [if_pos rfl] at H; exact H
                                  clear H
                                  have H := H1
                                  clear H1
                                  by_cases c36 : 0 ≤ t332
                                  · rw [if_pos c36] at H
                                    have c36b0 := eq_true c36
                                    have c36b1 : decide (0 ≤ t332) = true := decide_eq_true c36
                                    clear c36
                                    by_cases c37 : t332 ≤ (x5_2.length : Int)
                                    · rw [if_pos c37] at H
                                      have c37b0 := eq_true c37
                                      have c37b1 : decide (t332 ≤ (x5_2.length : Int)) = true := decide_eq_true c37
                                      clear c37
                                      obtain ⟨y338, hy338⟩ : ∃ y_ : List Int, y_ = (x5_2.drop (t332 : Int).toNat) := ⟨_, rfl⟩
                                      replace H : (mapsheetslaw02_WireSequence.l1 k2 l0 l1 y338 (wrap64 (x7_2 + 1))) = some r := by first | (rw [hy338]; with_reducible exact H) | (have H2_ := (Option.bind_some _ _).symm.trans H; rw [hy338]; with_reducible exact H2_) | (have H2_ := (Option.bind_some _ _).symm.trans H; with_reducible exact H2_) | with_reducible exact H | (rw [hy338]; exact H) | exact H
                                      have Ny338 := Aside0.mk hy338
                                      clear hy338
                                      have H' := Aside0.mk H
                                      clear H
                                      have p327 : 0 ≤ (x7_2 : Int) := of_decide_eq_true (by first | (with_reducible assumption) | assumption)
                                      have q327 : x7_2 < (l0.length : Int) := of_decide_eq_true (by first | (with_reducible assumption) | assumption)
                                      obtain ⟨ad327, A327_3, c327_3, e327, hx327_0, hx327_1, hx327_2, hx327_3, hl327_3, hi327_3⟩ := at_T42 HR0.out x7_2 p327 q327
                                      cases e327
                                      replace hx327_0 := (HB.out.cell (World.block_lt_of_cell? w _ hx327_0)).trans hx327_0
                                      replace hx327_1 := (HB.out.cell (World.block_lt_of_cell? w _ hx327_1)).trans hx327_1
                                      replace hx327_2 := (HB.out.cell (World.block_lt_of_cell? w _ hx327_2)).trans hx327_2
                                      replace hx327_3 := (HB.out.cell (World.block_lt_of_cell? w _ hx327_3)).trans hx327_3
                                      have HR327_3 := Aside0.mk hi327_3
                                      have HC327_3 := Aside0.mk hl327_3
                                      clear hi327_3 hl327_3
                                      replace p327 := eq_true p327
                                      replace q327 := eq_true q327
                                      have p328 : 0 ≤ (x7_2 : Int) := of_decide_eq_true (by first | (with_reducible assumption) | assumption)
                                      have q328 : x7_2 < (l0.length : Int) := of_decide_eq_true (by first | (with_reducible assumption) | assumption)
                                      obtain ⟨ad328, A328_3, c328_3, e328, hx328_0, hx328_1, hx328_2, hx328_3, hl328_3, hi328_3⟩ := at_T42 HR0.out x7_2 p328 q328
                                      obtain rfl : ad327 = ad328 := (by injection e328)
                                      replace hx328_0 := (HB.out.cell (World.block_lt_of_cell? w _ hx328_0)).trans hx328_0
                                      replace hx328_1 := (HB.out.cell (World.block_lt_of_cell? w _ hx328_1)).trans hx328_1
                                      replace hx328_2 := (HB.out.cell (World.block_lt_of_cell? w _ hx328_2)).trans hx328_2
                                      replace hx328_3 := (HB.out.cell (World.block_lt_of_cell? w _ hx328_3)).trans hx328_3
                                      have HR328_3 := Aside0.mk hi328_3
                                      have HC328_3 := Aside0.mk hl328_3
                                      clear hi328_3 hl328_3
                                      replace p328 := eq_true p328
                                      replace q328 := eq_true q328
                                      have ea_ := Option.some.inj (hx327_3.symm.trans hx328_3)
                                      injection ea_ with ea_ en_ ec_
                                      subst ea_
                                      subst ec_
                                      clear en_
                                      have p329 : 0 ≤ (x7_2 : Int) := of_decide_eq_true (by first | (with_reducible assumption) | assumption)
                                      have q329 : x7_2 < (l0.length : Int) := of_decide_eq_true (by first | (with_reducible assumption) | assumption)
                                      obtain ⟨ad329, A329_3, c329_3, e329, hx329_0, hx329_1, hx329_2, hx329_3, hl329_3, hi329_3⟩ := at_T42 HR0.out x7_2 p329 q329
                                      obtain rfl : ad327 = ad329 := (by injection e329)
                                      replace hx329_0 := (HB.out.cell (World.block_lt_of_cell? w _ hx329_0)).trans hx329_0
                                      replace hx329_1 := (HB.out.cell (World.block_lt_of_cell? w _ hx329_1)).trans hx329_1
                                      replace hx329_2 := (HB.out.cell (World.block_lt_of_cell? w _ hx329_2)).trans hx329_2
                                      replace hx329_3 := (HB.out.cell (World.block_lt_of_cell? w _ hx329_3)).trans hx329_3
                                      have HR329_3 := Aside0.mk hi329_3
                                      have HC329_3 := Aside0.mk hl329_3
                                      clear hi329_3 hl329_3
                                      replace p329 := eq_true p329
                                      replace q329 := eq_true q329
                                      have ea_ := Option.some.inj (hx327_3.symm.trans hx329_3)
                                      injection ea_ with ea_ en_ ec_
                                      subst ea_
                                      subst ec_
                                      clear en_
                                      have p330 : 0 ≤ (x7_2 : Int) := of_decide_eq_true (by first | (with_reducible assumption) | assumption)
                                      have q330 : x7_2 < (l0.length : Int) := of_decide_eq_true (by first | (with_reducible assumption) | assumption)
                                      obtain ⟨ad330, A330_3, c330_3, e330, hx330_0, hx330_1, hx330_2, hx330_3, hl330_3, hi330_3⟩ := at_T42 HR0.out x7_2 p330 q330
                                      obtain rfl : ad327 = ad330 := (by injection e330)
                                      replace hx330_0 := (HB.out.cell (World.block_lt_of_cell? w _ hx330_0)).trans hx330_0
                                      replace hx330_1 := (HB.out.cell (World.block_lt_of_cell? w _ hx330_1)).trans hx330_1
                                      replace hx330_2 := (HB.out.cell (World.block_lt_of_cell? w _ hx330_2)).trans hx330_2
                                      replace hx330_3 := (HB.out.cell (World.block_lt_of_cell? w _ hx330_3)).trans hx330_3
                                      have HR330_3 := Aside0.mk hi330_3
                                      have HC330_3 := Aside0.mk hl330_3
                                      clear hi330_3 hl330_3
                                      replace p330 := eq_true p330
                                      replace q330 := eq_true q330
                                      have ea_ := Option.some.inj (hx327_3.symm.trans hx330_3)
                                      injection ea_ with ea_ en_ ec_
                                      subst ea_
                                      subst ec_
                                      clear en_
                                      obtain ⟨Ao38, co38, eo38, _⟩ := Kd.Q_slice HO_5.out
                                      subst eo38
                                      go_wp2_with (first | (go_at_call 11; (with_reducible refine (wire_Int.calls k2 _ _ x5_2 t331 t332 t333 _ ?side1 ?side2 A29.out).mono ?_); (case side1 => repeat (first | exact (Kd.Q_reads' HO_5.out).2.2 | (with_reducible refine Kd.C_alloc ?_ _) | (with_reducible refine Kd.C_drewN ?_ _) | (with_reducible refine Kd.C_drew ?_))); (case side2 => exact (Kd.Q_reads' HO_5.out).2.1); rintro e w' ⟨rfl, ⟨nd, rfl⟩⟩; (try first | exact ⟨rfl, _, World.drewN_drewN _ _ _⟩ | exact ⟨rfl, _, Eq.trans (World.drewN_drewN _ _ _) (congrArg (World.drewN _) (Nat.add_assoc _ _ _))⟩); have p334 : 0 ≤ (x7_2 : Int) := of_decide_eq_true (by first | (with_reducible assumption) | assumption); have q334 : x7_2 < (l0.length : Int) := of_decide_eq_true (by first | (with_reducible assumption) | assumption); obtain ⟨ad334, A334_3, c334_3, e334, hx334_0, hx334_1, hx334_2, hx334_3, hl334_3, hi334_3⟩ := at_T42 HR0.out x7_2 p334 q334; obtain rfl : ad327 = ad334 := (by injection e334); replace hx334_0 := (HB.out.cell (World.block_lt_of_cell? w _ hx334_0)).trans hx334_0; replace hx334_1 := (HB.out.cell (World.block_lt_of_cell? w _ hx334_1)).trans hx334_1; replace hx334_2 := (HB.out.cell (World.block_lt_of_cell? w _ hx334_2)).trans hx334_2; replace hx334_3 := (HB.out.cell (World.block_lt_of_cell? w _ hx334_3)).trans hx334_3; have HR334_3 := Aside0.mk hi334_3; have HC334_3 := Aside0.mk hl334_3; clear hi334_3 hl334_3; replace p334 := eq_true p334; replace q334 := eq_true q334; have ea_ := Option.some.inj (hx327_3.symm.trans hx334_3); injection ea_ with ea_ en_ ec_; subst ea_; subst ec_; clear en_; have p335 : 0 ≤ (x7_2 : Int) := of_decide_eq_true (by first | (with_reducible assumption) | assumption); have q335 : x7_2 < (l0.length : Int) := of_decide_eq_true (by first | (with_reducible assumption) | assumption); obtain ⟨ad335, A335_3, c335_3, e335, hx335_0, hx335_1, hx335_2, hx335_3, hl335_3, hi335_3⟩ := at_T42 HR0.out x7_2 p335 q335; obtain rfl : ad327 = ad335 := (by injection e335); replace hx335_0 := (HB.out.cell (World.block_lt_of_cell? w _ hx335_0)).trans hx335_0; replace hx335_1 := (HB.out.cell (World.block_lt_of_cell? w _ hx335_1)).trans hx335_1; replace hx335_2 := (HB.out.cell (World.block_lt_of_cell? w _ hx335_2)).trans hx335_2; replace hx335_3 := (HB.out.cell (World.block_lt_of_cell? w _ hx335_3)).trans hx335_3; have HR335_3 := Aside0.mk hi335_3; have HC335_3 := Aside0.mk hl335_3; clear hi335_3 hl335_3; replace p335 := eq_true p335; replace q335 := eq_true q335; have ea_ := Option.some.inj (hx327_3.symm.trans hx335_3); injection ea_ with ea_ en_ ec_; subst ea_; subst ec_; clear en_; have p336 : 0 ≤ (x7_2 : Int) := of_decide_eq_true (by first | (with_reducible assumption) | assumption); have q336 : x7_2 < (l0.length : Int) := of_decide_eq_true (by first | (with_reducible assumption) | assumption); obtain ⟨ad336, A336_3, c336_3, e336, hx336_0, hx336_1, hx336_2, hx336_3, hl336_3, hi336_3⟩ := at_T42 HR0.out x7_2 p336 q336; obtain rfl : ad327 = ad336 := (by injection e336); replace hx336_0 := (HB.out.cell (World.block_lt_of_cell? w _ hx336_0)).trans hx336_0; replace hx336_1 := (HB.out.cell (World.block_lt_of_cell? w _ hx336_1)).trans hx336_1; replace hx336_2 := (HB.out.cell (World.block_lt_of_cell? w _ hx336_2)).trans hx336_2; replace hx336_3 := (HB.out.cell (World.block_lt_of_cell? w _ hx336_3)).trans hx336_3; have HR336_3 := Aside0.mk hi336_3; have HC336_3 := Aside0.mk hl336_3; clear hi336_3 hl336_3; replace p336 := eq_true p336; replace q336 := eq_true q336; have ea_ := Option.some.inj (hx327_3.symm.trans hx336_3); injection ea_ with ea_ en_ ec_; subst ea_; subst ec_; clear en_) | (go_at_call 25; (with_reducible refine (mapsheetsref02_SameInts.calls k2 _ _ ((rd_T42 l0 x7_2).f3) _ _ ((rd_T42 l0 x7_2).f3) true _ ?side1 ?side2 ?side3 ?side4 A34.out).mono ?_); (case side1 => repeat (first | exact (Kd.C_below HR329_3.out (by repeat (first | (with_reducible first | exact HB.out | apply below_alloc | apply pw_below_drewN | apply below_drew1) | exact HB.out))) | (with_reducible refine Kd.C_alloc ?_ _) | (with_reducible refine Kd.C_drewN ?_ _) | (with_reducible refine Kd.C_drew ?_))); (case side2 => exact HC329_3.out); (case side3 => repeat (first | exact (Kd.C_below HR336_3.out (by repeat (first | (with_reducible first | exact HB.out | apply below_alloc | apply pw_below_drewN | apply below_drew1) | exact HB.out))) | (with_reducible refine Kd.C_alloc ?_ _) | (with_reducible refine Kd.C_drewN ?_ _) | (with_reducible refine Kd.C_drew ?_))); (case side4 => exact HC336_3.out); rintro e w' ⟨rfl, ⟨nd, rfl⟩⟩; (try first | exact ⟨rfl, _, World.drewN_drewN _ _ _⟩ | exact ⟨rfl, _, Eq.trans (World.drewN_drewN _ _ _) (congrArg (World.drewN _) (Nat.add_assoc _ _ _))⟩); have q39 : (t332 : Int) ≤ ((x5_2.length : Int) : Int) := of_decide_eq_true (by first | (with_reducible assumption) | assumption); obtain ⟨i039, hi039, _, hsz39, _⟩ := info_parts info5; have hcut39 := cut_from (P := Try.prog) 22 5 .i64 Try.underlying22 hi039 1 hsz39 Ao38 x5_2.length co38 t332 (of_decide_eq_true (by first | (with_reducible assumption) | assumption)) q39; have hr39 := Kd.Q_drop (k := (t332 : Int).toNat) HO_5.out (by omega); obtain ⟨A39, hA39⟩ : ∃ A1, A1 = (if co38 = (t332 : Int).toNat then Ao38 else (Ao38 : Option Addr).map (·.add ((t332 : Int).toNat * 1))) := ⟨_, rfl⟩; obtain ⟨c39, hc39⟩ : ∃ c1, c1 = co38 - (t332 : Int).toNat := ⟨_, rfl⟩; have hy39 : y338.length = x5_2.length - (t332 : Int).toNat := (by rw [Ny338.out, List.length_drop]); rw [← Ny338.out] at hr39; rw [← hy39, ← hA39, ← hc39] at hcut39; replace hr39 : Kd.Q (Kd.int .u8) 5 wr w.heap.size (fun _ => True) (.slice A39 y338.length c39) y338 := (by rw [hA39, hc39, hy39]; exact hr39); have HE39 : Aside0 ((Value.slice A39 y338.length c39).ownBlock = (.slice Ao38 x5_2.length co38 : Value).ownBlock) := ⟨by rw [hA39]; split <;> (cases (Ao38 : Option Addr) <;> first | rfl | (simp [Value.ownBlock, Addr.add]; done) | (simp only [Value.ownBlock, Option.map_some, Addr.add]; split <;> rfl))⟩; clear hy39 hi039 hsz39 HO_5 hA39 hc39; have HO340 := Aside0.mk hr39; clear hr39; replace q39 := eq_true q39))
                                      repeat (go_quiet (first | (go_at_call 11; (with_reducible refine (wire_Int.calls k2 _ _ x5_2 t331 t332 t333 _ ?side1 ?side2 A29.out).mono ?_); (case side1 => repeat (first | exact (Kd.Q_reads' HO_5.out).2.2 | (with_reducible refine Kd.C_alloc ?_ _) | (with_reducible refine Kd.C_drewN ?_ _) | (with_reducible refine Kd.C_drew ?_))); (case side2 => exact (Kd.Q_reads' HO_5.out).2.1); rintro e w' ⟨rfl, ⟨nd, rfl⟩⟩; (try first | exact ⟨rfl, _, World.drewN_drewN _ _ _⟩ | exact ⟨rfl, _, Eq.trans (World.drewN_drewN _ _ _) (congrArg (World.drewN _) (Nat.add_assoc _ _ _))⟩); have p334 : 0 ≤ (x7_2 : Int) := of_decide_eq_true (by first | (with_reducible assumption) | assumption); have q334 : x7_2 < (l0.length : Int) := of_decide_eq_true (by first | (with_reducible assumption) | assumption); obtain ⟨ad334, A334_3, c334_3, e334, hx334_0, hx334_1, hx334_2, hx334_3, hl334_3, hi334_3⟩ := at_T42 HR0.out x7_2 p334 q334; obtain rfl : ad327 = ad334 := (by injection e334); replace hx334_0 := (HB.out.cell (World.block_lt_of_cell? w _ hx334_0)).trans hx334_0; replace hx334_1 := (HB.out.cell (World.block_lt_of_cell? w _ hx334_1)).trans hx334_1; replace hx334_2 := (HB.out.cell (World.block_lt_of_cell? w _ hx334_2)).trans hx334_2; replace hx334_3 := (HB.out.cell (World.block_lt_of_cell? w _ hx334_3)).trans hx334_3; have HR334_3 := Aside0.mk hi334_3; have HC334_3 := Aside0.mk hl334_3; clear hi334_3 hl334_3; replace p334 := eq_true p334; replace q334 := eq_true q334; have ea_ := Option.some.inj (hx327_3.symm.trans hx334_3); injection ea_ with ea_ en_ ec_; subst ea_; subst ec_; clear en_; have p335 : 0 ≤ (x7_2 : Int) := of_decide_eq_true (by first | (with_reducible assumption) | assumption); have q335 : x7_2 < (l0.length : Int) := of_decide_eq_true (by first | (with_reducible assumption) | assumption); obtain ⟨ad335, A335_3, c335_3, e335, hx335_0, hx335_1, hx335_2, hx335_3, hl335_3, hi335_3⟩ := at_T42 HR0.out x7_2 p335 q335; obtain rfl : ad327 = ad335 := (by injection e335); replace hx335_0 := (HB.out.cell (World.block_lt_of_cell? w _ hx335_0)).trans hx335_0; replace hx335_1 := (HB.out.cell (World.block_lt_of_cell? w _ hx335_1)).trans hx335_1; replace hx335_2 := (HB.out.cell (World.block_lt_of_cell? w _ hx335_2)).trans hx335_2; replace hx335_3 := (HB.out.cell (World.block_lt_of_cell? w _ hx335_3)).trans hx335_3; have HR335_3 := Aside0.mk hi335_3; have HC335_3 := Aside0.mk hl335_3; clear hi335_3 hl335_3; replace p335 := eq_true p335; replace q335 := eq_true q335; have ea_ := Option.some.inj (hx327_3.symm.trans hx335_3); injection ea_ with ea_ en_ ec_; subst ea_; subst ec_; clear en_; have p336 : 0 ≤ (x7_2 : Int) := of_decide_eq_true (by first | (with_reducible assumption) | assumption); have q336 : x7_2 < (l0.length : Int) := of_decide_eq_true (by first | (with_reducible assumption) | assumption); obtain ⟨ad336, A336_3, c336_3, e336, hx336_0, hx336_1, hx336_2, hx336_3, hl336_3, hi336_3⟩ := at_T42 HR0.out x7_2 p336 q336; obtain rfl : ad327 = ad336 := (by injection e336); replace hx336_0 := (HB.out.cell (World.block_lt_of_cell? w _ hx336_0)).trans hx336_0; replace hx336_1 := (HB.out.cell (World.block_lt_of_cell? w _ hx336_1)).trans hx336_1; replace hx336_2 := (HB.out.cell (World.block_lt_of_cell? w _ hx336_2)).trans hx336_2; replace hx336_3 := (HB.out.cell (World.block_lt_of_cell? w _ hx336_3)).trans hx336_3; have HR336_3 := Aside0.mk hi336_3; have HC336_3 := Aside0.mk hl336_3; clear hi336_3 hl336_3; replace p336 := eq_true p336; replace q336 := eq_true q336; have ea_ := Option.some.inj (hx327_3.symm.trans hx336_3); injection ea_ with ea_ en_ ec_; subst ea_; subst ec_; clear en_) | (go_at_call 25; (with_reducible refine (mapsheetsref02_SameInts.calls k2 _ _ ((rd_T42 l0 x7_2).f3) _ _ ((rd_T42 l0 x7_2).f3) true _ ?side1 ?side2 ?side3 ?side4 A34.out).mono ?_); (case side1 => repeat (first | exact (Kd.C_below HR329_3.out (by repeat (first | (with_reducible first | exact HB.out | apply below_alloc | apply pw_below_drewN | apply below_drew1) | exact HB.out))) | (with_reducible refine Kd.C_alloc ?_ _) | (with_reducible refine Kd.C_drewN ?_ _) | (with_reducible refine Kd.C_drew ?_))); (case side2 => exact HC329_3.out); (case side3 => repeat (first | exact (Kd.C_below HR336_3.out (by repeat (first | (with_reducible first | exact HB.out | apply below_alloc | apply pw_below_drewN | apply below_drew1) | exact HB.out))) | (with_reducible refine Kd.C_alloc ?_ _) | (with_reducible refine Kd.C_drewN ?_ _) | (with_reducible refine Kd.C_drew ?_))); (case side4 => exact HC336_3.out); rintro e w' ⟨rfl, ⟨nd, rfl⟩⟩; (try first | exact ⟨rfl, _, World.drewN_drewN _ _ _⟩ | exact ⟨rfl, _, Eq.trans (World.drewN_drewN _ _ _) (congrArg (World.drewN _) (Nat.add_assoc _ _ _))⟩); have q39 : (t332 : Int) ≤ ((x5_2.length : Int) : Int) := of_decide_eq_true (by first | (with_reducible assumption) | assumption); obtain ⟨i039, hi039, _, hsz39, _⟩ := info_parts info5; have hcut39 := cut_from (P := Try.prog) 22 5 .i64 Try.underlying22 hi039 1 hsz39 Ao38 x5_2.length co38 t332 (of_decide_eq_true (by first | (with_reducible assumption) | assumption)) q39; have hr39 := Kd.Q_drop (k := (t332 : Int).toNat) HO_5.out (by omega); obtain ⟨A39, hA39⟩ : ∃ A1, A1 = (if co38 = (t332 : Int).toNat then Ao38 else (Ao38 : Option Addr).map (·.add ((t332 : Int).toNat * 1))) := ⟨_, rfl⟩; obtain ⟨c39, hc39⟩ : ∃ c1, c1 = co38 - (t332 : Int).toNat := ⟨_, rfl⟩; have hy39 : y338.length = x5_2.length - (t332 : Int).toNat := (by rw [Ny338.out, List.length_drop]); rw [← Ny338.out] at hr39; rw [← hy39, ← hA39, ← hc39] at hcut39; replace hr39 : Kd.Q (Kd.int .u8) 5 wr w.heap.size (fun _ => True) (.slice A39 y338.length c39) y338 := (by rw [hA39, hc39, hy39]; exact hr39); have HE39 : Aside0 ((Value.slice A39 y338.length c39).ownBlock = (.slice Ao38 x5_2.length co38 : Value).ownBlock) := ⟨by rw [hA39]; split <;> (cases (Ao38 : Option Addr) <;> first | rfl | (simp [Value.ownBlock, Addr.add]; done) | (simp only [Value.ownBlock, Option.map_some, Addr.add]; split <;> rfl))⟩; clear hy39 hi039 hsz39 HO_5 hA39 hc39; have HO340 := Aside0.mk hr39; clear hr39; replace q39 := eq_true q39)); try go_wp2_with (first | (go_at_call 11; (with_reducible refine (wire_Int.calls k2 _ _ x5_2 t331 t332 t333 _ ?side1 ?side2 A29.out).mono ?_); (case side1 => repeat (first | exact (Kd.Q_reads' HO_5.out).2.2 | (with_reducible refine Kd.C_alloc ?_ _) | (with_reducible refine Kd.C_drewN ?_ _) | (with_reducible refine Kd.C_drew ?_))); (case side2 => exact (Kd.Q_reads' HO_5.out).2.1); rintro e w' ⟨rfl, ⟨nd, rfl⟩⟩; (try first | exact ⟨rfl, _, World.drewN_drewN _ _ _⟩ | exact ⟨rfl, _, Eq.trans (World.drewN_drewN _ _ _) (congrArg (World.drewN _) (Nat.add_assoc _ _ _))⟩); have p334 : 0 ≤ (x7_2 : Int) := of_decide_eq_true (by first | (with_reducible assumption) | assumption); have q334 : x7_2 < (l0.length : Int) := of_decide_eq_true (by first | (with_reducible assumption) | assumption); obtain ⟨ad334, A334_3, c334_3, e334, hx334_0, hx334_1, hx334_2, hx334_3, hl334_3, hi334_3⟩ := at_T42 HR0.out x7_2 p334 q334; obtain rfl : ad327 = ad334 := (by injection e334); replace hx334_0 := (HB.out.cell (World.block_lt_of_cell? w _ hx334_0)).trans hx334_0; replace hx334_1 := (HB.out.cell (World.block_lt_of_cell? w _ hx334_1)).trans hx334_1; replace hx334_2 := (HB.out.cell (World.block_lt_of_cell? w _ hx334_2)).trans hx334_2; replace hx334_3 := (HB.out.cell (World.block_lt_of_cell? w _ hx334_3)).trans hx334_3; have HR334_3 := Aside0.mk hi334_3; have HC334_3 := Aside0.mk hl334_3; clear hi334_3 hl334_3; replace p334 := eq_true p334; replace q334 := eq_true q334; have ea_ := Option.some.inj (hx327_3.symm.trans hx334_3); injection ea_ with ea_ en_ ec_; subst ea_; subst ec_; clear en_; have p335 : 0 ≤ (x7_2 : Int) := of_decide_eq_true (by first | (with_reducible assumption) | assumption); have q335 : x7_2 < (l0.length : Int) := of_decide_eq_true (by first | (with_reducible assumption) | assumption); obtain ⟨ad335, A335_3, c335_3, e335, hx335_0, hx335_1, hx335_2, hx335_3, hl335_3, hi335_3⟩ := at_T42 HR0.out x7_2 p335 q335; obtain rfl : ad327 = ad335 := (by injection e335); replace hx335_0 := (HB.out.cell (World.block_lt_of_cell? w _ hx335_0)).trans hx335_0; replace hx335_1 := (HB.out.cell (World.block_lt_of_cell? w _ hx335_1)).trans hx335_1; replace hx335_2 := (HB.out.cell (World.block_lt_of_cell? w _ hx335_2)).trans hx335_2; replace hx335_3 := (HB.out.cell (World.block_lt_of_cell? w _ hx335_3)).trans hx335_3; have HR335_3 := Aside0.mk hi335_3; have HC335_3 := Aside0.mk hl335_3; clear hi335_3 hl335_3; replace p335 := eq_true p335; replace q335 := eq_true q335; have ea_ := Option.some.inj (hx327_3.symm.trans hx335_3); injection ea_ with ea_ en_ ec_; subst ea_; subst ec_; clear en_; have p336 : 0 ≤ (x7_2 : Int) := of_decide_eq_true (by first | (with_reducible assumption) | assumption); have q336 : x7_2 < (l0.length : Int) := of_decide_eq_true (by first | (with_reducible assumption) | assumption); obtain ⟨ad336, A336_3, c336_3, e336, hx336_0, hx336_1, hx336_2, hx336_3, hl336_3, hi336_3⟩ := at_T42 HR0.out x7_2 p336 q336; obtain rfl : ad327 = ad336 := (by injection e336); replace hx336_0 := (HB.out.cell (World.block_lt_of_cell? w _ hx336_0)).trans hx336_0; replace hx336_1 := (HB.out.cell (World.block_lt_of_cell? w _ hx336_1)).trans hx336_1; replace hx336_2 := (HB.out.cell (World.block_lt_of_cell? w _ hx336_2)).trans hx336_2; replace hx336_3 := (HB.out.cell (World.block_lt_of_cell? w _ hx336_3)).trans hx336_3; have HR336_3 := Aside0.mk hi336_3; have HC336_3 := Aside0.mk hl336_3; clear hi336_3 hl336_3; replace p336 := eq_true p336; replace q336 := eq_true q336; have ea_ := Option.some.inj (hx327_3.symm.trans hx336_3); injection ea_ with ea_ en_ ec_; subst ea_; subst ec_; clear en_) | (go_at_call 25; (with_reducible refine (mapsheetsref02_SameInts.calls k2 _ _ ((rd_T42 l0 x7_2).f3) _ _ ((rd_T42 l0 x7_2).f3) true _ ?side1 ?side2 ?side3 ?side4 A34.out).mono ?_); (case side1 => repeat (first | exact (Kd.C_below HR329_3.out (by repeat (first | (with_reducible first | exact HB.out | apply below_alloc | apply pw_below_drewN | apply below_drew1) | exact HB.out))) | (with_reducible refine Kd.C_alloc ?_ _) | (with_reducible refine Kd.C_drewN ?_ _) | (with_reducible refine Kd.C_drew ?_))); (case side2 => exact HC329_3.out); (case side3 => repeat (first | exact (Kd.C_below HR336_3.out (by repeat (first | (with_reducible first | exact HB.out | apply below_alloc | apply pw_below_drewN | apply below_drew1) | exact HB.out))) | (with_reducible refine Kd.C_alloc ?_ _) | (with_reducible refine Kd.C_drewN ?_ _) | (with_reducible refine Kd.C_drew ?_))); (case side4 => exact HC336_3.out); rintro e w' ⟨rfl, ⟨nd, rfl⟩⟩; (try first | exact ⟨rfl, _, World.drewN_drewN _ _ _⟩ | exact ⟨rfl, _, Eq.trans (World.drewN_drewN _ _ _) (congrArg (World.drewN _) (Nat.add_assoc _ _ _))⟩); have q39 : (t332 : Int) ≤ ((x5_2.length : Int) : Int) := of_decide_eq_true (by first | (with_reducible assumption) | assumption); obtain ⟨i039, hi039, _, hsz39, _⟩ := info_parts info5; have hcut39 := cut_from (P := Try.prog) 22 5 .i64 Try.underlying22 hi039 1 hsz39 Ao38 x5_2.length co38 t332 (of_decide_eq_true (by first | (with_reducible assumption) | assumption)) q39; have hr39 := Kd.Q_drop (k := (t332 : Int).toNat) HO_5.out (by omega); obtain ⟨A39, hA39⟩ : ∃ A1, A1 = (if co38 = (t332 : Int).toNat then Ao38 else (Ao38 : Option Addr).map (·.add ((t332 : Int).toNat * 1))) := ⟨_, rfl⟩; obtain ⟨c39, hc39⟩ : ∃ c1, c1 = co38 - (t332 : Int).toNat := ⟨_, rfl⟩; have hy39 : y338.length = x5_2.length - (t332 : Int).toNat := (by rw [Ny338.out, List.length_drop]); rw [← Ny338.out] at hr39; rw [← hy39, ← hA39, ← hc39] at hcut39; replace hr39 : Kd.Q (Kd.int .u8) 5 wr w.heap.size (fun _ => True) (.slice A39 y338.length c39) y338 := (by rw [hA39, hc39, hy39]; exact hr39); have HE39 : Aside0 ((Value.slice A39 y338.length c39).ownBlock = (.slice Ao38 x5_2.length co38 : Value).ownBlock) := ⟨by rw [hA39]; split <;> (cases (Ao38 : Option Addr) <;> first | rfl | (simp [Value.ownBlock, Addr.add]; done) | (simp only [Value.ownBlock, Option.map_some, Addr.add]; split <;> rfl))⟩; clear hy39 hi039 hsz39 HO_5 hA39 hc39; have HO340 := Aside0.mk hr39; clear hr39; replace q39 := eq_true q39)))
                                      go_roundg k2
                                      case measure => have := HK1.out; have := HK2.out; omega
                                      case rel => exact ⟨(y338), (wrap64 (x7_2 + 1)), (by first | rfl | (simp; done) | (simp [*]; done)), H', ⟨by have := HK1.out; have := HK2.out; omega⟩, ⟨by (with_reducible repeat (first | apply Kd.Q_alloc | apply Kd.Q_drewN | apply Kd.Q_drew)); exact HO340.out⟩, ⟨by repeat (first | (with_reducible first | exact HB.out | apply below_alloc | apply pw_below_drewN | apply below_drew1) | exact HB.out)⟩⟩
                                    · rw [if_neg c37] at H
                                      exact absurd H (by simp)
                                  · rw [if_neg c36] at H
                                    exact absurd H (by simp)
                                · replace c35 := Bool.eq_false_iff.mpr c35
                                  subst c35
                                  have H1 : (none) = some r := by rw [if_neg (show ¬ (false = true) by decide)] at H; exact H
                                  clear H
                                  have H := H1
                                  clear H1
                                  exact absurd H (by simp)
                              · rw [if_neg c33] at H
                                exact absurd H (by simp)
                        · rw [if_neg c30] at H
                          exact absurd H (by simp)
                      · rw [if_neg c28] at H
                        have c28b0 : (((rd_T42 l0 x7_2).f0) == 0) = false := beq_eq_false_iff_ne.mpr c28
                        have c28b1 : (((rd_T42 l0 x7_2).f0) != 0) = true := bne_iff_ne.mpr c28
                        by_cases c40 : ((rd_T42 l0 x7_2).f0) = 1
                        · rw [if_pos c40] at H
                          have c40b0 : (((rd_T42 l0 x7_2).f0) == 1) = true := beq_iff_eq.mpr c40
                          have c40b1 : (((rd_T42 l0 x7_2).f0) != 1) = false := bne_eq_false_iff_eq.mpr c40
                          clear c40
                          replace H := Option.bind_eq_some_iff.mp H
                          obtain ⟨⟨t342, t343, t344⟩, A410, H⟩ := H
                          replace H : (if t344 = 0 then (if t343 < 1 then (none) else (if t343 > (x5_2.length : Int) then (none) else (if t342.toList = ((rd_T42 l0 x7_2).f2).toList then ((mapsheetsref02_SameInts.f k2 ((rd_T42 l0 x7_2).f3) ((rd_T42 l0 x7_2).f3)).bind fun t348 => (if t348 = true then (if 0 ≤ t343 then (if t343 ≤ (x5_2.length : Int) then (mapsheetslaw02_WireSequence.l1 k2 l0 l1 (x5_2.drop (t343 : Int).toNat) (wrap64 (x7_2 + 1))) else (none)) else (none)) else (none))) else (none)))) else (none)) = some r := H
                          have A41 := Aside0.mk A410
                          clear A410
                          by_cases c42 : t344 = 0
                          · rw [if_pos c42] at H
                            have c42b0 : (t344 == 0) = true := beq_iff_eq.mpr c42
                            have c42b1 : (t344 != 0) = false := bne_eq_false_iff_eq.mpr c42
                            clear c42
                            by_cases c43 : t343 < 1
                            · rw [if_pos c43] at H
                              exact absurd H (by simp)
                            · rw [if_neg c43] at H
                              have c43b0 : decide (t343 < 1) = false := decide_eq_false c43
                              clear c43
                              by_cases c44 : t343 > (x5_2.length : Int)
                              · rw [if_pos c44] at H
                                exact absurd H (by simp)
                              · rw [if_neg c44] at H
                                have c44b0 : decide ((x5_2.length : Int) < t343) = false := decide_eq_false c44
                                clear c44
                                by_cases c45 : t342.toList = ((rd_T42 l0 x7_2).f2).toList
                                · rw [if_pos c45] at H
                                  have c45b0 : (t342.toList == ((rd_T42 l0 x7_2).f2).toList) = true := beq_iff_eq.mpr c45
                                  have c45b1 : (t342.toList != ((rd_T42 l0 x7_2).f2).toList) = false := bne_eq_false_iff_eq.mpr c45
                                  clear c45
                                  replace H := Option.bind_eq_some_iff.mp H
                                  obtain ⟨t348, A460, H⟩ := H
                                  replace H : (if t348 = true then (if 0 ≤ t343 then (if t343 ≤ (x5_2.length : Int) then (mapsheetslaw02_WireSequence.l1 k2 l0 l1 (x5_2.drop (t343 : Int).toNat) (wrap64 (x7_2 + 1))) else (none)) else (none)) else (none)) = some r := H
                                  have A46 := Aside0.mk A460
                                  clear A460
                                  by_cases c47 : t348 = true
                                  · subst c47
                                    have H1 : (if 0 ≤ t343 then (if t343 ≤ (x5_2.length : Int) then (mapsheetslaw02_WireSequence.l1 k2 l0 l1 (x5_2.drop (t343 : Int).toNat) (wrap64 (x7_2 + 1))) else (none)) else (none)) = some r := by rw [if_pos rfl] at H; exact H
                                    clear H
                                    have H := H1
                                    clear H1
                                    by_cases c48 : 0 ≤ t343
                                    · rw [if_pos c48] at H
                                      have c48b0 := eq_true c48
                                      have c48b1 : decide (0 ≤ t343) = true := decide_eq_true c48
                                      clear c48
                                      by_cases c49 : t343 ≤ (x5_2.length : Int)
                                      · rw [if_pos c49] at H
                                        have c49b0 := eq_true c49
                                        have c49b1 : decide (t343 ≤ (x5_2.length : Int)) = true := decide_eq_true c49
                                        clear c49
                                        obtain ⟨y349, hy349⟩ : ∃ y_ : List Int, y_ = (x5_2.drop (t343 : Int).toNat) := ⟨_, rfl⟩
                                        replace H : (mapsheetslaw02_WireSequence.l1 k2 l0 l1 y349 (wrap64 (x7_2 + 1))) = some r := by first | (rw [hy349]; with_reducible exact H) | (have H2_ := (Option.bind_some _ _).symm.trans H; rw [hy349]; with_reducible exact H2_) | (have H2_ := (Option.bind_some _ _).symm.trans H; with_reducible exact H2_) | with_reducible exact H | (rw [hy349]; exact H) | exact H
                                        have Ny349 := Aside0.mk hy349
                                        clear hy349
                                        have H' := Aside0.mk H
                                        clear H
                                        have p327 : 0 ≤ (x7_2 : Int) := of_decide_eq_true (by first | (with_reducible assumption) | assumption)
                                        have q327 : x7_2 < (l0.length : Int) := of_decide_eq_true (by first | (with_reducible assumption) | assumption)
                                        obtain ⟨ad327, A327_3, c327_3, e327, hx327_0, hx327_1, hx327_2, hx327_3, hl327_3, hi327_3⟩ := at_T42 HR0.out x7_2 p327 q327
                                        cases e327
                                        replace hx327_0 := (HB.out.cell (World.block_lt_of_cell? w _ hx327_0)).trans hx327_0
                                        replace hx327_1 := (HB.out.cell (World.block_lt_of_cell? w _ hx327_1)).trans hx327_1
                                        replace hx327_2 := (HB.out.cell (World.block_lt_of_cell? w _ hx327_2)).trans hx327_2
                                        replace hx327_3 := (HB.out.cell (World.block_lt_of_cell? w _ hx327_3)).trans hx327_3
                                        have HR327_3 := Aside0.mk hi327_3
                                        have HC327_3 := Aside0.mk hl327_3
                                        clear hi327_3 hl327_3
                                        replace p327 := eq_true p327
                                        replace q327 := eq_true q327
                                        have p328 : 0 ≤ (x7_2 : Int) := of_decide_eq_true (by first | (with_reducible assumption) | assumption)
                                        have q328 : x7_2 < (l0.length : Int) := of_decide_eq_true (by first | (with_reducible assumption) | assumption)
                                        obtain ⟨ad328, A328_3, c328_3, e328, hx328_0, hx328_1, hx328_2, hx328_3, hl328_3, hi328_3⟩ := at_T42 HR0.out x7_2 p328 q328
                                        obtain rfl : ad327 = ad328 := (by injection e328)
                                        replace hx328_0 := (HB.out.cell (World.block_lt_of_cell? w _ hx328_0)).trans hx328_0
                                        replace hx328_1 := (HB.out.cell (World.block_lt_of_cell? w _ hx328_1)).trans hx328_1
                                        replace hx328_2 := (HB.out.cell (World.block_lt_of_cell? w _ hx328_2)).trans hx328_2
                                        replace hx328_3 := (HB.out.cell (World.block_lt_of_cell? w _ hx328_3)).trans hx328_3
                                        have HR328_3 := Aside0.mk hi328_3
                                        have HC328_3 := Aside0.mk hl328_3
                                        clear hi328_3 hl328_3
                                        replace p328 := eq_true p328
                                        replace q328 := eq_true q328
                                        have ea_ := Option.some.inj (hx327_3.symm.trans hx328_3)
                                        injection ea_ with ea_ en_ ec_
                                        subst ea_
                                        subst ec_
                                        clear en_
                                        have p329 : 0 ≤ (x7_2 : Int) := of_decide_eq_true (by first | (with_reducible assumption) | assumption)
                                        have q329 : x7_2 < (l0.length : Int) := of_decide_eq_true (by first | (with_reducible assumption) | assumption)
                                        obtain ⟨ad329, A329_3, c329_3, e329, hx329_0, hx329_1, hx329_2, hx329_3, hl329_3, hi329_3⟩ := at_T42 HR0.out x7_2 p329 q329
                                        obtain rfl : ad327 = ad329 := (by injection e329)
                                        replace hx329_0 := (HB.out.cell (World.block_lt_of_cell? w _ hx329_0)).trans hx329_0
                                        replace hx329_1 := (HB.out.cell (World.block_lt_of_cell? w _ hx329_1)).trans hx329_1
                                        replace hx329_2 := (HB.out.cell (World.block_lt_of_cell? w _ hx329_2)).trans hx329_2
                                        replace hx329_3 := (HB.out.cell (World.block_lt_of_cell? w _ hx329_3)).trans hx329_3
                                        have HR329_3 := Aside0.mk hi329_3
                                        have HC329_3 := Aside0.mk hl329_3
                                        clear hi329_3 hl329_3
                                        replace p329 := eq_true p329
                                        replace q329 := eq_true q329
                                        have ea_ := Option.some.inj (hx327_3.symm.trans hx329_3)
                                        injection ea_ with ea_ en_ ec_
                                        subst ea_
                                        subst ec_
                                        clear en_
                                        have p330 : 0 ≤ (x7_2 : Int) := of_decide_eq_true (by first | (with_reducible assumption) | assumption)
                                        have q330 : x7_2 < (l0.length : Int) := of_decide_eq_true (by first | (with_reducible assumption) | assumption)
                                        obtain ⟨ad330, A330_3, c330_3, e330, hx330_0, hx330_1, hx330_2, hx330_3, hl330_3, hi330_3⟩ := at_T42 HR0.out x7_2 p330 q330
                                        obtain rfl : ad327 = ad330 := (by injection e330)
                                        replace hx330_0 := (HB.out.cell (World.block_lt_of_cell? w _ hx330_0)).trans hx330_0
                                        replace hx330_1 := (HB.out.cell (World.block_lt_of_cell? w _ hx330_1)).trans hx330_1
                                        replace hx330_2 := (HB.out.cell (World.block_lt_of_cell? w _ hx330_2)).trans hx330_2
                                        replace hx330_3 := (HB.out.cell (World.block_lt_of_cell? w _ hx330_3)).trans hx330_3
                                        have HR330_3 := Aside0.mk hi330_3
                                        have HC330_3 := Aside0.mk hl330_3
                                        clear hi330_3 hl330_3
                                        replace p330 := eq_true p330
                                        replace q330 := eq_true q330
                                        have ea_ := Option.some.inj (hx327_3.symm.trans hx330_3)
                                        injection ea_ with ea_ en_ ec_
                                        subst ea_
                                        subst ec_
                                        clear en_
                                        have p341 : 0 ≤ (x7_2 : Int) := of_decide_eq_true (by first | (with_reducible assumption) | assumption)
                                        have q341 : x7_2 < (l0.length : Int) := of_decide_eq_true (by first | (with_reducible assumption) | assumption)
                                        obtain ⟨ad341, A341_3, c341_3, e341, hx341_0, hx341_1, hx341_2, hx341_3, hl341_3, hi341_3⟩ := at_T42 HR0.out x7_2 p341 q341
                                        obtain rfl : ad327 = ad341 := (by injection e341)
                                        replace hx341_0 := (HB.out.cell (World.block_lt_of_cell? w _ hx341_0)).trans hx341_0
                                        replace hx341_1 := (HB.out.cell (World.block_lt_of_cell? w _ hx341_1)).trans hx341_1
                                        replace hx341_2 := (HB.out.cell (World.block_lt_of_cell? w _ hx341_2)).trans hx341_2
                                        replace hx341_3 := (HB.out.cell (World.block_lt_of_cell? w _ hx341_3)).trans hx341_3
                                        have HR341_3 := Aside0.mk hi341_3
                                        have HC341_3 := Aside0.mk hl341_3
                                        clear hi341_3 hl341_3
                                        replace p341 := eq_true p341
                                        replace q341 := eq_true q341
                                        have ea_ := Option.some.inj (hx327_3.symm.trans hx341_3)
                                        injection ea_ with ea_ en_ ec_
                                        subst ea_
                                        subst ec_
                                        clear en_
                                        obtain ⟨Ao50, co50, eo50, _⟩ := Kd.Q_slice HO_5.out
                                        subst eo50
                                        go_wp2_with (first | (go_at_call 17; (with_reducible refine (wire_Text.calls k2 _ _ x5_2 (((rd_T42 l0 x7_2).f2).size : Int) t342 t343 t344 _ ?side1 ?side2 A41.out).mono ?_); (case side1 => repeat (first | exact (Kd.Q_reads' HO_5.out).2.2 | (with_reducible refine Kd.C_alloc ?_ _) | (with_reducible refine Kd.C_drewN ?_ _) | (with_reducible refine Kd.C_drew ?_))); (case side2 => exact (Kd.Q_reads' HO_5.out).2.1); rintro e w51 ⟨rfl, hb⟩; have n0_ := Aside0.mk (Kd.Q_below (by (with_reducible repeat (first | apply Kd.Q_alloc | apply Kd.Q_drewN | apply Kd.Q_drew)); exact HO_5.out) hb); have n1_ := Aside0.mk (below_step (by repeat (first | (with_reducible first | exact HB.out | apply below_alloc | apply pw_below_drewN | apply below_drew1) | exact HB.out)) hb); clear HO_5; clear HB; have HO_5 := n0_; have HB := n1_; clear n0_ n1_; (try clear hb); (try clear hb2); (try clear hk); (try clear hi); have p345 : 0 ≤ (x7_2 : Int) := of_decide_eq_true (by first | (with_reducible assumption) | assumption); have q345 : x7_2 < (l0.length : Int) := of_decide_eq_true (by first | (with_reducible assumption) | assumption); obtain ⟨ad345, A345_3, c345_3, e345, hx345_0, hx345_1, hx345_2, hx345_3, hl345_3, hi345_3⟩ := at_T42 HR0.out x7_2 p345 q345; obtain rfl : ad327 = ad345 := (by injection e345); replace hx345_0 := (HB.out.cell (World.block_lt_of_cell? w _ hx345_0)).trans hx345_0; replace hx345_1 := (HB.out.cell (World.block_lt_of_cell? w _ hx345_1)).trans hx345_1; replace hx345_2 := (HB.out.cell (World.block_lt_of_cell? w _ hx345_2)).trans hx345_2; replace hx345_3 := (HB.out.cell (World.block_lt_of_cell? w _ hx345_3)).trans hx345_3; have HR345_3 := Aside0.mk hi345_3; have HC345_3 := Aside0.mk hl345_3; clear hi345_3 hl345_3; replace p345 := eq_true p345; replace q345 := eq_true q345; have p346 : 0 ≤ (x7_2 : Int) := of_decide_eq_true (by first | (with_reducible assumption) | assumption); have q346 : x7_2 < (l0.length : Int) := of_decide_eq_true (by first | (with_reducible assumption) | assumption); obtain ⟨ad346, A346_3, c346_3, e346, hx346_0, hx346_1, hx346_2, hx346_3, hl346_3, hi346_3⟩ := at_T42 HR0.out x7_2 p346 q346; obtain rfl : ad327 = ad346 := (by injection e346); replace hx346_0 := (HB.out.cell (World.block_lt_of_cell? w _ hx346_0)).trans hx346_0; replace hx346_1 := (HB.out.cell (World.block_lt_of_cell? w _ hx346_1)).trans hx346_1; replace hx346_2 := (HB.out.cell (World.block_lt_of_cell? w _ hx346_2)).trans hx346_2; replace hx346_3 := (HB.out.cell (World.block_lt_of_cell? w _ hx346_3)).trans hx346_3; have HR346_3 := Aside0.mk hi346_3; have HC346_3 := Aside0.mk hl346_3; clear hi346_3 hl346_3; replace p346 := eq_true p346; replace q346 := eq_true q346; have ea_ := Option.some.inj (hx345_3.symm.trans hx346_3); injection ea_ with ea_ en_ ec_; subst ea_; subst ec_; clear en_; have p347 : 0 ≤ (x7_2 : Int) := of_decide_eq_true (by first | (with_reducible assumption) | assumption); have q347 : x7_2 < (l0.length : Int) := of_decide_eq_true (by first | (with_reducible assumption) | assumption); obtain ⟨ad347, A347_3, c347_3, e347, hx347_0, hx347_1, hx347_2, hx347_3, hl347_3, hi347_3⟩ := at_T42 HR0.out x7_2 p347 q347; obtain rfl : ad327 = ad347 := (by injection e347); replace hx347_0 := (HB.out.cell (World.block_lt_of_cell? w _ hx347_0)).trans hx347_0; replace hx347_1 := (HB.out.cell (World.block_lt_of_cell? w _ hx347_1)).trans hx347_1; replace hx347_2 := (HB.out.cell (World.block_lt_of_cell? w _ hx347_2)).trans hx347_2; replace hx347_3 := (HB.out.cell (World.block_lt_of_cell? w _ hx347_3)).trans hx347_3; have HR347_3 := Aside0.mk hi347_3; have HC347_3 := Aside0.mk hl347_3; clear hi347_3 hl347_3; replace p347 := eq_true p347; replace q347 := eq_true q347; have ea_ := Option.some.inj (hx345_3.symm.trans hx347_3); injection ea_ with ea_ en_ ec_; subst ea_; subst ec_; clear en_) | (go_at_call 25; (with_reducible refine (mapsheetsref02_SameInts.calls k2 _ _ ((rd_T42 l0 x7_2).f3) _ _ ((rd_T42 l0 x7_2).f3) true _ ?side1 ?side2 ?side3 ?side4 A46.out).mono ?_); (case side1 => repeat (first | exact (Kd.C_below HR329_3.out HB.out) | (with_reducible refine Kd.C_alloc ?_ _) | (with_reducible refine Kd.C_drewN ?_ _) | (with_reducible refine Kd.C_drew ?_))); (case side2 => exact HC329_3.out); (case side3 => repeat (first | exact (Kd.C_below HR347_3.out HB.out) | (with_reducible refine Kd.C_alloc ?_ _) | (with_reducible refine Kd.C_drewN ?_ _) | (with_reducible refine Kd.C_drew ?_))); (case side4 => exact HC347_3.out); rintro e w' ⟨rfl, ⟨nd, rfl⟩⟩; (try first | exact ⟨rfl, _, World.drewN_drewN _ _ _⟩ | exact ⟨rfl, _, Eq.trans (World.drewN_drewN _ _ _) (congrArg (World.drewN _) (Nat.add_assoc _ _ _))⟩); have q52 : (t343 : Int) ≤ ((x5_2.length : Int) : Int) := of_decide_eq_true (by first | (with_reducible assumption) | assumption); obtain ⟨i052, hi052, _, hsz52, _⟩ := info_parts info5; have hcut52 := cut_from (P := Try.prog) 22 5 .i64 Try.underlying22 hi052 1 hsz52 Ao50 x5_2.length co50 t343 (of_decide_eq_true (by first | (with_reducible assumption) | assumption)) q52; have hr52 := Kd.Q_drop (k := (t343 : Int).toNat) HO_5.out (by omega); obtain ⟨A52, hA52⟩ : ∃ A1, A1 = (if co50 = (t343 : Int).toNat then Ao50 else (Ao50 : Option Addr).map (·.add ((t343 : Int).toNat * 1))) := ⟨_, rfl⟩; obtain ⟨c52, hc52⟩ : ∃ c1, c1 = co50 - (t343 : Int).toNat := ⟨_, rfl⟩; have hy52 : y349.length = x5_2.length - (t343 : Int).toNat := (by rw [Ny349.out, List.length_drop]); rw [← Ny349.out] at hr52; rw [← hy52, ← hA52, ← hc52] at hcut52; replace hr52 : Kd.Q (Kd.int .u8) 5 w51 w.heap.size (fun _ => True) (.slice A52 y349.length c52) y349 := (by rw [hA52, hc52, hy52]; exact hr52); have HE52 : Aside0 ((Value.slice A52 y349.length c52).ownBlock = (.slice Ao50 x5_2.length co50 : Value).ownBlock) := ⟨by rw [hA52]; split <;> (cases (Ao50 : Option Addr) <;> first | rfl | (simp [Value.ownBlock, Addr.add]; done) | (simp only [Value.ownBlock, Option.map_some, Addr.add]; split <;> rfl))⟩; clear hy52 hi052 hsz52 HO_5 hA52 hc52; have HO351 := Aside0.mk hr52; clear hr52; replace q52 := eq_true q52))
                                        repeat (go_quiet (first | (go_at_call 17; (with_reducible refine (wire_Text.calls k2 _ _ x5_2 (((rd_T42 l0 x7_2).f2).size : Int) t342 t343 t344 _ ?side1 ?side2 A41.out).mono ?_); (case side1 => repeat (first | exact (Kd.Q_reads' HO_5.out).2.2 | (with_reducible refine Kd.C_alloc ?_ _) | (with_reducible refine Kd.C_drewN ?_ _) | (with_reducible refine Kd.C_drew ?_))); (case side2 => exact (Kd.Q_reads' HO_5.out).2.1); rintro e w51 ⟨rfl, hb⟩; have n0_ := Aside0.mk (Kd.Q_below (by (with_reducible repeat (first | apply Kd.Q_alloc | apply Kd.Q_drewN | apply Kd.Q_drew)); exact HO_5.out) hb); have n1_ := Aside0.mk (below_step (by repeat (first | (with_reducible first | exact HB.out | apply below_alloc | apply pw_below_drewN | apply below_drew1) | exact HB.out)) hb); clear HO_5; clear HB; have HO_5 := n0_; have HB := n1_; clear n0_ n1_; (try clear hb); (try clear hb2); (try clear hk); (try clear hi); have p345 : 0 ≤ (x7_2 : Int) := of_decide_eq_true (by first | (with_reducible assumption) | assumption); have q345 : x7_2 < (l0.length : Int) := of_decide_eq_true (by first | (with_reducible assumption) | assumption); obtain ⟨ad345, A345_3, c345_3, e345, hx345_0, hx345_1, hx345_2, hx345_3, hl345_3, hi345_3⟩ := at_T42 HR0.out x7_2 p345 q345; obtain rfl : ad327 = ad345 := (by injection e345); replace hx345_0 := (HB.out.cell (World.block_lt_of_cell? w _ hx345_0)).trans hx345_0; replace hx345_1 := (HB.out.cell (World.block_lt_of_cell? w _ hx345_1)).trans hx345_1; replace hx345_2 := (HB.out.cell (World.block_lt_of_cell? w _ hx345_2)).trans hx345_2; replace hx345_3 := (HB.out.cell (World.block_lt_of_cell? w _ hx345_3)).trans hx345_3; have HR345_3 := Aside0.mk hi345_3; have HC345_3 := Aside0.mk hl345_3; clear hi345_3 hl345_3; replace p345 := eq_true p345; replace q345 := eq_true q345; have p346 : 0 ≤ (x7_2 : Int) := of_decide_eq_true (by first | (with_reducible assumption) | assumption); have q346 : x7_2 < (l0.length : Int) := of_decide_eq_true (by first | (with_reducible assumption) | assumption); obtain ⟨ad346, A346_3, c346_3, e346, hx346_0, hx346_1, hx346_2, hx346_3, hl346_3, hi346_3⟩ := at_T42 HR0.out x7_2 p346 q346; obtain rfl : ad327 = ad346 := (by injection e346); replace hx346_0 := (HB.out.cell (World.block_lt_of_cell? w _ hx346_0)).trans hx346_0; replace hx346_1 := (HB.out.cell (World.block_lt_of_cell? w _ hx346_1)).trans hx346_1; replace hx346_2 := (HB.out.cell (World.block_lt_of_cell? w _ hx346_2)).trans hx346_2; replace hx346_3 := (HB.out.cell (World.block_lt_of_cell? w _ hx346_3)).trans hx346_3; have HR346_3 := Aside0.mk hi346_3; have HC346_3 := Aside0.mk hl346_3; clear hi346_3 hl346_3; replace p346 := eq_true p346; replace q346 := eq_true q346; have ea_ := Option.some.inj (hx345_3.symm.trans hx346_3); injection ea_ with ea_ en_ ec_; subst ea_; subst ec_; clear en_; have p347 : 0 ≤ (x7_2 : Int) := of_decide_eq_true (by first | (with_reducible assumption) | assumption); have q347 : x7_2 < (l0.length : Int) := of_decide_eq_true (by first | (with_reducible assumption) | assumption); obtain ⟨ad347, A347_3, c347_3, e347, hx347_0, hx347_1, hx347_2, hx347_3, hl347_3, hi347_3⟩ := at_T42 HR0.out x7_2 p347 q347; obtain rfl : ad327 = ad347 := (by injection e347); replace hx347_0 := (HB.out.cell (World.block_lt_of_cell? w _ hx347_0)).trans hx347_0; replace hx347_1 := (HB.out.cell (World.block_lt_of_cell? w _ hx347_1)).trans hx347_1; replace hx347_2 := (HB.out.cell (World.block_lt_of_cell? w _ hx347_2)).trans hx347_2; replace hx347_3 := (HB.out.cell (World.block_lt_of_cell? w _ hx347_3)).trans hx347_3; have HR347_3 := Aside0.mk hi347_3; have HC347_3 := Aside0.mk hl347_3; clear hi347_3 hl347_3; replace p347 := eq_true p347; replace q347 := eq_true q347; have ea_ := Option.some.inj (hx345_3.symm.trans hx347_3); injection ea_ with ea_ en_ ec_; subst ea_; subst ec_; clear en_) | (go_at_call 25; (with_reducible refine (mapsheetsref02_SameInts.calls k2 _ _ ((rd_T42 l0 x7_2).f3) _ _ ((rd_T42 l0 x7_2).f3) true _ ?side1 ?side2 ?side3 ?side4 A46.out).mono ?_); (case side1 => repeat (first | exact (Kd.C_below HR329_3.out HB.out) | (with_reducible refine Kd.C_alloc ?_ _) | (with_reducible refine Kd.C_drewN ?_ _) | (with_reducible refine Kd.C_drew ?_))); (case side2 => exact HC329_3.out); (case side3 => repeat (first | exact (Kd.C_below HR347_3.out HB.out) | (with_reducible refine Kd.C_alloc ?_ _) | (with_reducible refine Kd.C_drewN ?_ _) | (with_reducible refine Kd.C_drew ?_))); (case side4 => exact HC347_3.out); rintro e w' ⟨rfl, ⟨nd, rfl⟩⟩; (try first | exact ⟨rfl, _, World.drewN_drewN _ _ _⟩ | exact ⟨rfl, _, Eq.trans (World.drewN_drewN _ _ _) (congrArg (World.drewN _) (Nat.add_assoc _ _ _))⟩); have q52 : (t343 : Int) ≤ ((x5_2.length : Int) : Int) := of_decide_eq_true (by first | (with_reducible assumption) | assumption); obtain ⟨i052, hi052, _, hsz52, _⟩ := info_parts info5; have hcut52 := cut_from (P := Try.prog) 22 5 .i64 Try.underlying22 hi052 1 hsz52 Ao50 x5_2.length co50 t343 (of_decide_eq_true (by first | (with_reducible assumption) | assumption)) q52; have hr52 := Kd.Q_drop (k := (t343 : Int).toNat) HO_5.out (by omega); obtain ⟨A52, hA52⟩ : ∃ A1, A1 = (if co50 = (t343 : Int).toNat then Ao50 else (Ao50 : Option Addr).map (·.add ((t343 : Int).toNat * 1))) := ⟨_, rfl⟩; obtain ⟨c52, hc52⟩ : ∃ c1, c1 = co50 - (t343 : Int).toNat := ⟨_, rfl⟩; have hy52 : y349.length = x5_2.length - (t343 : Int).toNat := (by rw [Ny349.out, List.length_drop]); rw [← Ny349.out] at hr52; rw [← hy52, ← hA52, ← hc52] at hcut52; replace hr52 : Kd.Q (Kd.int .u8) 5 w51 w.heap.size (fun _ => True) (.slice A52 y349.length c52) y349 := (by rw [hA52, hc52, hy52]; exact hr52); have HE52 : Aside0 ((Value.slice A52 y349.length c52).ownBlock = (.slice Ao50 x5_2.length co50 : Value).ownBlock) := ⟨by rw [hA52]; split <;> (cases (Ao50 : Option Addr) <;> first | rfl | (simp [Value.ownBlock, Addr.add]; done) | (simp only [Value.ownBlock, Option.map_some, Addr.add]; split <;> rfl))⟩; clear hy52 hi052 hsz52 HO_5 hA52 hc52; have HO351 := Aside0.mk hr52; clear hr52; replace q52 := eq_true q52)); try go_wp2_with (first | (go_at_call 17; (with_reducible refine (wire_Text.calls k2 _ _ x5_2 (((rd_T42 l0 x7_2).f2).size : Int) t342 t343 t344 _ ?side1 ?side2 A41.out).mono ?_); (case side1 => repeat (first | exact (Kd.Q_reads' HO_5.out).2.2 | (with_reducible refine Kd.C_alloc ?_ _) | (with_reducible refine Kd.C_drewN ?_ _) | (with_reducible refine Kd.C_drew ?_))); (case side2 => exact (Kd.Q_reads' HO_5.out).2.1); rintro e w51 ⟨rfl, hb⟩; have n0_ := Aside0.mk (Kd.Q_below (by (with_reducible repeat (first | apply Kd.Q_alloc | apply Kd.Q_drewN | apply Kd.Q_drew)); exact HO_5.out) hb); have n1_ := Aside0.mk (below_step (by repeat (first | (with_reducible first | exact HB.out | apply below_alloc | apply pw_below_drewN | apply below_drew1) | exact HB.out)) hb); clear HO_5; clear HB; have HO_5 := n0_; have HB := n1_; clear n0_ n1_; (try clear hb); (try clear hb2); (try clear hk); (try clear hi); have p345 : 0 ≤ (x7_2 : Int) := of_decide_eq_true (by first | (with_reducible assumption) | assumption); have q345 : x7_2 < (l0.length : Int) := of_decide_eq_true (by first | (with_reducible assumption) | assumption); obtain ⟨ad345, A345_3, c345_3, e345, hx345_0, hx345_1, hx345_2, hx345_3, hl345_3, hi345_3⟩ := at_T42 HR0.out x7_2 p345 q345; obtain rfl : ad327 = ad345 := (by injection e345); replace hx345_0 := (HB.out.cell (World.block_lt_of_cell? w _ hx345_0)).trans hx345_0; replace hx345_1 := (HB.out.cell (World.block_lt_of_cell? w _ hx345_1)).trans hx345_1; replace hx345_2 := (HB.out.cell (World.block_lt_of_cell? w _ hx345_2)).trans hx345_2; replace hx345_3 := (HB.out.cell (World.block_lt_of_cell? w _ hx345_3)).trans hx345_3; have HR345_3 := Aside0.mk hi345_3; have HC345_3 := Aside0.mk hl345_3; clear hi345_3 hl345_3; replace p345 := eq_true p345; replace q345 := eq_true q345; have p346 : 0 ≤ (x7_2 : Int) := of_decide_eq_true (by first | (with_reducible assumption) | assumption); have q346 : x7_2 < (l0.length : Int) := of_decide_eq_true (by first | (with_reducible assumption) | assumption); obtain ⟨ad346, A346_3, c346_3, e346, hx346_0, hx346_1, hx346_2, hx346_3, hl346_3, hi346_3⟩ := at_T42 HR0.out x7_2 p346 q346; obtain rfl : ad327 = ad346 := (by injection e346); replace hx346_0 := (HB.out.cell (World.block_lt_of_cell? w _ hx346_0)).trans hx346_0; replace hx346_1 := (HB.out.cell (World.block_lt_of_cell? w _ hx346_1)).trans hx346_1; replace hx346_2 := (HB.out.cell (World.block_lt_of_cell? w _ hx346_2)).trans hx346_2; replace hx346_3 := (HB.out.cell (World.block_lt_of_cell? w _ hx346_3)).trans hx346_3; have HR346_3 := Aside0.mk hi346_3; have HC346_3 := Aside0.mk hl346_3; clear hi346_3 hl346_3; replace p346 := eq_true p346; replace q346 := eq_true q346; have ea_ := Option.some.inj (hx345_3.symm.trans hx346_3); injection ea_ with ea_ en_ ec_; subst ea_; subst ec_; clear en_; have p347 : 0 ≤ (x7_2 : Int) := of_decide_eq_true (by first | (with_reducible assumption) | assumption); have q347 : x7_2 < (l0.length : Int) := of_decide_eq_true (by first | (with_reducible assumption) | assumption); obtain ⟨ad347, A347_3, c347_3, e347, hx347_0, hx347_1, hx347_2, hx347_3, hl347_3, hi347_3⟩ := at_T42 HR0.out x7_2 p347 q347; obtain rfl : ad327 = ad347 := (by injection e347); replace hx347_0 := (HB.out.cell (World.block_lt_of_cell? w _ hx347_0)).trans hx347_0; replace hx347_1 := (HB.out.cell (World.block_lt_of_cell? w _ hx347_1)).trans hx347_1; replace hx347_2 := (HB.out.cell (World.block_lt_of_cell? w _ hx347_2)).trans hx347_2; replace hx347_3 := (HB.out.cell (World.block_lt_of_cell? w _ hx347_3)).trans hx347_3; have HR347_3 := Aside0.mk hi347_3; have HC347_3 := Aside0.mk hl347_3; clear hi347_3 hl347_3; replace p347 := eq_true p347; replace q347 := eq_true q347; have ea_ := Option.some.inj (hx345_3.symm.trans hx347_3); injection ea_ with ea_ en_ ec_; subst ea_; subst ec_; clear en_) | (go_at_call 25; (with_reducible refine (mapsheetsref02_SameInts.calls k2 _ _ ((rd_T42 l0 x7_2).f3) _ _ ((rd_T42 l0 x7_2).f3) true _ ?side1 ?side2 ?side3 ?side4 A46.out).mono ?_); (case side1 => repeat (first | exact (Kd.C_below HR329_3.out HB.out) | (with_reducible refine Kd.C_alloc ?_ _) | (with_reducible refine Kd.C_drewN ?_ _) | (with_reducible refine Kd.C_drew ?_))); (case side2 => exact HC329_3.out); (case side3 => repeat (first | exact (Kd.C_below HR347_3.out HB.out) | (with_reducible refine Kd.C_alloc ?_ _) | (with_reducible refine Kd.C_drewN ?_ _) | (with_reducible refine Kd.C_drew ?_))); (case side4 => exact HC347_3.out); rintro e w' ⟨rfl, ⟨nd, rfl⟩⟩; (try first | exact ⟨rfl, _, World.drewN_drewN _ _ _⟩ | exact ⟨rfl, _, Eq.trans (World.drewN_drewN _ _ _) (congrArg (World.drewN _) (Nat.add_assoc _ _ _))⟩); have q52 : (t343 : Int) ≤ ((x5_2.length : Int) : Int) := of_decide_eq_true (by first | (with_reducible assumption) | assumption); obtain ⟨i052, hi052, _, hsz52, _⟩ := info_parts info5; have hcut52 := cut_from (P := Try.prog) 22 5 .i64 Try.underlying22 hi052 1 hsz52 Ao50 x5_2.length co50 t343 (of_decide_eq_true (by first | (with_reducible assumption) | assumption)) q52; have hr52 := Kd.Q_drop (k := (t343 : Int).toNat) HO_5.out (by omega); obtain ⟨A52, hA52⟩ : ∃ A1, A1 = (if co50 = (t343 : Int).toNat then Ao50 else (Ao50 : Option Addr).map (·.add ((t343 : Int).toNat * 1))) := ⟨_, rfl⟩; obtain ⟨c52, hc52⟩ : ∃ c1, c1 = co50 - (t343 : Int).toNat := ⟨_, rfl⟩; have hy52 : y349.length = x5_2.length - (t343 : Int).toNat := (by rw [Ny349.out, List.length_drop]); rw [← Ny349.out] at hr52; rw [← hy52, ← hA52, ← hc52] at hcut52; replace hr52 : Kd.Q (Kd.int .u8) 5 w51 w.heap.size (fun _ => True) (.slice A52 y349.length c52) y349 := (by rw [hA52, hc52, hy52]; exact hr52); have HE52 : Aside0 ((Value.slice A52 y349.length c52).ownBlock = (.slice Ao50 x5_2.length co50 : Value).ownBlock) := ⟨by rw [hA52]; split <;> (cases (Ao50 : Option Addr) <;> first | rfl | (simp [Value.ownBlock, Addr.add]; done) | (simp only [Value.ownBlock, Option.map_some, Addr.add]; split <;> rfl))⟩; clear hy52 hi052 hsz52 HO_5 hA52 hc52; have HO351 := Aside0.mk hr52; clear hr52; replace q52 := eq_true q52)))
                                        go_roundg k2
                                        case measure => have := HK1.out; have := HK2.out; omega
                                        case rel => exact ⟨(y349), (wrap64 (x7_2 + 1)), (by first | rfl | (simp; done) | (simp [*]; done)), H', ⟨by have := HK1.out; have := HK2.out; omega⟩, ⟨by (with_reducible repeat (first | apply Kd.Q_alloc | apply Kd.Q_drewN | apply Kd.Q_drew)); exact HO351.out⟩, ⟨by repeat (first | (with_reducible first | exact HB.out | apply below_alloc | apply pw_below_drewN | apply below_drew1) | exact HB.out)⟩⟩
                                      · rw [if_neg c49] at H
                                        exact absurd H (by simp)
                                    · rw [if_neg c48] at H
                                      exact absurd H (by simp)
                                  · replace c47 := Bool.eq_false_iff.mpr c47
                                    subst c47
                                    have H1 : (none) = some r := by rw [if_neg (show ¬ (false = true) by decide)] at H; exact H
                                    clear H
                                    have H := H1
                                    clear H1
                                    exact absurd H (by simp)
                                · rw [if_neg c45] at H
                                  exact absurd H (by simp)
                          · rw [if_neg c42] at H
                            exact absurd H (by simp)
                        · rw [if_neg c40] at H
                          have c40b0 : (((rd_T42 l0 x7_2).f0) == 1) = false := beq_eq_false_iff_ne.mpr c40
                          have c40b1 : (((rd_T42 l0 x7_2).f0) != 1) = true := bne_iff_ne.mpr c40
                          replace H := Option.bind_eq_some_iff.mp H
                          obtain ⟨⟨t353, t354, t355⟩, A530, H⟩ := H
                          replace H : (if t355 = 0 then (if t354 < 1 then (none) else (if t354 > (x5_2.length : Int) then (none) else ((mapsheetsref02_SameInts.f k2 t353 ((rd_T42 l0 x7_2).f3)).bind fun t361 => (if t361 = true then (if 0 ≤ t354 then (if t354 ≤ (x5_2.length : Int) then (mapsheetslaw02_WireSequence.l1 k2 l0 l1 (x5_2.drop (t354 : Int).toNat) (wrap64 (x7_2 + 1))) else (none)) else (none)) else (none))))) else (none)) = some r := H
                          have A53 := Aside0.mk A530
                          clear A530
                          by_cases c54 : t355 = 0
                          · rw [if_pos c54] at H
                            have c54b0 : (t355 == 0) = true := beq_iff_eq.mpr c54
                            have c54b1 : (t355 != 0) = false := bne_eq_false_iff_eq.mpr c54
                            clear c54
                            by_cases c55 : t354 < 1
                            · rw [if_pos c55] at H
                              exact absurd H (by simp)
                            · rw [if_neg c55] at H
                              have c55b0 : decide (t354 < 1) = false := decide_eq_false c55
                              clear c55
                              by_cases c56 : t354 > (x5_2.length : Int)
                              · rw [if_pos c56] at H
                                exact absurd H (by simp)
                              · rw [if_neg c56] at H
                                have c56b0 : decide ((x5_2.length : Int) < t354) = false := decide_eq_false c56
                                clear c56
                                replace H := Option.bind_eq_some_iff.mp H
                                obtain ⟨t361, A570, H⟩ := H
                                replace H : (if t361 = true then (if 0 ≤ t354 then (if t354 ≤ (x5_2.length : Int) then (mapsheetslaw02_WireSequence.l1 k2 l0 l1 (x5_2.drop (t354 : Int).toNat) (wrap64 (x7_2 + 1))) else (none)) else (none)) else (none)) = some r := H
                                have A57 := Aside0.mk A570
                                clear A570
                                by_cases c58 : t361 = true
                                · subst c58
                                  have H1 : (if 0 ≤ t354 then (if t354 ≤ (x5_2.length : Int) then (mapsheetslaw02_WireSequence.l1 k2 l0 l1 (x5_2.drop (t354 : Int).toNat) (wrap64 (x7_2 + 1))) else (none)) else (none)) = some r := by rw [if_pos rfl] at H; exact H
                                  clear H
                                  have H := H1
                                  clear H1
                                  by_cases c59 : 0 ≤ t354
                                  · rw [if_pos c59] at H
                                    have c59b0 := eq_true c59
                                    have c59b1 : decide (0 ≤ t354) = true := decide_eq_true c59
                                    clear c59
                                    by_cases c60 : t354 ≤ (x5_2.length : Int)
                                    · rw [if_pos c60] at H
                                      have c60b0 := eq_true c60
                                      have c60b1 : decide (t354 ≤ (x5_2.length : Int)) = true := decide_eq_true c60
                                      clear c60
                                      obtain ⟨y362, hy362⟩ : ∃ y_ : List Int, y_ = (x5_2.drop (t354 : Int).toNat) := ⟨_, rfl⟩
                                      replace H : (mapsheetslaw02_WireSequence.l1 k2 l0 l1 y362 (wrap64 (x7_2 + 1))) = some r := by first | (rw [hy362]; with_reducible exact H) | (have H2_ := (Option.bind_some _ _).symm.trans H; rw [hy362]; with_reducible exact H2_) | (have H2_ := (Option.bind_some _ _).symm.trans H; with_reducible exact H2_) | with_reducible exact H | (rw [hy362]; exact H) | exact H
                                      have Ny362 := Aside0.mk hy362
                                      clear hy362
                                      have H' := Aside0.mk H
                                      clear H
                                      have p327 : 0 ≤ (x7_2 : Int) := of_decide_eq_true (by first | (with_reducible assumption) | assumption)
                                      have q327 : x7_2 < (l0.length : Int) := of_decide_eq_true (by first | (with_reducible assumption) | assumption)
                                      obtain ⟨ad327, A327_3, c327_3, e327, hx327_0, hx327_1, hx327_2, hx327_3, hl327_3, hi327_3⟩ := at_T42 HR0.out x7_2 p327 q327
                                      cases e327
                                      replace hx327_0 := (HB.out.cell (World.block_lt_of_cell? w _ hx327_0)).trans hx327_0
                                      replace hx327_1 := (HB.out.cell (World.block_lt_of_cell? w _ hx327_1)).trans hx327_1
                                      replace hx327_2 := (HB.out.cell (World.block_lt_of_cell? w _ hx327_2)).trans hx327_2
                                      replace hx327_3 := (HB.out.cell (World.block_lt_of_cell? w _ hx327_3)).trans hx327_3
                                      have HR327_3 := Aside0.mk hi327_3
                                      have HC327_3 := Aside0.mk hl327_3
                                      clear hi327_3 hl327_3
                                      replace p327 := eq_true p327
                                      replace q327 := eq_true q327
                                      have p328 : 0 ≤ (x7_2 : Int) := of_decide_eq_true (by first | (with_reducible assumption) | assumption)
                                      have q328 : x7_2 < (l0.length : Int) := of_decide_eq_true (by first | (with_reducible assumption) | assumption)
                                      obtain ⟨ad328, A328_3, c328_3, e328, hx328_0, hx328_1, hx328_2, hx328_3, hl328_3, hi328_3⟩ := at_T42 HR0.out x7_2 p328 q328
                                      obtain rfl : ad327 = ad328 := (by injection e328)
                                      replace hx328_0 := (HB.out.cell (World.block_lt_of_cell? w _ hx328_0)).trans hx328_0
                                      replace hx328_1 := (HB.out.cell (World.block_lt_of_cell? w _ hx328_1)).trans hx328_1
                                      replace hx328_2 := (HB.out.cell (World.block_lt_of_cell? w _ hx328_2)).trans hx328_2
                                      replace hx328_3 := (HB.out.cell (World.block_lt_of_cell? w _ hx328_3)).trans hx328_3
                                      have HR328_3 := Aside0.mk hi328_3
                                      have HC328_3 := Aside0.mk hl328_3
                                      clear hi328_3 hl328_3
                                      replace p328 := eq_true p328
                                      replace q328 := eq_true q328
                                      have ea_ := Option.some.inj (hx327_3.symm.trans hx328_3)
                                      injection ea_ with ea_ en_ ec_
                                      subst ea_
                                      subst ec_
                                      clear en_
                                      have p329 : 0 ≤ (x7_2 : Int) := of_decide_eq_true (by first | (with_reducible assumption) | assumption)
                                      have q329 : x7_2 < (l0.length : Int) := of_decide_eq_true (by first | (with_reducible assumption) | assumption)
                                      obtain ⟨ad329, A329_3, c329_3, e329, hx329_0, hx329_1, hx329_2, hx329_3, hl329_3, hi329_3⟩ := at_T42 HR0.out x7_2 p329 q329
                                      obtain rfl : ad327 = ad329 := (by injection e329)
                                      replace hx329_0 := (HB.out.cell (World.block_lt_of_cell? w _ hx329_0)).trans hx329_0
                                      replace hx329_1 := (HB.out.cell (World.block_lt_of_cell? w _ hx329_1)).trans hx329_1
                                      replace hx329_2 := (HB.out.cell (World.block_lt_of_cell? w _ hx329_2)).trans hx329_2
                                      replace hx329_3 := (HB.out.cell (World.block_lt_of_cell? w _ hx329_3)).trans hx329_3
                                      have HR329_3 := Aside0.mk hi329_3
                                      have HC329_3 := Aside0.mk hl329_3
                                      clear hi329_3 hl329_3
                                      replace p329 := eq_true p329
                                      replace q329 := eq_true q329
                                      have ea_ := Option.some.inj (hx327_3.symm.trans hx329_3)
                                      injection ea_ with ea_ en_ ec_
                                      subst ea_
                                      subst ec_
                                      clear en_
                                      have p330 : 0 ≤ (x7_2 : Int) := of_decide_eq_true (by first | (with_reducible assumption) | assumption)
                                      have q330 : x7_2 < (l0.length : Int) := of_decide_eq_true (by first | (with_reducible assumption) | assumption)
                                      obtain ⟨ad330, A330_3, c330_3, e330, hx330_0, hx330_1, hx330_2, hx330_3, hl330_3, hi330_3⟩ := at_T42 HR0.out x7_2 p330 q330
                                      obtain rfl : ad327 = ad330 := (by injection e330)
                                      replace hx330_0 := (HB.out.cell (World.block_lt_of_cell? w _ hx330_0)).trans hx330_0
                                      replace hx330_1 := (HB.out.cell (World.block_lt_of_cell? w _ hx330_1)).trans hx330_1
                                      replace hx330_2 := (HB.out.cell (World.block_lt_of_cell? w _ hx330_2)).trans hx330_2
                                      replace hx330_3 := (HB.out.cell (World.block_lt_of_cell? w _ hx330_3)).trans hx330_3
                                      have HR330_3 := Aside0.mk hi330_3
                                      have HC330_3 := Aside0.mk hl330_3
                                      clear hi330_3 hl330_3
                                      replace p330 := eq_true p330
                                      replace q330 := eq_true q330
                                      have ea_ := Option.some.inj (hx327_3.symm.trans hx330_3)
                                      injection ea_ with ea_ en_ ec_
                                      subst ea_
                                      subst ec_
                                      clear en_
                                      have p352 : 0 ≤ (x7_2 : Int) := of_decide_eq_true (by first | (with_reducible assumption) | assumption)
                                      have q352 : x7_2 < (l0.length : Int) := of_decide_eq_true (by first | (with_reducible assumption) | assumption)
                                      obtain ⟨ad352, A352_3, c352_3, e352, hx352_0, hx352_1, hx352_2, hx352_3, hl352_3, hi352_3⟩ := at_T42 HR0.out x7_2 p352 q352
                                      obtain rfl : ad327 = ad352 := (by injection e352)
                                      replace hx352_0 := (HB.out.cell (World.block_lt_of_cell? w _ hx352_0)).trans hx352_0
                                      replace hx352_1 := (HB.out.cell (World.block_lt_of_cell? w _ hx352_1)).trans hx352_1
                                      replace hx352_2 := (HB.out.cell (World.block_lt_of_cell? w _ hx352_2)).trans hx352_2
                                      replace hx352_3 := (HB.out.cell (World.block_lt_of_cell? w _ hx352_3)).trans hx352_3
                                      have HR352_3 := Aside0.mk hi352_3
                                      have HC352_3 := Aside0.mk hl352_3
                                      clear hi352_3 hl352_3
                                      replace p352 := eq_true p352
                                      replace q352 := eq_true q352
                                      have ea_ := Option.some.inj (hx327_3.symm.trans hx352_3)
                                      injection ea_ with ea_ en_ ec_
                                      subst ea_
                                      subst ec_
                                      clear en_
                                      obtain ⟨Ao61, co61, eo61, _⟩ := Kd.Q_slice HO_5.out
                                      subst eo61
                                      go_wp2_with (first | (go_at_call 21; (with_reducible refine (wire_List.calls k2 _ _ x5_2 (((rd_T42 l0 x7_2).f3).length : Int) t353 t354 t355 _ ?side1 ?side2 A53.out).mono ?_); (case side1 => repeat (first | exact (Kd.Q_reads' HO_5.out).2.2 | (with_reducible refine Kd.C_alloc ?_ _) | (with_reducible refine Kd.C_drewN ?_ _) | (with_reducible refine Kd.C_drew ?_))); (case side2 => exact (Kd.Q_reads' HO_5.out).2.1); rintro e w62 ⟨v356, rfl, ho0, hb⟩; have n0_ := Aside0.mk (Kd.Q_below (by (with_reducible repeat (first | apply Kd.Q_alloc | apply Kd.Q_drewN | apply Kd.Q_drew)); exact HO_5.out) hb); have n1_ := Aside0.mk (Kd.R_lower ho0 (below_size (by repeat (first | (with_reducible first | exact HB.out | apply below_alloc | apply pw_below_drewN | apply below_drew1) | exact HB.out)))); have n2_ := Aside0.mk (below_step (by repeat (first | (with_reducible first | exact HB.out | apply below_alloc | apply pw_below_drewN | apply below_drew1) | exact HB.out)) hb); clear HO_5; clear HB; have HO_5 := n0_; have HO357 := n1_; have HB := n2_; clear n0_ n1_ n2_; (try clear hb); (try clear hb2); (try clear hk); (try clear hi); (try clear ho0); have p358 : 0 ≤ (x7_2 : Int) := of_decide_eq_true (by first | (with_reducible assumption) | assumption); have q358 : x7_2 < (l0.length : Int) := of_decide_eq_true (by first | (with_reducible assumption) | assumption); obtain ⟨ad358, A358_3, c358_3, e358, hx358_0, hx358_1, hx358_2, hx358_3, hl358_3, hi358_3⟩ := at_T42 HR0.out x7_2 p358 q358; obtain rfl : ad327 = ad358 := (by injection e358); replace hx358_0 := (HB.out.cell (World.block_lt_of_cell? w _ hx358_0)).trans hx358_0; replace hx358_1 := (HB.out.cell (World.block_lt_of_cell? w _ hx358_1)).trans hx358_1; replace hx358_2 := (HB.out.cell (World.block_lt_of_cell? w _ hx358_2)).trans hx358_2; replace hx358_3 := (HB.out.cell (World.block_lt_of_cell? w _ hx358_3)).trans hx358_3; have HR358_3 := Aside0.mk hi358_3; have HC358_3 := Aside0.mk hl358_3; clear hi358_3 hl358_3; replace p358 := eq_true p358; replace q358 := eq_true q358; have p359 : 0 ≤ (x7_2 : Int) := of_decide_eq_true (by first | (with_reducible assumption) | assumption); have q359 : x7_2 < (l0.length : Int) := of_decide_eq_true (by first | (with_reducible assumption) | assumption); obtain ⟨ad359, A359_3, c359_3, e359, hx359_0, hx359_1, hx359_2, hx359_3, hl359_3, hi359_3⟩ := at_T42 HR0.out x7_2 p359 q359; obtain rfl : ad327 = ad359 := (by injection e359); replace hx359_0 := (HB.out.cell (World.block_lt_of_cell? w _ hx359_0)).trans hx359_0; replace hx359_1 := (HB.out.cell (World.block_lt_of_cell? w _ hx359_1)).trans hx359_1; replace hx359_2 := (HB.out.cell (World.block_lt_of_cell? w _ hx359_2)).trans hx359_2; replace hx359_3 := (HB.out.cell (World.block_lt_of_cell? w _ hx359_3)).trans hx359_3; have HR359_3 := Aside0.mk hi359_3; have HC359_3 := Aside0.mk hl359_3; clear hi359_3 hl359_3; replace p359 := eq_true p359; replace q359 := eq_true q359; have ea_ := Option.some.inj (hx358_3.symm.trans hx359_3); injection ea_ with ea_ en_ ec_; subst ea_; subst ec_; clear en_; have p360 : 0 ≤ (x7_2 : Int) := of_decide_eq_true (by first | (with_reducible assumption) | assumption); have q360 : x7_2 < (l0.length : Int) := of_decide_eq_true (by first | (with_reducible assumption) | assumption); obtain ⟨ad360, A360_3, c360_3, e360, hx360_0, hx360_1, hx360_2, hx360_3, hl360_3, hi360_3⟩ := at_T42 HR0.out x7_2 p360 q360; obtain rfl : ad327 = ad360 := (by injection e360); replace hx360_0 := (HB.out.cell (World.block_lt_of_cell? w _ hx360_0)).trans hx360_0; replace hx360_1 := (HB.out.cell (World.block_lt_of_cell? w _ hx360_1)).trans hx360_1; replace hx360_2 := (HB.out.cell (World.block_lt_of_cell? w _ hx360_2)).trans hx360_2; replace hx360_3 := (HB.out.cell (World.block_lt_of_cell? w _ hx360_3)).trans hx360_3; have HR360_3 := Aside0.mk hi360_3; have HC360_3 := Aside0.mk hl360_3; clear hi360_3 hl360_3; replace p360 := eq_true p360; replace q360 := eq_true q360; have ea_ := Option.some.inj (hx358_3.symm.trans hx360_3); injection ea_ with ea_ en_ ec_; subst ea_; subst ec_; clear en_; obtain ⟨Ao63, co63, eo63⟩ := Kd.R_slice HO357.out; subst eo63) | (go_at_call 25; (with_reducible refine (mapsheetsref02_SameInts.calls k2 _ _ t353 _ _ ((rd_T42 l0 x7_2).f3) true _ ?side1 ?side2 ?side3 ?side4 A57.out).mono ?_); (case side1 => repeat (first | exact (Kd.R_reads' HO357.out).2.2 | (with_reducible refine Kd.C_alloc ?_ _) | (with_reducible refine Kd.C_drewN ?_ _) | (with_reducible refine Kd.C_drew ?_))); (case side2 => exact (Kd.R_reads' HO357.out).2.1); (case side3 => repeat (first | exact (Kd.C_below HR360_3.out HB.out) | (with_reducible refine Kd.C_alloc ?_ _) | (with_reducible refine Kd.C_drewN ?_ _) | (with_reducible refine Kd.C_drew ?_))); (case side4 => exact HC360_3.out); rintro e w' ⟨rfl, ⟨nd, rfl⟩⟩; (try first | exact ⟨rfl, _, World.drewN_drewN _ _ _⟩ | exact ⟨rfl, _, Eq.trans (World.drewN_drewN _ _ _) (congrArg (World.drewN _) (Nat.add_assoc _ _ _))⟩); have q64 : (t354 : Int) ≤ ((x5_2.length : Int) : Int) := of_decide_eq_true (by first | (with_reducible assumption) | assumption); obtain ⟨i064, hi064, _, hsz64, _⟩ := info_parts info5; have hcut64 := cut_from (P := Try.prog) 22 5 .i64 Try.underlying22 hi064 1 hsz64 Ao61 x5_2.length co61 t354 (of_decide_eq_true (by first | (with_reducible assumption) | assumption)) q64; have hr64 := Kd.Q_drop (k := (t354 : Int).toNat) HO_5.out (by omega); obtain ⟨A64, hA64⟩ : ∃ A1, A1 = (if co61 = (t354 : Int).toNat then Ao61 else (Ao61 : Option Addr).map (·.add ((t354 : Int).toNat * 1))) := ⟨_, rfl⟩; obtain ⟨c64, hc64⟩ : ∃ c1, c1 = co61 - (t354 : Int).toNat := ⟨_, rfl⟩; have hy64 : y362.length = x5_2.length - (t354 : Int).toNat := (by rw [Ny362.out, List.length_drop]); rw [← Ny362.out] at hr64; rw [← hy64, ← hA64, ← hc64] at hcut64; replace hr64 : Kd.Q (Kd.int .u8) 5 w62 w.heap.size (fun _ => True) (.slice A64 y362.length c64) y362 := (by rw [hA64, hc64, hy64]; exact hr64); have HE64 : Aside0 ((Value.slice A64 y362.length c64).ownBlock = (.slice Ao61 x5_2.length co61 : Value).ownBlock) := ⟨by rw [hA64]; split <;> (cases (Ao61 : Option Addr) <;> first | rfl | (simp [Value.ownBlock, Addr.add]; done) | (simp only [Value.ownBlock, Option.map_some, Addr.add]; split <;> rfl))⟩; clear hy64 hi064 hsz64 HO_5 hA64 hc64; have HO364 := Aside0.mk hr64; clear hr64; replace q64 := eq_true q64))
                                      repeat (go_quiet (first | (go_at_call 21; (with_reducible refine (wire_List.calls k2 _ _ x5_2 (((rd_T42 l0 x7_2).f3).length : Int) t353 t354 t355 _ ?side1 ?side2 A53.out).mono ?_); (case side1 => repeat (first | exact (Kd.Q_reads' HO_5.out).2.2 | (with_reducible refine Kd.C_alloc ?_ _) | (with_reducible refine Kd.C_drewN ?_ _) | (with_reducible refine Kd.C_drew ?_))); (case side2 => exact (Kd.Q_reads' HO_5.out).2.1); rintro e w62 ⟨v356, rfl, ho0, hb⟩; have n0_ := Aside0.mk (Kd.Q_below (by (with_reducible repeat (first | apply Kd.Q_alloc | apply Kd.Q_drewN | apply Kd.Q_drew)); exact HO_5.out) hb); have n1_ := Aside0.mk (Kd.R_lower ho0 (below_size (by repeat (first | (with_reducible first | exact HB.out | apply below_alloc | apply pw_below_drewN | apply below_drew1) | exact HB.out)))); have n2_ := Aside0.mk (below_step (by repeat (first | (with_reducible first | exact HB.out | apply below_alloc | apply pw_below_drewN | apply below_drew1) | exact HB.out)) hb); clear HO_5; clear HB; have HO_5 := n0_; have HO357 := n1_; have HB := n2_; clear n0_ n1_ n2_; (try clear hb); (try clear hb2); (try clear hk); (try clear hi); (try clear ho0); have p358 : 0 ≤ (x7_2 : Int) := of_decide_eq_true (by first | (with_reducible assumption) | assumption); have q358 : x7_2 < (l0.length : Int) := of_decide_eq_true (by first | (with_reducible assumption) | assumption); obtain ⟨ad358, A358_3, c358_3, e358, hx358_0, hx358_1, hx358_2, hx358_3, hl358_3, hi358_3⟩ := at_T42 HR0.out x7_2 p358 q358; obtain rfl : ad327 = ad358 := (by injection e358); replace hx358_0 := (HB.out.cell (World.block_lt_of_cell? w _ hx358_0)).trans hx358_0; replace hx358_1 := (HB.out.cell (World.block_lt_of_cell? w _ hx358_1)).trans hx358_1; replace hx358_2 := (HB.out.cell (World.block_lt_of_cell? w _ hx358_2)).trans hx358_2; replace hx358_3 := (HB.out.cell (World.block_lt_of_cell? w _ hx358_3)).trans hx358_3; have HR358_3 := Aside0.mk hi358_3; have HC358_3 := Aside0.mk hl358_3; clear hi358_3 hl358_3; replace p358 := eq_true p358; replace q358 := eq_true q358; have p359 : 0 ≤ (x7_2 : Int) := of_decide_eq_true (by first | (with_reducible assumption) | assumption); have q359 : x7_2 < (l0.length : Int) := of_decide_eq_true (by first | (with_reducible assumption) | assumption); obtain ⟨ad359, A359_3, c359_3, e359, hx359_0, hx359_1, hx359_2, hx359_3, hl359_3, hi359_3⟩ := at_T42 HR0.out x7_2 p359 q359; obtain rfl : ad327 = ad359 := (by injection e359); replace hx359_0 := (HB.out.cell (World.block_lt_of_cell? w _ hx359_0)).trans hx359_0; replace hx359_1 := (HB.out.cell (World.block_lt_of_cell? w _ hx359_1)).trans hx359_1; replace hx359_2 := (HB.out.cell (World.block_lt_of_cell? w _ hx359_2)).trans hx359_2; replace hx359_3 := (HB.out.cell (World.block_lt_of_cell? w _ hx359_3)).trans hx359_3; have HR359_3 := Aside0.mk hi359_3; have HC359_3 := Aside0.mk hl359_3; clear hi359_3 hl359_3; replace p359 := eq_true p359; replace q359 := eq_true q359; have ea_ := Option.some.inj (hx358_3.symm.trans hx359_3); injection ea_ with ea_ en_ ec_; subst ea_; subst ec_; clear en_; have p360 : 0 ≤ (x7_2 : Int) := of_decide_eq_true (by first | (with_reducible assumption) | assumption); have q360 : x7_2 < (l0.length : Int) := of_decide_eq_true (by first | (with_reducible assumption) | assumption); obtain ⟨ad360, A360_3, c360_3, e360, hx360_0, hx360_1, hx360_2, hx360_3, hl360_3, hi360_3⟩ := at_T42 HR0.out x7_2 p360 q360; obtain rfl : ad327 = ad360 := (by injection e360); replace hx360_0 := (HB.out.cell (World.block_lt_of_cell? w _ hx360_0)).trans hx360_0; replace hx360_1 := (HB.out.cell (World.block_lt_of_cell? w _ hx360_1)).trans hx360_1; replace hx360_2 := (HB.out.cell (World.block_lt_of_cell? w _ hx360_2)).trans hx360_2; replace hx360_3 := (HB.out.cell (World.block_lt_of_cell? w _ hx360_3)).trans hx360_3; have HR360_3 := Aside0.mk hi360_3; have HC360_3 := Aside0.mk hl360_3; clear hi360_3 hl360_3; replace p360 := eq_true p360; replace q360 := eq_true q360; have ea_ := Option.some.inj (hx358_3.symm.trans hx360_3); injection ea_ with ea_ en_ ec_; subst ea_; subst ec_; clear en_; obtain ⟨Ao63, co63, eo63⟩ := Kd.R_slice HO357.out; subst eo63) | (go_at_call 25; (with_reducible refine (mapsheetsref02_SameInts.calls k2 _ _ t353 _ _ ((rd_T42 l0 x7_2).f3) true _ ?side1 ?side2 ?side3 ?side4 A57.out).mono ?_); (case side1 => repeat (first | exact (Kd.R_reads' HO357.out).2.2 | (with_reducible refine Kd.C_alloc ?_ _) | (with_reducible refine Kd.C_drewN ?_ _) | (with_reducible refine Kd.C_drew ?_))); (case side2 => exact (Kd.R_reads' HO357.out).2.1); (case side3 => repeat (first | exact (Kd.C_below HR360_3.out HB.out) | (with_reducible refine Kd.C_alloc ?_ _) | (with_reducible refine Kd.C_drewN ?_ _) | (with_reducible refine Kd.C_drew ?_))); (case side4 => exact HC360_3.out); rintro e w' ⟨rfl, ⟨nd, rfl⟩⟩; (try first | exact ⟨rfl, _, World.drewN_drewN _ _ _⟩ | exact ⟨rfl, _, Eq.trans (World.drewN_drewN _ _ _) (congrArg (World.drewN _) (Nat.add_assoc _ _ _))⟩); have q64 : (t354 : Int) ≤ ((x5_2.length : Int) : Int) := of_decide_eq_true (by first | (with_reducible assumption) | assumption); obtain ⟨i064, hi064, _, hsz64, _⟩ := info_parts info5; have hcut64 := cut_from (P := Try.prog) 22 5 .i64 Try.underlying22 hi064 1 hsz64 Ao61 x5_2.length co61 t354 (of_decide_eq_true (by first | (with_reducible assumption) | assumption)) q64; have hr64 := Kd.Q_drop (k := (t354 : Int).toNat) HO_5.out (by omega); obtain ⟨A64, hA64⟩ : ∃ A1, A1 = (if co61 = (t354 : Int).toNat then Ao61 else (Ao61 : Option Addr).map (·.add ((t354 : Int).toNat * 1))) := ⟨_, rfl⟩; obtain ⟨c64, hc64⟩ : ∃ c1, c1 = co61 - (t354 : Int).toNat := ⟨_, rfl⟩; have hy64 : y362.length = x5_2.length - (t354 : Int).toNat := (by rw [Ny362.out, List.length_drop]); rw [← Ny362.out] at hr64; rw [← hy64, ← hA64, ← hc64] at hcut64; replace hr64 : Kd.Q (Kd.int .u8) 5 w62 w.heap.size (fun _ => True) (.slice A64 y362.length c64) y362 := (by rw [hA64, hc64, hy64]; exact hr64); have HE64 : Aside0 ((Value.slice A64 y362.length c64).ownBlock = (.slice Ao61 x5_2.length co61 : Value).ownBlock) := ⟨by rw [hA64]; split <;> (cases (Ao61 : Option Addr) <;> first | rfl | (simp [Value.ownBlock, Addr.add]; done) | (simp only [Value.ownBlock, Option.map_some, Addr.add]; split <;> rfl))⟩; clear hy64 hi064 hsz64 HO_5 hA64 hc64; have HO364 := Aside0.mk hr64; clear hr64; replace q64 := eq_true q64)); try go_wp2_with (first | (go_at_call 21; (with_reducible refine (wire_List.calls k2 _ _ x5_2 (((rd_T42 l0 x7_2).f3).length : Int) t353 t354 t355 _ ?side1 ?side2 A53.out).mono ?_); (case side1 => repeat (first | exact (Kd.Q_reads' HO_5.out).2.2 | (with_reducible refine Kd.C_alloc ?_ _) | (with_reducible refine Kd.C_drewN ?_ _) | (with_reducible refine Kd.C_drew ?_))); (case side2 => exact (Kd.Q_reads' HO_5.out).2.1); rintro e w62 ⟨v356, rfl, ho0, hb⟩; have n0_ := Aside0.mk (Kd.Q_below (by (with_reducible repeat (first | apply Kd.Q_alloc | apply Kd.Q_drewN | apply Kd.Q_drew)); exact HO_5.out) hb); have n1_ := Aside0.mk (Kd.R_lower ho0 (below_size (by repeat (first | (with_reducible first | exact HB.out | apply below_alloc | apply pw_below_drewN | apply below_drew1) | exact HB.out)))); have n2_ := Aside0.mk (below_step (by repeat (first | (with_reducible first | exact HB.out | apply below_alloc | apply pw_below_drewN | apply below_drew1) | exact HB.out)) hb); clear HO_5; clear HB; have HO_5 := n0_; have HO357 := n1_; have HB := n2_; clear n0_ n1_ n2_; (try clear hb); (try clear hb2); (try clear hk); (try clear hi); (try clear ho0); have p358 : 0 ≤ (x7_2 : Int) := of_decide_eq_true (by first | (with_reducible assumption) | assumption); have q358 : x7_2 < (l0.length : Int) := of_decide_eq_true (by first | (with_reducible assumption) | assumption); obtain ⟨ad358, A358_3, c358_3, e358, hx358_0, hx358_1, hx358_2, hx358_3, hl358_3, hi358_3⟩ := at_T42 HR0.out x7_2 p358 q358; obtain rfl : ad327 = ad358 := (by injection e358); replace hx358_0 := (HB.out.cell (World.block_lt_of_cell? w _ hx358_0)).trans hx358_0; replace hx358_1 := (HB.out.cell (World.block_lt_of_cell? w _ hx358_1)).trans hx358_1; replace hx358_2 := (HB.out.cell (World.block_lt_of_cell? w _ hx358_2)).trans hx358_2; replace hx358_3 := (HB.out.cell (World.block_lt_of_cell? w _ hx358_3)).trans hx358_3; have HR358_3 := Aside0.mk hi358_3; have HC358_3 := Aside0.mk hl358_3; clear hi358_3 hl358_3; replace p358 := eq_true p358; replace q358 := eq_true q358; have p359 : 0 ≤ (x7_2 : Int) := of_decide_eq_true (by first | (with_reducible assumption) | assumption); have q359 : x7_2 < (l0.length : Int) := of_decide_eq_true (by first | (with_reducible assumption) | assumption); obtain ⟨ad359, A359_3, c359_3, e359, hx359_0, hx359_1, hx359_2, hx359_3, hl359_3, hi359_3⟩ := at_T42 HR0.out x7_2 p359 q359; obtain rfl : ad327 = ad359 := (by injection e359); replace hx359_0 := (HB.out.cell (World.block_lt_of_cell? w _ hx359_0)).trans hx359_0; replace hx359_1 := (HB.out.cell (World.block_lt_of_cell? w _ hx359_1)).trans hx359_1; replace hx359_2 := (HB.out.cell (World.block_lt_of_cell? w _ hx359_2)).trans hx359_2; replace hx359_3 := (HB.out.cell (World.block_lt_of_cell? w _ hx359_3)).trans hx359_3; have HR359_3 := Aside0.mk hi359_3; have HC359_3 := Aside0.mk hl359_3; clear hi359_3 hl359_3; replace p359 := eq_true p359; replace q359 := eq_true q359; have ea_ := Option.some.inj (hx358_3.symm.trans hx359_3); injection ea_ with ea_ en_ ec_; subst ea_; subst ec_; clear en_; have p360 : 0 ≤ (x7_2 : Int) := of_decide_eq_true (by first | (with_reducible assumption) | assumption); have q360 : x7_2 < (l0.length : Int) := of_decide_eq_true (by first | (with_reducible assumption) | assumption); obtain ⟨ad360, A360_3, c360_3, e360, hx360_0, hx360_1, hx360_2, hx360_3, hl360_3, hi360_3⟩ := at_T42 HR0.out x7_2 p360 q360; obtain rfl : ad327 = ad360 := (by injection e360); replace hx360_0 := (HB.out.cell (World.block_lt_of_cell? w _ hx360_0)).trans hx360_0; replace hx360_1 := (HB.out.cell (World.block_lt_of_cell? w _ hx360_1)).trans hx360_1; replace hx360_2 := (HB.out.cell (World.block_lt_of_cell? w _ hx360_2)).trans hx360_2; replace hx360_3 := (HB.out.cell (World.block_lt_of_cell? w _ hx360_3)).trans hx360_3; have HR360_3 := Aside0.mk hi360_3; have HC360_3 := Aside0.mk hl360_3; clear hi360_3 hl360_3; replace p360 := eq_true p360; replace q360 := eq_true q360; have ea_ := Option.some.inj (hx358_3.symm.trans hx360_3); injection ea_ with ea_ en_ ec_; subst ea_; subst ec_; clear en_; obtain ⟨Ao63, co63, eo63⟩ := Kd.R_slice HO357.out; subst eo63) | (go_at_call 25; (with_reducible refine (mapsheetsref02_SameInts.calls k2 _ _ t353 _ _ ((rd_T42 l0 x7_2).f3) true _ ?side1 ?side2 ?side3 ?side4 A57.out).mono ?_); (case side1 => repeat (first | exact (Kd.R_reads' HO357.out).2.2 | (with_reducible refine Kd.C_alloc ?_ _) | (with_reducible refine Kd.C_drewN ?_ _) | (with_reducible refine Kd.C_drew ?_))); (case side2 => exact (Kd.R_reads' HO357.out).2.1); (case side3 => repeat (first | exact (Kd.C_below HR360_3.out HB.out) | (with_reducible refine Kd.C_alloc ?_ _) | (with_reducible refine Kd.C_drewN ?_ _) | (with_reducible refine Kd.C_drew ?_))); (case side4 => exact HC360_3.out); rintro e w' ⟨rfl, ⟨nd, rfl⟩⟩; (try first | exact ⟨rfl, _, World.drewN_drewN _ _ _⟩ | exact ⟨rfl, _, Eq.trans (World.drewN_drewN _ _ _) (congrArg (World.drewN _) (Nat.add_assoc _ _ _))⟩); have q64 : (t354 : Int) ≤ ((x5_2.length : Int) : Int) := of_decide_eq_true (by first | (with_reducible assumption) | assumption); obtain ⟨i064, hi064, _, hsz64, _⟩ := info_parts info5; have hcut64 := cut_from (P := Try.prog) 22 5 .i64 Try.underlying22 hi064 1 hsz64 Ao61 x5_2.length co61 t354 (of_decide_eq_true (by first | (with_reducible assumption) | assumption)) q64; have hr64 := Kd.Q_drop (k := (t354 : Int).toNat) HO_5.out (by omega); obtain ⟨A64, hA64⟩ : ∃ A1, A1 = (if co61 = (t354 : Int).toNat then Ao61 else (Ao61 : Option Addr).map (·.add ((t354 : Int).toNat * 1))) := ⟨_, rfl⟩; obtain ⟨c64, hc64⟩ : ∃ c1, c1 = co61 - (t354 : Int).toNat := ⟨_, rfl⟩; have hy64 : y362.length = x5_2.length - (t354 : Int).toNat := (by rw [Ny362.out, List.length_drop]); rw [← Ny362.out] at hr64; rw [← hy64, ← hA64, ← hc64] at hcut64; replace hr64 : Kd.Q (Kd.int .u8) 5 w62 w.heap.size (fun _ => True) (.slice A64 y362.length c64) y362 := (by rw [hA64, hc64, hy64]; exact hr64); have HE64 : Aside0 ((Value.slice A64 y362.length c64).ownBlock = (.slice Ao61 x5_2.length co61 : Value).ownBlock) := ⟨by rw [hA64]; split <;> (cases (Ao61 : Option Addr) <;> first | rfl | (simp [Value.ownBlock, Addr.add]; done) | (simp only [Value.ownBlock, Option.map_some, Addr.add]; split <;> rfl))⟩; clear hy64 hi064 hsz64 HO_5 hA64 hc64; have HO364 := Aside0.mk hr64; clear hr64; replace q64 := eq_true q64)))
                                      go_roundg k2
                                      case measure => have := HK1.out; have := HK2.out; omega
                                      case rel => exact ⟨(y362), (wrap64 (x7_2 + 1)), (by first | rfl | (simp; done) | (simp [*]; done)), H', ⟨by have := HK1.out; have := HK2.out; omega⟩, ⟨by (with_reducible repeat (first | apply Kd.Q_alloc | apply Kd.Q_drewN | apply Kd.Q_drew)); exact HO364.out⟩, ⟨by repeat (first | (with_reducible first | exact HB.out | apply below_alloc | apply pw_below_drewN | apply below_drew1) | exact HB.out)⟩⟩
                                    · rw [if_neg c60] at H
                                      exact absurd H (by simp)
                                  · rw [if_neg c59] at H
                                    exact absurd H (by simp)
                                · replace c58 := Bool.eq_false_iff.mpr c58
                                  subst c58
                                  have H1 : (none) = some r := by rw [if_neg (show ¬ (false = true) by decide)] at H; exact H
                                  clear H
                                  have H := H1
                                  clear H1
                                  exact absurd H (by simp)
                          · rw [if_neg c54] at H
                            exact absurd H (by simp)
                    · rw [if_neg c27] at H
                      exact absurd H (by simp)
                  · rw [if_neg c26] at H
                    have c26b0 : decide (x7_2 < (l0.length : Int)) = false := decide_eq_false c26
                    clear c26
                    replace H := Option.bind_eq_some_iff.mp H
                    obtain ⟨t325, A650, H⟩ := H
                    replace H : (if t325 = true then ((mapsheetslaw02_awake.f k2).bind fun t326 => (some t326)) else (none)) = some r := H
                    have A65 := Aside0.mk A650
                    clear A650
                    by_cases c66 : t325 = true
                    · subst c66
                      have H1 : ((mapsheetslaw02_awake.f k2).bind fun t326 => (some t326)) = some r := by rw [if_pos rfl] at H; exact H
                      clear H
                      have H := H1
                      clear H1
                      replace H := Option.bind_eq_some_iff.mp H
                      obtain ⟨t326, A670, H⟩ := H
                      replace H : (some t326) = some r := H
                      have A67 := Aside0.mk A670
                      clear A670
                      obtain rfl := Option.some.inj H
                      obtain ⟨Ao68, co68, eo68, _⟩ := Kd.Q_slice HO_5.out
                      subst eo68
                      go_wp2_with (first | (go_at_call 13; (with_reducible refine (mapsheetsref02_Same.calls k2 _ _ x5_2 _ _ l1 true _ ?side1 ?side2 ?side3 ?side4 A65.out).mono ?_); (case side1 => repeat (first | exact (Kd.Q_reads' HO_5.out).2.2 | (with_reducible refine Kd.C_alloc ?_ _) | (with_reducible refine Kd.C_drewN ?_ _) | (with_reducible refine Kd.C_drew ?_))); (case side2 => exact (Kd.Q_reads' HO_5.out).2.1); (case side3 => repeat (first | exact (Kd.C_below HR1.out HB.out) | (with_reducible refine Kd.C_alloc ?_ _) | (with_reducible refine Kd.C_drewN ?_ _) | (with_reducible refine Kd.C_drew ?_))); (case side4 => exact HC1.out); rintro e w' ⟨rfl, ⟨nd, rfl⟩⟩; (try first | exact ⟨rfl, _, World.drewN_drewN _ _ _⟩ | exact ⟨rfl, _, Eq.trans (World.drewN_drewN _ _ _) (congrArg (World.drewN _) (Nat.add_assoc _ _ _))⟩)) | (go_at_call 16; (with_reducible refine (mapsheetslaw02_awake.calls k2  t326 _ A67.out).mono ?_); rintro e w69 ⟨rfl, hb⟩; have n0_ := Aside0.mk (Kd.Q_below (by (with_reducible repeat (first | apply Kd.Q_alloc | apply Kd.Q_drewN | apply Kd.Q_drew)); exact HO_5.out) hb); have n1_ := Aside0.mk (below_step (by repeat (first | (with_reducible first | exact HB.out | apply below_alloc | apply pw_below_drewN | apply below_drew1) | exact HB.out)) hb); clear HO_5; clear HB; have HO_5 := n0_; have HB := n1_; clear n0_ n1_; (try clear hb); (try clear hb2); (try clear hk); (try clear hi)))
                      repeat (go_quiet (first | (go_at_call 13; (with_reducible refine (mapsheetsref02_Same.calls k2 _ _ x5_2 _ _ l1 true _ ?side1 ?side2 ?side3 ?side4 A65.out).mono ?_); (case side1 => repeat (first | exact (Kd.Q_reads' HO_5.out).2.2 | (with_reducible refine Kd.C_alloc ?_ _) | (with_reducible refine Kd.C_drewN ?_ _) | (with_reducible refine Kd.C_drew ?_))); (case side2 => exact (Kd.Q_reads' HO_5.out).2.1); (case side3 => repeat (first | exact (Kd.C_below HR1.out HB.out) | (with_reducible refine Kd.C_alloc ?_ _) | (with_reducible refine Kd.C_drewN ?_ _) | (with_reducible refine Kd.C_drew ?_))); (case side4 => exact HC1.out); rintro e w' ⟨rfl, ⟨nd, rfl⟩⟩; (try first | exact ⟨rfl, _, World.drewN_drewN _ _ _⟩ | exact ⟨rfl, _, Eq.trans (World.drewN_drewN _ _ _) (congrArg (World.drewN _) (Nat.add_assoc _ _ _))⟩)) | (go_at_call 16; (with_reducible refine (mapsheetslaw02_awake.calls k2  t326 _ A67.out).mono ?_); rintro e w69 ⟨rfl, hb⟩; have n0_ := Aside0.mk (Kd.Q_below (by (with_reducible repeat (first | apply Kd.Q_alloc | apply Kd.Q_drewN | apply Kd.Q_drew)); exact HO_5.out) hb); have n1_ := Aside0.mk (below_step (by repeat (first | (with_reducible first | exact HB.out | apply below_alloc | apply pw_below_drewN | apply below_drew1) | exact HB.out)) hb); clear HO_5; clear HB; have HO_5 := n0_; have HB := n1_; clear n0_ n1_; (try clear hb); (try clear hb2); (try clear hk); (try clear hi))); try go_wp2_with (first | (go_at_call 13; (with_reducible refine (mapsheetsref02_Same.calls k2 _ _ x5_2 _ _ l1 true _ ?side1 ?side2 ?side3 ?side4 A65.out).mono ?_); (case side1 => repeat (first | exact (Kd.Q_reads' HO_5.out).2.2 | (with_reducible refine Kd.C_alloc ?_ _) | (with_reducible refine Kd.C_drewN ?_ _) | (with_reducible refine Kd.C_drew ?_))); (case side2 => exact (Kd.Q_reads' HO_5.out).2.1); (case side3 => repeat (first | exact (Kd.C_below HR1.out HB.out) | (with_reducible refine Kd.C_alloc ?_ _) | (with_reducible refine Kd.C_drewN ?_ _) | (with_reducible refine Kd.C_drew ?_))); (case side4 => exact HC1.out); rintro e w' ⟨rfl, ⟨nd, rfl⟩⟩; (try first | exact ⟨rfl, _, World.drewN_drewN _ _ _⟩ | exact ⟨rfl, _, Eq.trans (World.drewN_drewN _ _ _) (congrArg (World.drewN _) (Nat.add_assoc _ _ _))⟩)) | (go_at_call 16; (with_reducible refine (mapsheetslaw02_awake.calls k2  t326 _ A67.out).mono ?_); rintro e w69 ⟨rfl, hb⟩; have n0_ := Aside0.mk (Kd.Q_below (by (with_reducible repeat (first | apply Kd.Q_alloc | apply Kd.Q_drewN | apply Kd.Q_drew)); exact HO_5.out) hb); have n1_ := Aside0.mk (below_step (by repeat (first | (with_reducible first | exact HB.out | apply below_alloc | apply pw_below_drewN | apply below_drew1) | exact HB.out)) hb); clear HO_5; clear HB; have HO_5 := n0_; have HB := n1_; clear n0_ n1_; (try clear hb); (try clear hb2); (try clear hk); (try clear hi))))
                      go_ret
                      exact ⟨by first | rfl | (simp [errW_none, errW_some] <;> rfl) | (simp [*, errW_none, errW_some] <;> rfl), by repeat (first | (with_reducible first | exact HB.out | apply below_alloc | apply pw_below_drewN | apply below_drew1) | exact HB.out)⟩
                    · replace c66 := Bool.eq_false_iff.mpr c66
                      subst c66
                      have H1 : (none) = some r := by rw [if_neg (show ¬ (false = true) by decide)] at H; exact H
                      clear H
                      have H := H1
                      clear H1
                      exact absurd H (by simp)
            · rw [if_neg c20] at H
              exact absurd H (by simp)
          · rw [if_neg c19] at H
            exact absurd H (by simp)

end Go.Proofs.Ytkmgmiofmegjmaa.PA
