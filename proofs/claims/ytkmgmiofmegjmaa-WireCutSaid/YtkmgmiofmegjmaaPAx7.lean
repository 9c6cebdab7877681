-- Written by wip/pp.py of this repository, on the kit's print program. Not trusted: Lean checks it.
import Derived.Test.YtkmgmiofmegjmaaPAx0
import Derived.Test.YtkmgmiofmegjmaaPAx1
import Derived.Test.YtkmgmiofmegjmaaPAx3
import Derived.Test.YtkmgmiofmegjmaaPAx4
namespace Go.Proofs.Ytkmgmiofmegjmaa.PA
open Go.RowKit Go.Proofs.YtkmgmiofmegjmaaW.PrintWords Go.Proofs.YtkmgmiofmegjmaaW.PrintLast Go.Proofs.YtkmgmiofmegjmaaW.PrintMore
attribute [local go_sem] max2_int min2_int max_two min_two max_three min_three max_four min_four   -- for this text's walks alone
set_option linter.unusedVariables false
set_option linter.unusedSimpArgs false

/-! ### mapsheetslaw02_WireCut: function 8 -/
mutual
def mapsheetslaw02_WireCut.j0 : Nat → Int → ByteArray → List Int → Int → Bool → Option (Bool)
  | 0, _, _, _, _, _ => none
  | k + 1, x0, x1, x2, x3, x29 => if x29 = true then ((mapsheetslaw02_awake.f k).bind fun t365 => (some t365)) else ((wire_PutInt.f ([] : List Int) x0).bind fun t366 => ((wire_PutText.f ([] : List Int) x1).bind fun t369 => ((wire_PutList.f k ([] : List Int) x2).bind fun t372 => (if (t366.length : Int) = 0 then (mapsheetslaw02_WireCut.j1 k x1 x2 x3 t366 t369 t372 true) else (if (t369.length : Int) = 0 then (mapsheetslaw02_WireCut.j1 k x1 x2 x3 t366 t369 t372 true) else (mapsheetslaw02_WireCut.j1 k x1 x2 x3 t366 t369 t372 ((t372.length : Int) == 0)))))))
def mapsheetslaw02_WireCut.j1 : Nat → ByteArray → List Int → Int → List Int → List Int → List Int → Bool → Option (Bool)
  | 0, _, _, _, _, _, _, _ => none
  | k + 1, x1, x2, x3, x9, x10, x11, x49 => if x49 = true then (none) else (if (x9.length : Int) = 0 then (none) else (if 0 ≤ (Int.tmod (wrap64 (x3)) (x9.length : Int)) then (if (Int.tmod (wrap64 (x3)) (x9.length : Int)) ≤ (x9.length : Int) then ((wire_Int.f k (x9.take ((Int.tmod (wrap64 (x3)) (x9.length : Int)) : Int).toNat)).bind fun bt379 => (if (x10.length : Int) = 0 then (none) else (if 0 ≤ (Int.tmod (wrap64 (x3)) (x10.length : Int)) then (if (Int.tmod (wrap64 (x3)) (x10.length : Int)) ≤ (x10.length : Int) then ((wire_Text.f k (x10.take ((Int.tmod (wrap64 (x3)) (x10.length : Int)) : Int).toNat) (x1.size : Int)).bind fun bt386 => (if (x11.length : Int) = 0 then (none) else (if 0 ≤ (Int.tmod (wrap64 (x3)) (x11.length : Int)) then (if (Int.tmod (wrap64 (x3)) (x11.length : Int)) ≤ (x11.length : Int) then ((wire_List.f k (x11.take ((Int.tmod (wrap64 (x3)) (x11.length : Int)) : Int).toNat) (x2.length : Int)).bind fun bt393 => (if (wrap64 ((wrap64 (bt379.2.1 + bt386.2.1)) + bt393.2.1)) = 0 then (if bt379.2.2 = 5 then (if bt386.2.2 = 5 then (if bt393.2.2 = 5 then ((mapsheetslaw02_awake.f k).bind fun t398 => (some t398)) else (none)) else (none)) else (none)) else (none))) else (none)) else (none)))) else (none)) else (none)))) else (none)) else (none)))
end
def mapsheetslaw02_WireCut.f (k : Nat) (a0 : Int) (a1 : ByteArray) (l2 : List Int) (a3 : Int) : Option (Bool) := if (a1.size : Int) > 1000 then (mapsheetslaw02_WireCut.j0 k a0 a1 l2 a3 true) else (mapsheetslaw02_WireCut.j0 k a0 a1 l2 a3 (decide ((l2.length : Int) > 200)))
theorem mapsheetslaw02_WireCut.mono_l : ∀ k, (∀ y0 y1 y2 y3 y4, LeO (mapsheetslaw02_WireCut.j0 k y0 y1 y2 y3 y4) (mapsheetslaw02_WireCut.j0 (k + 1) y0 y1 y2 y3 y4)) ∧ (∀ y0 y1 y2 y3 y4 y5 y6, LeO (mapsheetslaw02_WireCut.j1 k y0 y1 y2 y3 y4 y5 y6) (mapsheetslaw02_WireCut.j1 (k + 1) y0 y1 y2 y3 y4 y5 y6))
  | 0 => ⟨fun _ _ _ _ _ r h => by simp [mapsheetslaw02_WireCut.j0] at h, fun _ _ _ _ _ _ _ r h => by simp [mapsheetslaw02_WireCut.j1] at h⟩
  | k + 1 => by
    obtain ⟨ih0, ih1⟩ := mapsheetslaw02_WireCut.mono_l k
    refine ⟨?_, ?_⟩
    · intro y0 y1 y2 y3 y4
      unfold mapsheetslaw02_WireCut.j0
      repeat' first
      | (with_reducible exact ih0 _ _ _ _ _)
      | (with_reducible exact ih1 _ _ _ _ _ _ _)
      | (with_reducible exact mapsheetslaw02_awake.mono _)
      | (with_reducible exact wire_Int.mono _ _)
      | (with_reducible exact wire_List.mono _ _ _)
      | (with_reducible exact wire_PutList.mono _ _ _)
      | (with_reducible exact wire_Text.mono _ _ _)
      | (with_reducible exact LeO.refl _)
      | (with_reducible exact LeO.none _)
      | (with_reducible refine LeO.ite ?_ ?_)
      | (with_reducible refine LeO.bind ?_ (fun _ => ?_))
      | exact ih0 _ _ _ _ _
      | exact ih1 _ _ _ _ _ _ _
      | exact mapsheetslaw02_awake.mono _
      | exact wire_Int.mono _ _
      | exact wire_List.mono _ _ _
      | exact wire_PutList.mono _ _ _
      | exact wire_Text.mono _ _ _
      | exact LeO.none _
      | refine LeO.ite ?_ ?_
      | refine LeO.bind ?_ (fun _ => ?_)
    · intro y0 y1 y2 y3 y4 y5 y6
      unfold mapsheetslaw02_WireCut.j1
      repeat' first
      | (with_reducible exact ih0 _ _ _ _ _)
      | (with_reducible exact ih1 _ _ _ _ _ _ _)
      | (with_reducible exact mapsheetslaw02_awake.mono _)
      | (with_reducible exact wire_Int.mono _ _)
      | (with_reducible exact wire_List.mono _ _ _)
      | (with_reducible exact wire_PutList.mono _ _ _)
      | (with_reducible exact wire_Text.mono _ _ _)
      | (with_reducible exact LeO.refl _)
      | (with_reducible exact LeO.none _)
      | (with_reducible refine LeO.ite ?_ ?_)
      | (with_reducible refine LeO.bind ?_ (fun _ => ?_))
      | exact ih0 _ _ _ _ _
      | exact ih1 _ _ _ _ _ _ _
      | exact mapsheetslaw02_awake.mono _
      | exact wire_Int.mono _ _
      | exact wire_List.mono _ _ _
      | exact wire_PutList.mono _ _ _
      | exact wire_Text.mono _ _ _
      | exact LeO.none _
      | refine LeO.ite ?_ ?_
      | refine LeO.bind ?_ (fun _ => ?_)
theorem mapsheetslaw02_WireCut.mono : ∀ a0 a1 a2 a3 k, LeO (mapsheetslaw02_WireCut.f k a0 a1 a2 a3) (mapsheetslaw02_WireCut.f (k + 1) a0 a1 a2 a3) := by
  intro a0 a1 a2 a3 k
  obtain ⟨ih0, ih1⟩ := mapsheetslaw02_WireCut.mono_l k
  unfold mapsheetslaw02_WireCut.f
  repeat' first
      | (with_reducible exact ih0 _ _ _ _ _)
      | (with_reducible exact ih1 _ _ _ _ _ _ _)
      | (with_reducible exact mapsheetslaw02_awake.mono _)
      | (with_reducible exact wire_Int.mono _ _)
      | (with_reducible exact wire_List.mono _ _ _)
      | (with_reducible exact wire_PutList.mono _ _ _)
      | (with_reducible exact wire_Text.mono _ _ _)
      | (with_reducible exact LeO.refl _)
      | (with_reducible exact LeO.none _)
      | (with_reducible refine LeO.ite ?_ ?_)
      | (with_reducible refine LeO.bind ?_ (fun _ => ?_))
      | exact ih0 _ _ _ _ _
      | exact ih1 _ _ _ _ _ _ _
      | exact mapsheetslaw02_awake.mono _
      | exact wire_Int.mono _ _
      | exact wire_List.mono _ _ _
      | exact wire_PutList.mono _ _ _
      | exact wire_Text.mono _ _ _
      | exact LeO.none _
      | refine LeO.ite ?_ ?_
      | refine LeO.bind ?_ (fun _ => ?_)
set_option maxHeartbeats 8000000 in
set_option maxRecDepth 100000 in
theorem mapsheetslaw02_WireCut.calls (k : Nat) (a0 : Int) (a1 : ByteArray) (A2 : Option Addr) (c2 : Nat) (l2 : List Int) (a3 : Int) (r : Bool) (w : World) (hr2 : Kd.C (Kd.int .i64) w A2 l2.length l2) (hc2 : l2.length ≤ c2) (h : mapsheetslaw02_WireCut.f k a0 a1 l2 a3 = some r) :
    Calls Try.prog 8 #[.int .i64 a0, .string a1, .slice A2 l2.length c2, .int .u8 a3] w fun e w' => e = .returned (.bool r) ∧ Below w.heap.size w w' := by
  have HR2 := Aside0.mk hr2
  have HC2 := Aside0.mk hc2
  clear hr2 hc2
  have HB := Aside0.mk (Below.refl w.heap.size w)
  have H : (if (a1.size : Int) > 1000 then (mapsheetslaw02_WireCut.j0 k a0 a1 l2 a3 true) else (mapsheetslaw02_WireCut.j0 k a0 a1 l2 a3 (decide ((l2.length : Int) > 200)))) = some r := h
  clear h
  have HC5 := Aside0.mk H
  clear H
  go_enter Try.func8, Try.ntmps8
  go_upto_region 1 with (fail)
  go_cut [29] (fun v29 wc => ∃ (kq : Nat) (x29_4 : Bool), v29 = .bool x29_4 ∧ Aside0 (mapsheetslaw02_WireCut.j0 kq a0 a1 l2 a3 x29_4 = some r) ∧ Aside0 (kq ≤ k) ∧ Aside0 (Below w.heap.size w wc))
  case first =>
    have H := HC5.out
    clear HC5
    by_cases c6 : (a1.size : Int) > 1000
    · rw [if_pos c6] at H
      have c6b0 : decide (1000 < (a1.size : Int)) = true := decide_eq_true c6
      have c6b1 : decide (1000 < a1.size) = true := decide_eq_true (by omega)
      clear c6
      (first | rw [c6b0] | (simp only [i64_w, i32_w]; rw [c6b0]) | skip)
      have H' := Aside0.mk H
      clear H
      go_wp2
      go_meet
      case rel => exact ⟨_, (true), (by first | rfl | (simp; done) | (simp [*]; done)), H', ⟨by first | omega | exact Nat.le_refl _⟩, ⟨by repeat (first | (with_reducible first | exact HB.out | apply below_alloc | apply pw_below_drewN | apply below_drew1) | exact HB.out)⟩⟩
    · rw [if_neg c6] at H
      have c6b0 : decide (1000 < (a1.size : Int)) = false := decide_eq_false c6
      have c6b1 : decide (1000 < a1.size) = false := decide_eq_false (by omega)
      clear c6
      (first | rw [c6b0] | (simp only [i64_w, i32_w]; rw [c6b0]) | skip)
      have H' := Aside0.mk H
      clear H
      go_wp2
      go_meet
      case rel => exact ⟨_, (decide ((l2.length : Int) > 200)), (by first | rfl | (simp; done) | (simp [*]; done)), H', ⟨by first | omega | exact Nat.le_refl _⟩, ⟨by repeat (first | (with_reducible first | exact HB.out | apply below_alloc | apply pw_below_drewN | apply below_drew1) | exact HB.out)⟩⟩
  case rest =>
    clear HC5
    try clear c2
    try clear p2
    try clear c6
    try clear c6b0
    try clear c6b1
    obtain ⟨kq, x29_4, rfl, HA, HJ4, HB⟩ := hcut
    cases kq with
    | zero => exact absurd HA.out (by simp [mapsheetslaw02_WireCut.j0])
    | succ kj4 =>
      have H := HA.out
      clear HA
      simp only [mapsheetslaw02_WireCut.j0] at H
      by_cases c7 : x29_4 = true
      · subst c7
        have H1 : ((mapsheetslaw02_awake.f kj4).bind fun t365 => (some t365)) = some r := by rw [if_pos rfl] at H; exact H
        clear H
        have H := H1
        clear H1
        replace H := Option.bind_eq_some_iff.mp H
        obtain ⟨t365, A80, H⟩ := H
        replace H : (some t365) = some r := H
        have A8 := Aside0.mk A80
        clear A80
        obtain rfl := Option.some.inj H
        go_wp2_with (first | ((with_reducible refine gate_callee (f := 16) rfl ?_); refine goesL_ (some 30) rfl rfl Try.func16 (by kernel_rfl) rfl #[] rfl (by (try simp only [List.map_toArray, List.map_cons, List.map_nil]); first | done | rfl | (simp only [List.length_drop, List.length_take]; rfl)) ?_; (with_reducible refine (mapsheetslaw02_awake.calls kj4  t365 _ A8.out).mono ?_); rintro e w9 ⟨rfl, hb⟩; refine ⟨_, rfl, ?_⟩; have n0_ := Aside0.mk (below_step (by repeat (first | (with_reducible first | exact HB.out | apply below_alloc | apply pw_below_drewN | apply below_drew1) | exact HB.out)) hb); clear HB; have HB := n0_; clear n0_; (try clear hb); (try clear hb2); (try clear hk); (try clear hi)))
        go_ret
        exact ⟨by first | rfl | (simp [errW_none, errW_some] <;> rfl) | (simp [*, errW_none, errW_some] <;> rfl), by repeat (first | (with_reducible first | exact HB.out | apply below_alloc | apply pw_below_drewN | apply below_drew1) | exact HB.out)⟩
      · replace c7 := Bool.eq_false_iff.mpr c7
        subst c7
        have H1 : ((wire_PutInt.f ([] : List Int) a0).bind fun t366 => ((wire_PutText.f ([] : List Int) a1).bind fun t369 => ((wire_PutList.f kj4 ([] : List Int) l2).bind fun t372 => (if (t366.length : Int) = 0 then (mapsheetslaw02_WireCut.j1 kj4 a1 l2 a3 t366 t369 t372 true) else (if (t369.length : Int) = 0 then (mapsheetslaw02_WireCut.j1 kj4 a1 l2 a3 t366 t369 t372 true) else (mapsheetslaw02_WireCut.j1 kj4 a1 l2 a3 t366 t369 t372 ((t372.length : Int) == 0))))))) = some r := by rw [if_neg (show ¬ (false = true) by decide)] at H; exact H
        clear H
        have H := H1
        clear H1
        replace H := Option.bind_eq_some_iff.mp H
        obtain ⟨t366, A100, H⟩ := H
        replace H : ((wire_PutText.f ([] : List Int) a1).bind fun t369 => ((wire_PutList.f kj4 ([] : List Int) l2).bind fun t372 => (if (t366.length : Int) = 0 then (mapsheetslaw02_WireCut.j1 kj4 a1 l2 a3 t366 t369 t372 true) else (if (t369.length : Int) = 0 then (mapsheetslaw02_WireCut.j1 kj4 a1 l2 a3 t366 t369 t372 true) else (mapsheetslaw02_WireCut.j1 kj4 a1 l2 a3 t366 t369 t372 ((t372.length : Int) == 0)))))) = some r := H
        have A10 := Aside0.mk A100
        clear A100
        replace H := Option.bind_eq_some_iff.mp H
        obtain ⟨t369, A110, H⟩ := H
        replace H : ((wire_PutList.f kj4 ([] : List Int) l2).bind fun t372 => (if (t366.length : Int) = 0 then (mapsheetslaw02_WireCut.j1 kj4 a1 l2 a3 t366 t369 t372 true) else (if (t369.length : Int) = 0 then (mapsheetslaw02_WireCut.j1 kj4 a1 l2 a3 t366 t369 t372 true) else (mapsheetslaw02_WireCut.j1 kj4 a1 l2 a3 t366 t369 t372 ((t372.length : Int) == 0))))) = some r := H
        have A11 := Aside0.mk A110
        clear A110
        replace H := Option.bind_eq_some_iff.mp H
        obtain ⟨t372, A120, H⟩ := H
        replace H : (if (t366.length : Int) = 0 then (mapsheetslaw02_WireCut.j1 kj4 a1 l2 a3 t366 t369 t372 true) else (if (t369.length : Int) = 0 then (mapsheetslaw02_WireCut.j1 kj4 a1 l2 a3 t366 t369 t372 true) else (mapsheetslaw02_WireCut.j1 kj4 a1 l2 a3 t366 t369 t372 ((t372.length : Int) == 0)))) = some r := H
        have A12 := Aside0.mk A120
        clear A120
        have HC13 := Aside0.mk H
        clear H
        go_upto_region 4 with (first | ((with_reducible refine gate_callee (f := 14) rfl ?_); refine goesL_ (some 32) rfl rfl Try.func14 (by kernel_rfl) rfl #[.slice none 0 0, .int .i64 a0] rfl (by (try simp only [List.map_toArray, List.map_cons, List.map_nil]); first | done | rfl | (simp only [List.length_drop, List.length_take]; rfl)) ?_; (refine (wire_PutInt.calls _ _ ([] : List Int) a0 t366 _ ?side1 ?side2 A10.out).mono ?_); (case side1 => exact Kd.C_nil _ _); (case side2 => exact Nat.le_refl _); rintro e w14 ⟨v367, rfl, ho0, hb⟩; refine ⟨_, rfl, ?_⟩; have n0_ := Aside0.mk (Kd.R_lower ho0 (below_size (by repeat (first | (with_reducible first | exact HB.out | apply below_alloc | apply pw_below_drewN | apply below_drew1) | exact HB.out)))); have n1_ := Aside0.mk (below_step (by repeat (first | (with_reducible first | exact HB.out | apply below_alloc | apply pw_below_drewN | apply below_drew1) | exact HB.out)) hb); clear HB; have HO368 := n0_; have HB := n1_; clear n0_ n1_; (try clear hb); (try clear hb2); (try clear hk); (try clear hi); (try clear ho0)) | ((with_reducible refine gate_callee (f := 19) rfl ?_); refine goesL_ (some 34) rfl rfl Try.func19 (by kernel_rfl) rfl #[.slice none 0 0, .string a1] rfl (by (try simp only [List.map_toArray, List.map_cons, List.map_nil]); first | done | rfl | (simp only [List.length_drop, List.length_take]; rfl)) ?_; (refine (wire_PutText.calls _ _ ([] : List Int) a1 t369 _ ?side1 ?side2 A11.out).mono ?_); (case side1 => exact Kd.C_nil _ _); (case side2 => exact Nat.le_refl _); rintro e w15 ⟨v370, rfl, ho0, hb⟩; refine ⟨_, rfl, ?_⟩; have n0_ := Aside0.mk (Kd.R_elder' (by (with_reducible repeat (first | apply Kd.R_alloc | apply Kd.R_drewN | apply Kd.R_drew)); exact HO368.out) (Kd.R_base ho0) hb); have n1_ := Aside0.mk (Kd.R_lower (Kd.R_new' ho0 (Kd.R_lt (by (with_reducible repeat (first | apply Kd.R_alloc | apply Kd.R_drewN | apply Kd.R_drew)); exact HO368.out))) (below_size (by repeat (first | (with_reducible first | exact HB.out | apply below_alloc | apply pw_below_drewN | apply below_drew1) | exact HB.out)))); have n2_ := Aside0.mk (below_step (by repeat (first | (with_reducible first | exact HB.out | apply below_alloc | apply pw_below_drewN | apply below_drew1) | exact HB.out)) hb); clear HO368; clear HB; have HO368 := n0_; have HO371 := n1_; have HB := n2_; clear n0_ n1_ n2_; (try clear hb); (try clear hb2); (try clear hk); (try clear hi); (try clear ho0)) | ((with_reducible refine gate_callee (f := 23) rfl ?_); refine goesL_ (some 36) rfl rfl Try.func23 (by kernel_rfl) rfl #[.slice none 0 0, .slice A2 l2.length c2] rfl (by (try simp only [List.map_toArray, List.map_cons, List.map_nil]); first | done | rfl | (simp only [List.length_drop, List.length_take]; rfl)) ?_; (refine (wire_PutList.calls kj4 _ _ ([] : List Int) _ _ l2 t372 _ ?side1 ?side2 ?side3 ?side4 A12.out).mono ?_); (case side1 => exact Kd.C_nil _ _); (case side2 => exact Nat.le_refl _); (case side3 => repeat (first | exact (Kd.C_below HR2.out HB.out) | (with_reducible refine Kd.C_alloc ?_ _) | (with_reducible refine Kd.C_drewN ?_ _) | (with_reducible refine Kd.C_drew ?_))); (case side4 => exact HC2.out); rintro e w16 ⟨v373, rfl, ho0, hb⟩; refine ⟨_, rfl, ?_⟩; have n0_ := Aside0.mk (Kd.R_elder' (by (with_reducible repeat (first | apply Kd.R_alloc | apply Kd.R_drewN | apply Kd.R_drew)); exact HO368.out) (Kd.R_base ho0) hb); have n1_ := Aside0.mk (Kd.R_elder' (by (with_reducible repeat (first | apply Kd.R_alloc | apply Kd.R_drewN | apply Kd.R_drew)); exact HO371.out) (Kd.R_base ho0) hb); have n2_ := Aside0.mk (Kd.R_lower (Kd.R_new' (Kd.R_new' ho0 (Kd.R_lt (by (with_reducible repeat (first | apply Kd.R_alloc | apply Kd.R_drewN | apply Kd.R_drew)); exact HO368.out))) (Kd.R_lt (by (with_reducible repeat (first | apply Kd.R_alloc | apply Kd.R_drewN | apply Kd.R_drew)); exact HO371.out))) (below_size (by repeat (first | (with_reducible first | exact HB.out | apply below_alloc | apply pw_below_drewN | apply below_drew1) | exact HB.out)))); have n3_ := Aside0.mk (below_step (by repeat (first | (with_reducible first | exact HB.out | apply below_alloc | apply pw_below_drewN | apply below_drew1) | exact HB.out)) hb); clear HO368; clear HO371; clear HB; have HO368 := n0_; have HO371 := n1_; have HO374 := n2_; have HB := n3_; clear n0_ n1_ n2_ n3_; (try clear hb); (try clear hb2); (try clear hk); (try clear hi); (try clear ho0)))
        (try simp only [Act.put, List.setIfInBounds_toArray, List.set_cons_zero, List.set_cons_succ])
        go_cut [49] (fun v49 wc => ∃ (kq : Nat) (x49_12 : Bool), v49 = .bool x49_12 ∧ Aside0 (mapsheetslaw02_WireCut.j1 kq a1 l2 a3 t366 t369 t372 x49_12 = some r) ∧ Aside0 (kq ≤ kj4) ∧ Aside0 (Kd.R (Kd.int .u8) 5 wc w.heap.size (fun k_ => some k_ ≠ (v370 : Value).ownBlock ∧ some k_ ≠ (v373 : Value).ownBlock) v367 t366) ∧ Aside0 (Kd.R (Kd.int .u8) 5 wc w.heap.size (fun k_ => some k_ ≠ (v367 : Value).ownBlock ∧ some k_ ≠ (v373 : Value).ownBlock) v370 t369) ∧ Aside0 (Kd.R (Kd.int .u8) 5 wc w.heap.size (fun k_ => some k_ ≠ (v367 : Value).ownBlock ∧ some k_ ≠ (v370 : Value).ownBlock) v373 t372) ∧ Aside0 (Below w.heap.size w wc))
        case first =>
          have H := HC13.out
          clear HC13
          by_cases c17 : (t366.length : Int) = 0
          · rw [if_pos c17] at H
            have c17b0 : ((t366.length : Int) == 0) = true := beq_iff_eq.mpr c17
            have c17b1 : ((t366.length : Int) != 0) = false := bne_eq_false_iff_eq.mpr c17
            clear c17
            (first | rw [c17b0] | (simp only [i64_w, i32_w]; rw [c17b0]) | skip)
            have H' := Aside0.mk H
            clear H
            obtain ⟨Ao18, co18, eo18⟩ := Kd.R_slice HO368.out
            subst eo18
            go_wp2
            go_meet
            case rel => exact ⟨_, (true), (by first | rfl | (simp; done) | (simp [*]; done)), H', ⟨by have := HJ4.out; first | omega | exact Nat.le_refl _⟩, ⟨by (with_reducible repeat (first | apply Kd.R_alloc | apply Kd.R_drewN | apply Kd.R_drew)); exact Kd.R_mono HO368.out (fun _ hk => ⟨hk.1.2, hk.2⟩)⟩, ⟨by (with_reducible repeat (first | apply Kd.R_alloc | apply Kd.R_drewN | apply Kd.R_drew)); exact Kd.R_mono HO371.out (fun _ hk => ⟨hk.1.2, hk.2⟩)⟩, ⟨by (with_reducible repeat (first | apply Kd.R_alloc | apply Kd.R_drewN | apply Kd.R_drew)); exact Kd.R_mono HO374.out (fun _ hk => ⟨hk.1.2, hk.2⟩)⟩, ⟨by repeat (first | (with_reducible first | exact HB.out | apply below_alloc | apply pw_below_drewN | apply below_drew1) | exact HB.out)⟩⟩
          · rw [if_neg c17] at H
            have c17b0 : ((t366.length : Int) == 0) = false := beq_eq_false_iff_ne.mpr c17
            have c17b1 : ((t366.length : Int) != 0) = true := bne_iff_ne.mpr c17
            have c17b2 : ¬ (t366 = []) := fun h_ => c17 (by rw [h_]; rfl)
            (first | rw [c17b0] | (simp only [i64_w, i32_w]; rw [c17b0]) | skip)
            by_cases c19 : (t369.length : Int) = 0
            · rw [if_pos c19] at H
              have c19b0 : ((t369.length : Int) == 0) = true := beq_iff_eq.mpr c19
              have c19b1 : ((t369.length : Int) != 0) = false := bne_eq_false_iff_eq.mpr c19
              clear c19
              have H' := Aside0.mk H
              clear H
              obtain ⟨Ao20, co20, eo20⟩ := Kd.R_slice HO368.out
              subst eo20
              obtain ⟨Ao21, co21, eo21⟩ := Kd.R_slice HO371.out
              subst eo21
              go_wp2
              go_meet
              case rel => exact ⟨_, (true), (by first | rfl | (simp; done) | (simp [*]; done)), H', ⟨by have := HJ4.out; first | omega | exact Nat.le_refl _⟩, ⟨by (with_reducible repeat (first | apply Kd.R_alloc | apply Kd.R_drewN | apply Kd.R_drew)); exact Kd.R_mono HO368.out (fun _ hk => ⟨hk.1.2, hk.2⟩)⟩, ⟨by (with_reducible repeat (first | apply Kd.R_alloc | apply Kd.R_drewN | apply Kd.R_drew)); exact Kd.R_mono HO371.out (fun _ hk => ⟨hk.1.2, hk.2⟩)⟩, ⟨by (with_reducible repeat (first | apply Kd.R_alloc | apply Kd.R_drewN | apply Kd.R_drew)); exact Kd.R_mono HO374.out (fun _ hk => ⟨hk.1.2, hk.2⟩)⟩, ⟨by repeat (first | (with_reducible first | exact HB.out | apply below_alloc | apply pw_below_drewN | apply below_drew1) | exact HB.out)⟩⟩
            · rw [if_neg c19] at H
              have c19b0 : ((t369.length : Int) == 0) = false := beq_eq_false_iff_ne.mpr c19
              have c19b1 : ((t369.length : Int) != 0) = true := bne_iff_ne.mpr c19
              have c19b2 : ¬ (t369 = []) := fun h_ => c19 (by rw [h_]; rfl)
              have H' := Aside0.mk H
              clear H
              obtain ⟨Ao22, co22, eo22⟩ := Kd.R_slice HO368.out
              subst eo22
              obtain ⟨Ao23, co23, eo23⟩ := Kd.R_slice HO371.out
              subst eo23
              obtain ⟨Ao24, co24, eo24⟩ := Kd.R_slice HO374.out
              subst eo24
              go_wp2
              go_meet
              case rel => exact ⟨_, (((t372.length : Int) == 0)), (by first | rfl | (simp; done) | (simp [*]; done)), H', ⟨by have := HJ4.out; first | omega | exact Nat.le_refl _⟩, ⟨by (with_reducible repeat (first | apply Kd.R_alloc | apply Kd.R_drewN | apply Kd.R_drew)); exact Kd.R_mono HO368.out (fun _ hk => ⟨hk.1.2, hk.2⟩)⟩, ⟨by (with_reducible repeat (first | apply Kd.R_alloc | apply Kd.R_drewN | apply Kd.R_drew)); exact Kd.R_mono HO371.out (fun _ hk => ⟨hk.1.2, hk.2⟩)⟩, ⟨by (with_reducible repeat (first | apply Kd.R_alloc | apply Kd.R_drewN | apply Kd.R_drew)); exact Kd.R_mono HO374.out (fun _ hk => ⟨hk.1.2, hk.2⟩)⟩, ⟨by repeat (first | (with_reducible first | exact HB.out | apply below_alloc | apply pw_below_drewN | apply below_drew1) | exact HB.out)⟩⟩
        case rest =>
          clear HC13
          try clear c1
          try clear c2
          try clear p2
          try clear c6
          try clear c6b0
          try clear c6b1
          try clear c7
          try clear c8
          try clear c14
          try clear c16
          try clear c17
          try clear c17b0
          try clear c17b1
          try clear c17b2
          try clear c19
          try clear c19b0
          try clear c19b1
          try clear c19b2
          try clear c23
          try clear p2
          obtain ⟨kq, x49_12, rfl, HA, HJ12, HO_9, HO_10, HO_11, HB⟩ := hcut
          cases kq with
          | zero => exact absurd HA.out (by simp [mapsheetslaw02_WireCut.j1])
          | succ kj12 =>
            have H := HA.out
            clear HA
            simp only [mapsheetslaw02_WireCut.j1] at H
            by_cases c25 : x49_12 = true
            · subst c25
              have H1 : (none) = some r := by rw [if_pos rfl] at H; exact H
              clear H
              have H := H1
              clear H1
              exact absurd H (by simp)
            · replace c25 := Bool.eq_false_iff.mpr c25
              subst c25
              have H1 : (if (t366.length : Int) = 0 then (none) else (if 0 ≤ (Int.tmod (wrap64 (a3)) (t366.length : Int)) then (if (Int.tmod (wrap64 (a3)) (t366.length : Int)) ≤ (t366.length : Int) then ((wire_Int.f kj12 (t366.take ((Int.tmod (wrap64 (a3)) (t366.length : Int)) : Int).toNat)).bind fun bt379 => (if (t369.length : Int) = 0 then (none) else (if 0 ≤ (Int.tmod (wrap64 (a3)) (t369.length : Int)) then (if (Int.tmod (wrap64 (a3)) (t369.length : Int)) ≤ (t369.length : Int) then ((wire_Text.f kj12 (t369.take ((Int.tmod (wrap64 (a3)) (t369.length : Int)) : Int).toNat) (a1.size : Int)).bind fun bt386 => (if (t372.length : Int) = 0 then (none) else (if 0 ≤ (Int.tmod (wrap64 (a3)) (t372.length : Int)) then (if (Int.tmod (wrap64 (a3)) (t372.length : Int)) ≤ (t372.length : Int) then ((wire_List.f kj12 (t372.take ((Int.tmod (wrap64 (a3)) (t372.length : Int)) : Int).toNat) (l2.length : Int)).bind fun bt393 => (if (wrap64 ((wrap64 (bt379.2.1 + bt386.2.1)) + bt393.2.1)) = 0 then (if bt379.2.2 = 5 then (if bt386.2.2 = 5 then (if bt393.2.2 = 5 then ((mapsheetslaw02_awake.f kj12).bind fun t398 => (some t398)) else (none)) else (none)) else (none)) else (none))) else (none)) else (none)))) else (none)) else (none)))) else (none)) else (none))) = some r := by rw [if_neg (show ¬ (false = true) by decide)] at H; exact H
              clear H
              have H := H1
              clear H1
              by_cases c26 : (t366.length : Int) = 0
              · rw [if_pos c26] at H
                exact absurd H (by simp)
              · rw [if_neg c26] at H
                have c26b0 : ((t366.length : Int) == 0) = false := beq_eq_false_iff_ne.mpr c26
                have c26b1 : ((t366.length : Int) != 0) = true := bne_iff_ne.mpr c26
                have c26b2 : ¬ (t366 = []) := fun h_ => c26 (by rw [h_]; rfl)
                obtain ⟨ji27, hji27⟩ : ∃ j_ : Int, (Int.tmod (wrap64 (a3)) (t366.length : Int)) = j_ := ⟨_, rfl⟩
                replace H : (if 0 ≤ (ji27) then (if (ji27) ≤ (t366.length : Int) then ((wire_Int.f kj12 (t366.take ((ji27) : Int).toNat)).bind fun bt379 => (if (t369.length : Int) = 0 then (none) else (if 0 ≤ (Int.tmod (wrap64 (a3)) (t369.length : Int)) then (if (Int.tmod (wrap64 (a3)) (t369.length : Int)) ≤ (t369.length : Int) then ((wire_Text.f kj12 (t369.take ((Int.tmod (wrap64 (a3)) (t369.length : Int)) : Int).toNat) (a1.size : Int)).bind fun bt386 => (if (t372.length : Int) = 0 then (none) else (if 0 ≤ (Int.tmod (wrap64 (a3)) (t372.length : Int)) then (if (Int.tmod (wrap64 (a3)) (t372.length : Int)) ≤ (t372.length : Int) then ((wire_List.f kj12 (t372.take ((Int.tmod (wrap64 (a3)) (t372.length : Int)) : Int).toNat) (l2.length : Int)).bind fun bt393 => (if (wrap64 ((wrap64 (bt379.2.1 + bt386.2.1)) + bt393.2.1)) = 0 then (if bt379.2.2 = 5 then (if bt386.2.2 = 5 then (if bt393.2.2 = 5 then ((mapsheetslaw02_awake.f kj12).bind fun t398 => (some t398)) else (none)) else (none)) else (none)) else (none))) else (none)) else (none)))) else (none)) else (none)))) else (none)) else (none)) = some r := by first | (rw [hji27] at H; exact H) | (simp only [hji27] at H ⊢; exact H)
                by_cases c28 : 0 ≤ (ji27)
                · rw [if_pos c28] at H
                  have c28b0 := eq_true c28
                  have c28b1 : decide (0 ≤ (ji27)) = true := decide_eq_true c28
                  clear c28
                  by_cases c29 : (ji27) ≤ (t366.length : Int)
                  · rw [if_pos c29] at H
                    have c29b0 := eq_true c29
                    have c29b1 : decide ((ji27) ≤ (t366.length : Int)) = true := decide_eq_true c29
                    clear c29
                    obtain ⟨y375, hy375⟩ : ∃ y_ : List Int, y_ = (t366.take ((ji27) : Int).toNat) := ⟨_, rfl⟩
                    replace H : ((wire_Int.f kj12 y375).bind fun bt379 => (if (t369.length : Int) = 0 then (none) else (if 0 ≤ (Int.tmod (wrap64 (a3)) (t369.length : Int)) then (if (Int.tmod (wrap64 (a3)) (t369.length : Int)) ≤ (t369.length : Int) then ((wire_Text.f kj12 (t369.take ((Int.tmod (wrap64 (a3)) (t369.length : Int)) : Int).toNat) (a1.size : Int)).bind fun bt386 => (if (t372.length : Int) = 0 then (none) else (if 0 ≤ (Int.tmod (wrap64 (a3)) (t372.length : Int)) then (if (Int.tmod (wrap64 (a3)) (t372.length : Int)) ≤ (t372.length : Int) then ((wire_List.f kj12 (t372.take ((Int.tmod (wrap64 (a3)) (t372.length : Int)) : Int).toNat) (l2.length : Int)).bind fun bt393 => (if (wrap64 ((wrap64 (bt379.2.1 + bt386.2.1)) + bt393.2.1)) = 0 then (if bt379.2.2 = 5 then (if bt386.2.2 = 5 then (if bt393.2.2 = 5 then ((mapsheetslaw02_awake.f kj12).bind fun t398 => (some t398)) else (none)) else (none)) else (none)) else (none))) else (none)) else (none)))) else (none)) else (none)))) = some r := by first | (rw [hy375]; with_reducible exact H) | (have H2_ := (Option.bind_some _ _).symm.trans H; rw [hy375]; with_reducible exact H2_) | (have H2_ := (Option.bind_some _ _).symm.trans H; with_reducible exact H2_) | with_reducible exact H | (rw [hy375]; exact H) | exact H
                    have Ny375 := Aside0.mk hy375
                    clear hy375
                    replace H := Option.bind_eq_some_iff.mp H
                    obtain ⟨⟨t379, t380, t381⟩, A300, H⟩ := H
                    replace H : (if (t369.length : Int) = 0 then (none) else (if 0 ≤ (Int.tmod (wrap64 (a3)) (t369.length : Int)) then (if (Int.tmod (wrap64 (a3)) (t369.length : Int)) ≤ (t369.length : Int) then ((wire_Text.f kj12 (t369.take ((Int.tmod (wrap64 (a3)) (t369.length : Int)) : Int).toNat) (a1.size : Int)).bind fun bt386 => (if (t372.length : Int) = 0 then (none) else (if 0 ≤ (Int.tmod (wrap64 (a3)) (t372.length : Int)) then (if (Int.tmod (wrap64 (a3)) (t372.length : Int)) ≤ (t372.length : Int) then ((wire_List.f kj12 (t372.take ((Int.tmod (wrap64 (a3)) (t372.length : Int)) : Int).toNat) (l2.length : Int)).bind fun bt393 => (if (wrap64 ((wrap64 (t380 + bt386.2.1)) + bt393.2.1)) = 0 then (if t381 = 5 then (if bt386.2.2 = 5 then (if bt393.2.2 = 5 then ((mapsheetslaw02_awake.f kj12).bind fun t398 => (some t398)) else (none)) else (none)) else (none)) else (none))) else (none)) else (none)))) else (none)) else (none))) = some r := H
                    have A30 := Aside0.mk A300
                    clear A300
                    by_cases c31 : (t369.length : Int) = 0
                    · rw [if_pos c31] at H
                      exact absurd H (by simp)
                    · rw [if_neg c31] at H
                      have c31b0 : ((t369.length : Int) == 0) = false := beq_eq_false_iff_ne.mpr c31
                      have c31b1 : ((t369.length : Int) != 0) = true := bne_iff_ne.mpr c31
                      have c31b2 : ¬ (t369 = []) := fun h_ => c31 (by rw [h_]; rfl)
                      obtain ⟨ji32, hji32⟩ : ∃ j_ : Int, (Int.tmod (wrap64 (a3)) (t369.length : Int)) = j_ := ⟨_, rfl⟩
                      replace H : (if 0 ≤ (ji32) then (if (ji32) ≤ (t369.length : Int) then ((wire_Text.f kj12 (t369.take ((ji32) : Int).toNat) (a1.size : Int)).bind fun bt386 => (if (t372.length : Int) = 0 then (none) else (if 0 ≤ (Int.tmod (wrap64 (a3)) (t372.length : Int)) then (if (Int.tmod (wrap64 (a3)) (t372.length : Int)) ≤ (t372.length : Int) then ((wire_List.f kj12 (t372.take ((Int.tmod (wrap64 (a3)) (t372.length : Int)) : Int).toNat) (l2.length : Int)).bind fun bt393 => (if (wrap64 ((wrap64 (t380 + bt386.2.1)) + bt393.2.1)) = 0 then (if t381 = 5 then (if bt386.2.2 = 5 then (if bt393.2.2 = 5 then ((mapsheetslaw02_awake.f kj12).bind fun t398 => (some t398)) else (none)) else (none)) else (none)) else (none))) else (none)) else (none)))) else (none)) else (none)) = some r := by first | (rw [hji32] at H; exact H) | (simp only [hji32] at H ⊢; exact H)
                      (try rw [hji32] at A30)
                      by_cases c33 : 0 ≤ (ji32)
                      · rw [if_pos c33] at H
                        have c33b0 := eq_true c33
                        have c33b1 : decide (0 ≤ (ji32)) = true := decide_eq_true c33
                        clear c33
                        by_cases c34 : (ji32) ≤ (t369.length : Int)
                        · rw [if_pos c34] at H
                          have c34b0 := eq_true c34
                          have c34b1 : decide ((ji32) ≤ (t369.length : Int)) = true := decide_eq_true c34
                          clear c34
                          obtain ⟨y382, hy382⟩ : ∃ y_ : List Int, y_ = (t369.take ((ji32) : Int).toNat) := ⟨_, rfl⟩
                          replace H : ((wire_Text.f kj12 y382 (a1.size : Int)).bind fun bt386 => (if (t372.length : Int) = 0 then (none) else (if 0 ≤ (Int.tmod (wrap64 (a3)) (t372.length : Int)) then (if (Int.tmod (wrap64 (a3)) (t372.length : Int)) ≤ (t372.length : Int) then ((wire_List.f kj12 (t372.take ((Int.tmod (wrap64 (a3)) (t372.length : Int)) : Int).toNat) (l2.length : Int)).bind fun bt393 => (if (wrap64 ((wrap64 (t380 + bt386.2.1)) + bt393.2.1)) = 0 then (if t381 = 5 then (if bt386.2.2 = 5 then (if bt393.2.2 = 5 then ((mapsheetslaw02_awake.f kj12).bind fun t398 => (some t398)) else (none)) else (none)) else (none)) else (none))) else (none)) else (none)))) = some r := by first | (rw [hy382]; with_reducible exact H) | (have H2_ := (Option.bind_some _ _).symm.trans H; rw [hy382]; with_reducible exact H2_) | (have H2_ := (Option.bind_some _ _).symm.trans H; with_reducible exact H2_) | with_reducible exact H | (rw [hy382]; exact H) | exact H
                          have Ny382 := Aside0.mk hy382
                          clear hy382
                          replace H := Option.bind_eq_some_iff.mp H
                          obtain ⟨⟨t386, t387, t388⟩, A350, H⟩ := H
                          replace H : (if (t372.length : Int) = 0 then (none) else (if 0 ≤ (Int.tmod (wrap64 (a3)) (t372.length : Int)) then (if (Int.tmod (wrap64 (a3)) (t372.length : Int)) ≤ (t372.length : Int) then ((wire_List.f kj12 (t372.take ((Int.tmod (wrap64 (a3)) (t372.length : Int)) : Int).toNat) (l2.length : Int)).bind fun bt393 => (if (wrap64 ((wrap64 (t380 + t387)) + bt393.2.1)) = 0 then (if t381 = 5 then (if t388 = 5 then (if bt393.2.2 = 5 then ((mapsheetslaw02_awake.f kj12).bind fun t398 => (some t398)) else (none)) else (none)) else (none)) else (none))) else (none)) else (none))) = some r := H
                          have A35 := Aside0.mk A350
                          clear A350
                          by_cases c36 : (t372.length : Int) = 0
                          · rw [if_pos c36] at H
                            exact absurd H (by simp)
                          · rw [if_neg c36] at H
                            have c36b0 : ((t372.length : Int) == 0) = false := beq_eq_false_iff_ne.mpr c36
                            have c36b1 : ((t372.length : Int) != 0) = true := bne_iff_ne.mpr c36
                            have c36b2 : ¬ (t372 = []) := fun h_ => c36 (by rw [h_]; rfl)
                            obtain ⟨ji37, hji37⟩ : ∃ j_ : Int, (Int.tmod (wrap64 (a3)) (t372.length : Int)) = j_ := ⟨_, rfl⟩
                            replace H : (if 0 ≤ (ji37) then (if (ji37) ≤ (t372.length : Int) then ((wire_List.f kj12 (t372.take ((ji37) : Int).toNat) (l2.length : Int)).bind fun bt393 => (if (wrap64 ((wrap64 (t380 + t387)) + bt393.2.1)) = 0 then (if t381 = 5 then (if t388 = 5 then (if bt393.2.2 = 5 then ((mapsheetslaw02_awake.f kj12).bind fun t398 => (some t398)) else (none)) else (none)) else (none)) else (none))) else (none)) else (none)) = some r := by first | (rw [hji37] at H; exact H) | (simp only [hji37] at H ⊢; exact H)
                            (try rw [hji37] at A30)
                            (try rw [hji37] at A35)
                            by_cases c38 : 0 ≤ (ji37)
                            · rw [if_pos c38] at H
                              have c38b0 := eq_true c38
                              have c38b1 : decide (0 ≤ (ji37)) = true := decide_eq_true c38
                              clear c38
                              by_cases c39 : (ji37) ≤ (t372.length : Int)
                              · rw [if_pos c39] at H
                                have c39b0 := eq_true c39
                                have c39b1 : decide ((ji37) ≤ (t372.length : Int)) = true := decide_eq_true c39
                                clear c39
                                obtain ⟨y389, hy389⟩ : ∃ y_ : List Int, y_ = (t372.take ((ji37) : Int).toNat) := ⟨_, rfl⟩
                                replace H : ((wire_List.f kj12 y389 (l2.length : Int)).bind fun bt393 => (if (wrap64 ((wrap64 (t380 + t387)) + bt393.2.1)) = 0 then (if t381 = 5 then (if t388 = 5 then (if bt393.2.2 = 5 then ((mapsheetslaw02_awake.f kj12).bind fun t398 => (some t398)) else (none)) else (none)) else (none)) else (none))) = some r := by first | (rw [hy389]; with_reducible exact H) | (have H2_ := (Option.bind_some _ _).symm.trans H; rw [hy389]; with_reducible exact H2_) | (have H2_ := (Option.bind_some _ _).symm.trans H; with_reducible exact H2_) | with_reducible exact H | (rw [hy389]; exact H) | exact H
                                have Ny389 := Aside0.mk hy389
                                clear hy389
                                replace H := Option.bind_eq_some_iff.mp H
                                obtain ⟨⟨t393, t394, t395⟩, A400, H⟩ := H
                                replace H : (if (wrap64 ((wrap64 (t380 + t387)) + t394)) = 0 then (if t381 = 5 then (if t388 = 5 then (if t395 = 5 then ((mapsheetslaw02_awake.f kj12).bind fun t398 => (some t398)) else (none)) else (none)) else (none)) else (none)) = some r := H
                                have A40 := Aside0.mk A400
                                clear A400
                                by_cases c41 : (wrap64 ((wrap64 (t380 + t387)) + t394)) = 0
                                · rw [if_pos c41] at H
                                  have c41b0 : ((wrap64 ((wrap64 (t380 + t387)) + t394)) == 0) = true := beq_iff_eq.mpr c41
                                  have c41b1 : ((wrap64 ((wrap64 (t380 + t387)) + t394)) != 0) = false := bne_eq_false_iff_eq.mpr c41
                                  clear c41
                                  by_cases c42 : t381 = 5
                                  · rw [if_pos c42] at H
                                    have c42b0 : (t381 == 5) = true := beq_iff_eq.mpr c42
                                    have c42b1 : (t381 != 5) = false := bne_eq_false_iff_eq.mpr c42
                                    clear c42
                                    by_cases c43 : t388 = 5
                                    · rw [if_pos c43] at H
                                      have c43b0 : (t388 == 5) = true := beq_iff_eq.mpr c43
                                      have c43b1 : (t388 != 5) = false := bne_eq_false_iff_eq.mpr c43
                                      clear c43
                                      by_cases c44 : t395 = 5
                                      · rw [if_pos c44] at H
                                        have c44b0 : (t395 == 5) = true := beq_iff_eq.mpr c44
                                        have c44b1 : (t395 != 5) = false := bne_eq_false_iff_eq.mpr c44
                                        clear c44
                                        replace H := Option.bind_eq_some_iff.mp H
                                        obtain ⟨t398, A450, H⟩ := H
                                        replace H : (some t398) = some r := H
                                        have A45 := Aside0.mk A450
                                        clear A450
                                        obtain rfl := Option.some.inj H
                                        obtain ⟨Ao46, co46, eo46⟩ := Kd.R_slice HO_9.out
                                        subst eo46
                                        have q47 : ((ji27) : Int) ≤ ((t366.length : Int) : Int) := of_decide_eq_true (by first | (with_reducible assumption) | assumption)
                                        obtain ⟨i047, hi047, _, hsz47, _⟩ := info_parts info5
                                        have hroom47 : t366.length ≤ co46 := (Kd.R_reads' HO_9.out).2.1
                                        have hC47 : Kd.C (Kd.int .u8) _ Ao46 t366.length t366 := (Kd.R_reads' HO_9.out).2.2
                                        have hcut47 := cut_to (P := Try.prog) 22 5 .i64 Try.underlying22 hi047 Ao46 t366.length co46 (ji27) (of_decide_eq_true (by first | (with_reducible assumption) | assumption)) q47 hroom47
                                        have hr47 := Kd.C_take (m := ((ji27) : Int).toNat) hC47 (by omega)
                                        have hy47 : y375.length = ((ji27) : Int).toNat := (by rw [Ny375.out, List.length_take]; omega)
                                        rw [← Ny375.out] at hr47
                                        rw [← hy47] at hcut47
                                        have HR378 := Aside0.mk hr47
                                        have HC378 := Aside0.mk (show y375.length ≤ co46 from by omega)
                                        clear hr47 hC47 hroom47 hi047 hsz47
                                        have KY47 := Aside0.mk hy47
                                        clear hy47
                                        have KL47 := Aside0.mk (show ((ji27) : Int).toNat ≤ t366.length from by omega)
                                        replace q47 := eq_true q47
                                        go_wp2_with (first | ((with_reducible refine gate_callee (f := 11) rfl ?_); refine goesL_ (some 59) rfl rfl Try.func11 (by kernel_rfl) rfl #[.slice Ao46 y375.length co46] rfl (by (try simp only [List.map_toArray, List.map_cons, List.map_nil]); first | done | rfl | (simp only [List.length_drop, List.length_take]; rfl)) ?_; (with_reducible refine (wire_Int.calls kj12 _ _ y375 t379 t380 t381 _ ?side1 ?side2 A30.out).mono ?_); (case side1 => repeat (first | exact (by repeat (first | (with_reducible exact HR378.out) | (with_reducible refine Kd.C_alloc ?_ _) | (with_reducible refine Kd.C_drewN ?_ _) | (with_reducible refine Kd.C_drew ?_) | exact HR378.out)) | (with_reducible refine Kd.C_alloc ?_ _) | (with_reducible refine Kd.C_drewN ?_ _) | (with_reducible refine Kd.C_drew ?_))); (case side2 => exact HC378.out); rintro e w' ⟨rfl, ⟨nd, rfl⟩⟩; refine ⟨_, rfl, ?_⟩; obtain ⟨Ao48, co48, eo48⟩ := Kd.R_slice HO_10.out; subst eo48; have q49 : ((ji32) : Int) ≤ ((t369.length : Int) : Int) := of_decide_eq_true (by first | (with_reducible assumption) | assumption); obtain ⟨i049, hi049, _, hsz49, _⟩ := info_parts info5; have hroom49 : t369.length ≤ co48 := (Kd.R_reads' HO_10.out).2.1; have hC49 : Kd.C (Kd.int .u8) _ Ao48 t369.length t369 := (Kd.R_reads' HO_10.out).2.2; have hcut49 := cut_to (P := Try.prog) 22 5 .i64 Try.underlying22 hi049 Ao48 t369.length co48 (ji32) (of_decide_eq_true (by first | (with_reducible assumption) | assumption)) q49 hroom49; have hr49 := Kd.C_take (m := ((ji32) : Int).toNat) hC49 (by omega); have hy49 : y382.length = ((ji32) : Int).toNat := (by rw [Ny382.out, List.length_take]; omega); rw [← Ny382.out] at hr49; rw [← hy49] at hcut49; have HR385 := Aside0.mk hr49; have HC385 := Aside0.mk (show y382.length ≤ co48 from by omega); clear hr49 hC49 hroom49 hi049 hsz49; have KY49 := Aside0.mk hy49; clear hy49; have KL49 := Aside0.mk (show ((ji32) : Int).toNat ≤ t369.length from by omega); replace q49 := eq_true q49) | ((with_reducible refine gate_callee (f := 17) rfl ?_); refine goesL_ (some 72) rfl rfl Try.func17 (by kernel_rfl) rfl #[.slice Ao48 y382.length co48, .int .i64 (a1.size : Int)] rfl (by (try simp only [List.map_toArray, List.map_cons, List.map_nil]); first | done | rfl | (simp only [List.length_drop, List.length_take]; rfl)) ?_; (with_reducible refine (wire_Text.calls kj12 _ _ y382 (a1.size : Int) t386 t387 t388 _ ?side1 ?side2 A35.out).mono ?_); (case side1 => repeat (first | exact (by repeat (first | (with_reducible exact HR385.out) | (with_reducible refine Kd.C_alloc ?_ _) | (with_reducible refine Kd.C_drewN ?_ _) | (with_reducible refine Kd.C_drew ?_) | exact HR385.out)) | (with_reducible refine Kd.C_alloc ?_ _) | (with_reducible refine Kd.C_drewN ?_ _) | (with_reducible refine Kd.C_drew ?_))); (case side2 => exact HC385.out); rintro e w50 ⟨rfl, hb⟩; refine ⟨_, rfl, ?_⟩; have n0_ := Aside0.mk (Kd.R_below (by (with_reducible repeat (first | apply Kd.R_alloc | apply Kd.R_drewN | apply Kd.R_drew)); exact HO_9.out) hb); have n1_ := Aside0.mk (Kd.R_below (by (with_reducible repeat (first | apply Kd.R_alloc | apply Kd.R_drewN | apply Kd.R_drew)); exact HO_10.out) hb); have n2_ := Aside0.mk (Kd.R_below (by (with_reducible repeat (first | apply Kd.R_alloc | apply Kd.R_drewN | apply Kd.R_drew)); exact HO_11.out) hb); have n3_ := Aside0.mk (Kd.C_below (by repeat (first | (with_reducible exact HR378.out) | (with_reducible refine Kd.C_alloc ?_ _) | (with_reducible refine Kd.C_drewN ?_ _) | (with_reducible refine Kd.C_drew ?_) | exact HR378.out)) hb); have n4_ := Aside0.mk (Kd.C_below (by repeat (first | (with_reducible exact HR385.out) | (with_reducible refine Kd.C_alloc ?_ _) | (with_reducible refine Kd.C_drewN ?_ _) | (with_reducible refine Kd.C_drew ?_) | exact HR385.out)) hb); have n5_ := Aside0.mk (below_step (by repeat (first | (with_reducible first | exact HB.out | apply below_alloc | apply pw_below_drewN | apply below_drew1) | exact HB.out)) hb); clear HO_9; clear HO_10; clear HO_11; clear HR378; clear HR385; clear HB; have HO_9 := n0_; have HO_10 := n1_; have HO_11 := n2_; have HR378 := n3_; have HR385 := n4_; have HB := n5_; clear n0_ n1_ n2_ n3_ n4_ n5_; (try clear hb); (try clear hb2); (try clear hk); (try clear hi); obtain ⟨Ao51, co51, eo51⟩ := Kd.R_slice HO_11.out; subst eo51; have q52 : ((ji37) : Int) ≤ ((t372.length : Int) : Int) := of_decide_eq_true (by first | (with_reducible assumption) | assumption); obtain ⟨i052, hi052, _, hsz52, _⟩ := info_parts info5; have hroom52 : t372.length ≤ co51 := (Kd.R_reads' HO_11.out).2.1; have hC52 : Kd.C (Kd.int .u8) _ Ao51 t372.length t372 := (Kd.R_reads' HO_11.out).2.2; have hcut52 := cut_to (P := Try.prog) 22 5 .i64 Try.underlying22 hi052 Ao51 t372.length co51 (ji37) (of_decide_eq_true (by first | (with_reducible assumption) | assumption)) q52 hroom52; have hr52 := Kd.C_take (m := ((ji37) : Int).toNat) hC52 (by omega); have hy52 : y389.length = ((ji37) : Int).toNat := (by rw [Ny389.out, List.length_take]; omega); rw [← Ny389.out] at hr52; rw [← hy52] at hcut52; have HR392 := Aside0.mk hr52; have HC392 := Aside0.mk (show y389.length ≤ co51 from by omega); clear hr52 hC52 hroom52 hi052 hsz52; have KY52 := Aside0.mk hy52; clear hy52; have KL52 := Aside0.mk (show ((ji37) : Int).toNat ≤ t372.length from by omega); replace q52 := eq_true q52) | ((with_reducible refine gate_callee (f := 21) rfl ?_); refine goesL_ (some 85) rfl rfl Try.func21 (by kernel_rfl) rfl #[.slice Ao51 y389.length co51, .int .i64 (l2.length : Int)] rfl (by (try simp only [List.map_toArray, List.map_cons, List.map_nil]); first | done | rfl | (simp only [List.length_drop, List.length_take]; rfl)) ?_; (with_reducible refine (wire_List.calls kj12 _ _ y389 (l2.length : Int) t393 t394 t395 _ ?side1 ?side2 A40.out).mono ?_); (case side1 => repeat (first | exact (by repeat (first | (with_reducible exact HR392.out) | (with_reducible refine Kd.C_alloc ?_ _) | (with_reducible refine Kd.C_drewN ?_ _) | (with_reducible refine Kd.C_drew ?_) | exact HR392.out)) | (with_reducible refine Kd.C_alloc ?_ _) | (with_reducible refine Kd.C_drewN ?_ _) | (with_reducible refine Kd.C_drew ?_))); (case side2 => exact HC392.out); rintro e w53 ⟨v396, rfl, ho0, hb⟩; refine ⟨_, rfl, ?_⟩; have n0_ := Aside0.mk (Kd.R_below (by (with_reducible repeat (first | apply Kd.R_alloc | apply Kd.R_drewN | apply Kd.R_drew)); exact HO_9.out) hb); have n1_ := Aside0.mk (Kd.R_below (by (with_reducible repeat (first | apply Kd.R_alloc | apply Kd.R_drewN | apply Kd.R_drew)); exact HO_10.out) hb); have n2_ := Aside0.mk (Kd.R_below (by (with_reducible repeat (first | apply Kd.R_alloc | apply Kd.R_drewN | apply Kd.R_drew)); exact HO_11.out) hb); have n3_ := Aside0.mk (Kd.R_lower ho0 (below_size (by repeat (first | (with_reducible first | exact HB.out | apply below_alloc | apply pw_below_drewN | apply below_drew1) | exact HB.out)))); have n4_ := Aside0.mk (Kd.C_below (by repeat (first | (with_reducible exact HR378.out) | (with_reducible refine Kd.C_alloc ?_ _) | (with_reducible refine Kd.C_drewN ?_ _) | (with_reducible refine Kd.C_drew ?_) | exact HR378.out)) hb); have n5_ := Aside0.mk (Kd.C_below (by repeat (first | (with_reducible exact HR385.out) | (with_reducible refine Kd.C_alloc ?_ _) | (with_reducible refine Kd.C_drewN ?_ _) | (with_reducible refine Kd.C_drew ?_) | exact HR385.out)) hb); have n6_ := Aside0.mk (Kd.C_below (by repeat (first | (with_reducible exact HR392.out) | (with_reducible refine Kd.C_alloc ?_ _) | (with_reducible refine Kd.C_drewN ?_ _) | (with_reducible refine Kd.C_drew ?_) | exact HR392.out)) hb); have n7_ := Aside0.mk (below_step (by repeat (first | (with_reducible first | exact HB.out | apply below_alloc | apply pw_below_drewN | apply below_drew1) | exact HB.out)) hb); clear HO_9; clear HO_10; clear HO_11; clear HR378; clear HR385; clear HR392; clear HB; have HO_9 := n0_; have HO_10 := n1_; have HO_11 := n2_; have HO397 := n3_; have HR378 := n4_; have HR385 := n5_; have HR392 := n6_; have HB := n7_; clear n0_ n1_ n2_ n3_ n4_ n5_ n6_ n7_; (try clear hb); (try clear hb2); (try clear hk); (try clear hi); (try clear ho0)) | (go_at_call 16; (with_reducible refine (mapsheetslaw02_awake.calls kj12  t398 _ A45.out).mono ?_); rintro e w54 ⟨rfl, hb⟩; have n0_ := Aside0.mk (Kd.R_below (by (with_reducible repeat (first | apply Kd.R_alloc | apply Kd.R_drewN | apply Kd.R_drew)); exact HO_9.out) hb); have n1_ := Aside0.mk (Kd.R_below (by (with_reducible repeat (first | apply Kd.R_alloc | apply Kd.R_drewN | apply Kd.R_drew)); exact HO_10.out) hb); have n2_ := Aside0.mk (Kd.R_below (by (with_reducible repeat (first | apply Kd.R_alloc | apply Kd.R_drewN | apply Kd.R_drew)); exact HO_11.out) hb); have n3_ := Aside0.mk (Kd.R_below (by (with_reducible repeat (first | apply Kd.R_alloc | apply Kd.R_drewN | apply Kd.R_drew)); exact HO397.out) hb); have n4_ := Aside0.mk (Kd.C_below (by repeat (first | (with_reducible exact HR378.out) | (with_reducible refine Kd.C_alloc ?_ _) | (with_reducible refine Kd.C_drewN ?_ _) | (with_reducible refine Kd.C_drew ?_) | exact HR378.out)) hb); have n5_ := Aside0.mk (Kd.C_below (by repeat (first | (with_reducible exact HR385.out) | (with_reducible refine Kd.C_alloc ?_ _) | (with_reducible refine Kd.C_drewN ?_ _) | (with_reducible refine Kd.C_drew ?_) | exact HR385.out)) hb); have n6_ := Aside0.mk (Kd.C_below (by repeat (first | (with_reducible exact HR392.out) | (with_reducible refine Kd.C_alloc ?_ _) | (with_reducible refine Kd.C_drewN ?_ _) | (with_reducible refine Kd.C_drew ?_) | exact HR392.out)) hb); have n7_ := Aside0.mk (below_step (by repeat (first | (with_reducible first | exact HB.out | apply below_alloc | apply pw_below_drewN | apply below_drew1) | exact HB.out)) hb); clear HO_9; clear HO_10; clear HO_11; clear HO397; clear HR378; clear HR385; clear HR392; clear HB; have HO_9 := n0_; have HO_10 := n1_; have HO_11 := n2_; have HO397 := n3_; have HR378 := n4_; have HR385 := n5_; have HR392 := n6_; have HB := n7_; clear n0_ n1_ n2_ n3_ n4_ n5_ n6_ n7_; (try clear hb); (try clear hb2); (try clear hk); (try clear hi)))
                                        go_ret
                                        exact ⟨by first | rfl | (simp [errW_none, errW_some] <;> rfl) | (simp only [← hji27, ← hji32, ← hji37]; first | rfl | (simp [errW_none, errW_some] <;> rfl)) | (simp [*, errW_none, errW_some] <;> rfl), by repeat (first | (with_reducible first | exact HB.out | apply below_alloc | apply pw_below_drewN | apply below_drew1) | exact HB.out)⟩
                                      · rw [if_neg c44] at H
                                        exact absurd H (by simp)
                                    · rw [if_neg c43] at H
                                      exact absurd H (by simp)
                                  · rw [if_neg c42] at H
                                    exact absurd H (by simp)
                                · rw [if_neg c41] at H
                                  exact absurd H (by simp)
                              · rw [if_neg c39] at H
                                exact absurd H (by simp)
                            · rw [if_neg c38] at H
                              exact absurd H (by simp)
                        · rw [if_neg c34] at H
                          exact absurd H (by simp)
                      · rw [if_neg c33] at H
                        exact absurd H (by simp)
                  · rw [if_neg c29] at H
                    exact absurd H (by simp)
                · rw [if_neg c28] at H
                  exact absurd H (by simp)

/-- THE ONE PURE STATEMENT of mapsheetslaw02_WireCut: yours. -/
def mapsheetslaw02_WireCut.Pure : Prop := ∀ (a0 : Int) (a1 : ByteArray) (l2 : List Int) (a3 : Int), (Lit.int .i64 a0).wf = true → a1.size ≤ 140737488351232 → l2.length ≤ maxLen → l2.length * 8 ≤ 140737488351232 → (∀ x ∈ l2, (Lit.int .i64 x).wf = true) → (Lit.int .u8 a3).wf = true → ∃ k, mapsheetslaw02_WireCut.f k a0 a1 l2 a3 = some true
theorem mapsheetslaw02_WireCut.walk (P : mapsheetslaw02_WireCut.Pure) (a0 : Int) (a1 : ByteArray) (a2 : Option Addr) (len2 cap2 : Nat) (z2 : List Int) (a3 : Int) (w : World) (w0 : (Lit.int .i64 a0).wf = true) (w1 : a1.size ≤ 140737488351232) (w2 : (a2 = none ∧ len2 = 0 ∧ cap2 = 0 ∧ z2 = []) ∨ ∃ x, a2 = some x ∧ len2 ≤ cap2 ∧ cap2 ≤ maxLen ∧ z2.length = cap2 ∧ (∀ i, i < z2.length → w.cell? (x.add i) = some (.int .i64 (z2.getD i 0))) ∧ ∀ n ∈ z2, (Lit.int .i64 n).wf = true) (y2 : len2 * 8 ≤ 140737488351232) (w3 : (Lit.int .u8 a3).wf = true) :
    Calls Try.prog 8 #[.int .i64 a0, .string a1, .slice a2 len2 cap2, .int .u8 a3] w fun e w' => e = .returned (.bool true) ∧ Below w.heap.size w w' := by
  obtain ⟨l2, rfl, hr2, hm2, hw2, hc2⟩ := ReadsInt.ofRowC w2
  obtain ⟨k, h⟩ := P a0 a1 l2 a3 w0 w1 hm2 y2 hw2 w3
  refine (mapsheetslaw02_WireCut.calls k a0 a1 _ _ l2 a3 true w (Kd.C_of_reads (d := (0 : Int)) (h1 := fun _ => rfl) hr2) hc2 h).mono ?_
  rintro e w' ⟨rfl, hd⟩
  exact ⟨rfl, hd⟩

/-! ### mapsheetslaw02_WireSizes: function 9 -/
def mapsheetslaw02_WireSizes.l0 : Nat → Int → Int → Int → Option (Bool)
  | 0, _, _, _ => none
  | k + 1, x0, x3, x4 => if x4 ≤ 9 then (if 0 ≤ (wrap64 ((wrap64 (7 * x4)) - 1)) then (if x0 ≥ (wrap64 (-(shl .i64 1 (wrap64 ((wrap64 (7 * x4)) - 1))))) then (if ((decide (x3 ≤ x4)) != (decide (x0 < (shl .i64 1 (wrap64 ((wrap64 (7 * x4)) - 1)))))) = true then (none) else (mapsheetslaw02_WireSizes.l0 k x0 x3 (wrap64 (x4 + 1)))) else (if ((decide (x3 ≤ x4)) != false) = true then (none) else (mapsheetslaw02_WireSizes.l0 k x0 x3 (wrap64 (x4 + 1))))) else (none)) else (if x3 ≥ 1 then (if x3 ≤ 10 then ((mapsheetslaw02_awake.f k).bind fun t402 => (some t402)) else (none)) else (none))
def mapsheetslaw02_WireSizes.f (k : Nat) (a0 : Int) : Option (Bool) := (wire_PutInt.f ([] : List Int) a0).bind fun t399 => (mapsheetslaw02_WireSizes.l0 k a0 (t399.length : Int) 1)
theorem mapsheetslaw02_WireSizes.mono_l : ∀ k, (∀ y0 y1 y2, LeO (mapsheetslaw02_WireSizes.l0 k y0 y1 y2) (mapsheetslaw02_WireSizes.l0 (k + 1) y0 y1 y2))
  | 0 => fun _ _ _ r h => by simp [mapsheetslaw02_WireSizes.l0] at h
  | k + 1 => by
    have ih0 := mapsheetslaw02_WireSizes.mono_l k
    · intro y0 y1 y2
      unfold mapsheetslaw02_WireSizes.l0
      repeat' first
      | (with_reducible exact ih0 _ _ _)
      | (with_reducible exact mapsheetslaw02_awake.mono _)
      | (with_reducible exact LeO.refl _)
      | (with_reducible exact LeO.none _)
      | (with_reducible refine LeO.ite ?_ ?_)
      | (with_reducible refine LeO.bind ?_ (fun _ => ?_))
      | exact ih0 _ _ _
      | exact mapsheetslaw02_awake.mono _
      | exact LeO.none _
      | refine LeO.ite ?_ ?_
      | refine LeO.bind ?_ (fun _ => ?_)
theorem mapsheetslaw02_WireSizes.mono : ∀ a0 k, LeO (mapsheetslaw02_WireSizes.f k a0) (mapsheetslaw02_WireSizes.f (k + 1) a0) := by
  intro a0 k
  have ih0 := mapsheetslaw02_WireSizes.mono_l k
  unfold mapsheetslaw02_WireSizes.f
  repeat' first
      | (with_reducible exact ih0 _ _ _)
      | (with_reducible exact mapsheetslaw02_awake.mono _)
      | (with_reducible exact LeO.refl _)
      | (with_reducible exact LeO.none _)
      | (with_reducible refine LeO.ite ?_ ?_)
      | (with_reducible refine LeO.bind ?_ (fun _ => ?_))
      | exact ih0 _ _ _
      | exact mapsheetslaw02_awake.mono _
      | exact LeO.none _
      | refine LeO.ite ?_ ?_
      | refine LeO.bind ?_ (fun _ => ?_)
set_option maxHeartbeats 8000000 in
set_option maxRecDepth 100000 in
theorem mapsheetslaw02_WireSizes.calls (k : Nat) (a0 : Int) (r : Bool) (w : World) (h : mapsheetslaw02_WireSizes.f k a0 = some r) :
    Calls Try.prog 9 #[.int .i64 a0] w fun e w' => e = .returned (.bool r) ∧ Below w.heap.size w w' := by
  have HB := Aside0.mk (Below.refl w.heap.size w)
  have H : ((wire_PutInt.f ([] : List Int) a0).bind fun t399 => (mapsheetslaw02_WireSizes.l0 k a0 (t399.length : Int) 1)) = some r := h
  clear h
  replace H := Option.bind_eq_some_iff.mp H
  obtain ⟨t399, A20, H⟩ := H
  replace H : (mapsheetslaw02_WireSizes.l0 k a0 (t399.length : Int) 1) = some r := H
  have A2 := Aside0.mk A20
  clear A20
  have H' := Aside0.mk H
  clear H
  go_enter Try.func9, Try.ntmps9
  go_wp2_with (first | ((with_reducible refine gate_callee (f := 14) rfl ?_); refine goesL_ (some 7) rfl rfl Try.func14 (by kernel_rfl) rfl #[.slice none 0 0, .int .i64 a0] rfl (by (try simp only [List.map_toArray, List.map_cons, List.map_nil]); first | done | rfl | (simp only [List.length_drop, List.length_take]; rfl)) ?_; (refine (wire_PutInt.calls _ _ ([] : List Int) a0 t399 _ ?side1 ?side2 A2.out).mono ?_); (case side1 => exact Kd.C_nil _ _); (case side2 => exact Nat.le_refl _); rintro e w3 ⟨v400, rfl, ho0, hb⟩; refine ⟨_, rfl, ?_⟩; have n0_ := Aside0.mk (Kd.R_lower ho0 (below_size (by repeat (first | (with_reducible first | exact HB.out | apply below_alloc | apply pw_below_drewN | apply below_drew1) | exact HB.out)))); have n1_ := Aside0.mk (below_step (by repeat (first | (with_reducible first | exact HB.out | apply below_alloc | apply pw_below_drewN | apply below_drew1) | exact HB.out)) hb); clear HB; have HO401 := n0_; have HB := n1_; clear n0_ n1_; (try clear hb); (try clear hb2); (try clear hk); (try clear hi); (try clear ho0); obtain ⟨Ao4, co4, eo4⟩ := Kd.R_slice HO401.out; subst eo4))
  go_loopg [4] k (fun kq v4 w' => ∃ (x4_1 : Int), v4 = .int .i64 x4_1 ∧ Aside0 (mapsheetslaw02_WireSizes.l0 kq a0 (t399.length : Int) x4_1 = some r) ∧ Aside0 (kq ≤ k) ∧ Aside0 (Below w.heap.size w w'))
  case atStart => exact ⟨(1), (by first | rfl | (simp; done) | (simp [*]; done)), H', ⟨Nat.le_refl _⟩, ⟨by repeat (first | (with_reducible first | exact HB.out | apply below_alloc | apply pw_below_drewN | apply below_drew1) | exact HB.out)⟩⟩
  case round =>
    clear H'
    try clear c1
    try clear p2
    obtain ⟨x4_1, rfl, HA, HK1, HB⟩ := hrel
    cases gk with
    | zero => exact absurd HA.out (by simp [mapsheetslaw02_WireSizes.l0])
    | succ k1 =>
      have H := HA.out
      clear HA
      simp only [mapsheetslaw02_WireSizes.l0] at H
      by_cases c5 : x4_1 ≤ 9
      · rw [if_pos c5] at H
        have c5b0 : decide (x4_1 ≤ 9) = true := decide_eq_true c5
        clear c5
        obtain ⟨ji6, hji6⟩ : ∃ j_ : Int, (wrap64 ((wrap64 (7 * x4_1)) - 1)) = j_ := ⟨_, rfl⟩
        replace H : (if 0 ≤ (ji6) then (if a0 ≥ (wrap64 (-(shl .i64 1 (ji6)))) then (if ((decide ((t399.length : Int) ≤ x4_1)) != (decide (a0 < (shl .i64 1 (ji6))))) = true then (none) else (mapsheetslaw02_WireSizes.l0 k1 a0 (t399.length : Int) (wrap64 (x4_1 + 1)))) else (if ((decide ((t399.length : Int) ≤ x4_1)) != false) = true then (none) else (mapsheetslaw02_WireSizes.l0 k1 a0 (t399.length : Int) (wrap64 (x4_1 + 1))))) else (none)) = some r := by first | (rw [hji6] at H; exact H) | (simp only [hji6] at H ⊢; exact H)
        have hji6w : (IntKind.i64.wrap ((wrap64 (7 * x4_1)) - 1)) = ji6 := (i64_w _).trans hji6
        by_cases c7 : 0 ≤ (ji6)
        · rw [if_pos c7] at H
          have c7b0 := eq_true c7
          have c7b1 : decide (0 ≤ (ji6)) = true := decide_eq_true c7
          clear c7
          obtain ⟨ji8, hji8⟩ : ∃ j_ : Int, (shl .i64 1 (ji6)) = j_ := ⟨_, rfl⟩
          replace H : (if a0 ≥ (wrap64 (-(ji8))) then (if ((decide ((t399.length : Int) ≤ x4_1)) != (decide (a0 < (ji8)))) = true then (none) else (mapsheetslaw02_WireSizes.l0 k1 a0 (t399.length : Int) (wrap64 (x4_1 + 1)))) else (if ((decide ((t399.length : Int) ≤ x4_1)) != false) = true then (none) else (mapsheetslaw02_WireSizes.l0 k1 a0 (t399.length : Int) (wrap64 (x4_1 + 1))))) = some r := by first | (rw [hji8] at H; exact H) | (simp only [hji8] at H ⊢; exact H)
          have hji8_ : (IntKind.i64.wrap (1 * 2 ^ min (ji6).toNat 64)) = ji8 := hji8
          have hji8z : (ji6) ≤ 64 → (IntKind.i64.wrap (1 * 2 ^ (ji6).toNat)) = ji8 := shl_small hji8
          have hji8u : (IntKind.i64.wrap (2 ^ min (ji6).toNat 64)) = ji8 := by have h_ := hji8_; rw [Int.one_mul] at h_; exact h_
          have hji8v : (ji6) ≤ 64 → (IntKind.i64.wrap (2 ^ (ji6).toNat)) = ji8 := fun hle_ => by have h_ := hji8z hle_; rw [Int.one_mul] at h_; exact h_
          have hji8y : (wrap64 (1 * 2 ^ min (ji6).toNat 64)) = ji8 := (i64_w _).symm.trans hji8_
          have hji8x : (ji6) ≤ 64 → (wrap64 (1 * 2 ^ (ji6).toNat)) = ji8 := fun h_ => (i64_w _).symm.trans (hji8z h_)
          by_cases c9 : a0 ≥ (wrap64 (-(ji8)))
          · rw [if_pos c9] at H
            have c9b0 : decide ((wrap64 (-(ji8))) ≤ a0) = true := decide_eq_true c9
            clear c9
            by_cases c10 : ((decide ((t399.length : Int) ≤ x4_1)) != (decide (a0 < (ji8)))) = true
            · rw [if_pos c10] at H
              exact absurd H (by simp)
            · rw [if_neg c10] at H
              have c10b0 : ((decide ((t399.length : Int) ≤ x4_1)) != (decide (a0 < (ji8)))) = false := by simpa using c10
              (try (have c10b1 : decide ((decide ((t399.length : Int) ≤ x4_1)) = (decide (a0 < (ji8)))) = true := by simpa using c10))
              (try (have c10b2 : ((decide ((t399.length : Int) ≤ x4_1)) == (decide (a0 < (ji8)))) = true := by simpa using c10))
              clear c10
              have H' := Aside0.mk H
              clear H
              go_wp2
              go_roundg k1
              case measure => have := HK1.out; omega
              case rel => exact ⟨(wrap64 (x4_1 + 1)), (by first | rfl | (simp; done) | (simp [*]; done)), H', ⟨by have := HK1.out; omega⟩, ⟨by repeat (first | (with_reducible first | exact HB.out | apply below_alloc | apply pw_below_drewN | apply below_drew1) | exact HB.out)⟩⟩
          · rw [if_neg c9] at H
            have c9b0 : decide ((wrap64 (-(ji8))) ≤ a0) = false := decide_eq_false c9
            clear c9
            by_cases c11 : ((decide ((t399.length : Int) ≤ x4_1)) != false) = true
            · rw [if_pos c11] at H
              exact absurd H (by simp)
            · rw [if_neg c11] at H
              have c11b0 : ((decide ((t399.length : Int) ≤ x4_1)) != false) = false := by simpa using c11
              (try (have c11b1 : decide ((decide ((t399.length : Int) ≤ x4_1)) = false) = true := by simpa using c11))
              (try (have c11b2 : ((decide ((t399.length : Int) ≤ x4_1)) == false) = true := by simpa using c11))
              clear c11
              have H' := Aside0.mk H
              clear H
              go_wp2
              go_roundg k1
              case measure => have := HK1.out; omega
              case rel => exact ⟨(wrap64 (x4_1 + 1)), (by first | rfl | (simp; done) | (simp [*]; done)), H', ⟨by have := HK1.out; omega⟩, ⟨by repeat (first | (with_reducible first | exact HB.out | apply below_alloc | apply pw_below_drewN | apply below_drew1) | exact HB.out)⟩⟩
        · rw [if_neg c7] at H
          exact absurd H (by simp)
      · rw [if_neg c5] at H
        have c5b0 : decide (x4_1 ≤ 9) = false := decide_eq_false c5
        clear c5
        by_cases c12 : (t399.length : Int) ≥ 1
        · rw [if_pos c12] at H
          have c12b0 : decide (1 ≤ (t399.length : Int)) = true := decide_eq_true c12
          have c12b1 : decide (1 ≤ t399.length) = true := decide_eq_true (by omega)
          clear c12
          by_cases c13 : (t399.length : Int) ≤ 10
          · rw [if_pos c13] at H
            have c13b0 : decide ((t399.length : Int) ≤ 10) = true := decide_eq_true c13
            have c13b1 : decide (t399.length ≤ 10) = true := decide_eq_true (by omega)
            clear c13
            replace H := Option.bind_eq_some_iff.mp H
            obtain ⟨t402, A140, H⟩ := H
            replace H : (some t402) = some r := H
            have A14 := Aside0.mk A140
            clear A140
            obtain rfl := Option.some.inj H
            go_wp2_with (first | (go_at_call 16; (with_reducible refine (mapsheetslaw02_awake.calls k1  t402 _ A14.out).mono ?_); rintro e w15 ⟨rfl, hb⟩; have n0_ := Aside0.mk (below_step (by repeat (first | (with_reducible first | exact HB.out | apply below_alloc | apply pw_below_drewN | apply below_drew1) | exact HB.out)) hb); clear HB; have HB := n0_; clear n0_; (try clear hb); (try clear hb2); (try clear hk); (try clear hi)))
            go_ret
            exact ⟨by first | rfl | (simp [errW_none, errW_some] <;> rfl) | (simp [*, errW_none, errW_some] <;> rfl), by repeat (first | (with_reducible first | exact HB.out | apply below_alloc | apply pw_below_drewN | apply below_drew1) | exact HB.out)⟩
          · rw [if_neg c13] at H
            exact absurd H (by simp)
        · rw [if_neg c12] at H
          exact absurd H (by simp)

/-- THE ONE PURE STATEMENT of mapsheetslaw02_WireSizes: yours. -/
def mapsheetslaw02_WireSizes.Pure : Prop := ∀ (a0 : Int), (Lit.int .i64 a0).wf = true → ∃ k, mapsheetslaw02_WireSizes.f k a0 = some true
theorem mapsheetslaw02_WireSizes.walk (P : mapsheetslaw02_WireSizes.Pure) (a0 : Int) (w : World) (w0 : (Lit.int .i64 a0).wf = true) :
    Calls Try.prog 9 #[.int .i64 a0] w fun e w' => e = .returned (.bool true) ∧ Below w.heap.size w w' := by
  obtain ⟨k, h⟩ := P a0 w0
  refine (mapsheetslaw02_WireSizes.calls k a0 true w h).mono ?_
  rintro e w' ⟨rfl, hd⟩
  exact ⟨rfl, hd⟩

end Go.Proofs.Ytkmgmiofmegjmaa.PA
