-- Written by wip/pp.py of this repository, on the kit's print program. Not trusted: Lean checks it.
import Derived.Test.YtjicigagejihhaaPAx0
import Derived.Test.YtjicigagejihhaaPAx2
import Derived.Test.YtjicigagejihhaaPAx11
import Derived.Test.YtjicigagejihhaaPAx12
import Derived.Test.YtjicigagejihhaaPAx14
import Derived.Test.YtjicigagejihhaaPAx17
import Derived.Test.YtjicigagejihhaaPAx26
namespace Go.Proofs.Ytjicigagejihhaa.PA
open Go.RowKit Go.Proofs.YtjicigagejihhaaW.PrintWords Go.Proofs.YtjicigagejihhaaW.PrintLast Go.Proofs.YtjicigagejihhaaW.PrintMore
attribute [local go_sem] max2_int min2_int max_two min_two max_three min_three max_four min_four   -- for this text's walks alone
set_option linter.unusedVariables false
set_option linter.unusedSimpArgs false

/-! ### mapsheetslaw24_DeviceAll: function 10 -/
mutual
def mapsheetslaw24_DeviceAll.j0 : Nat → Bool → List (List Int) → List (S53) → Int → Bool → Option (Bool)
  | 0, _, _, _, _, _ => none
  | k + 1, x14, x618000, x618001, x618002, x618003 => if x14 = true then ((mapsheetslaw24_awake.f).bind fun t619 => (some t619)) else (mapsheetslaw24_DeviceAll.l0 k ([] : List Int) (wrap64 ((x618001.length : Int) - 1)) x618000 x618001 x618002 x618003)
def mapsheetslaw24_DeviceAll.l0 : Nat → List Int → Int → List (List Int) → List (S53) → Int → Bool → Option (Bool)
  | 0, _, _, _, _, _, _ => none
  | k + 1, x3, x4, x618000, x618001, x618002, x618003 => if x4 ≥ 0 then ((some (([x4, x4] : List Int) : List Int)).bind fun y620 => (if x3.length + y620.length < 17592186044416 then (mapsheetslaw24_DeviceAll.l0 k (x3 ++ y620) (wrap64 (x4 - 1)) x618000 x618001 x618002 x618003) else (none))) else ((device_Flush.f k x618000 x618001 x618002 x618003).bind fun bt626 => ((device_Crash.f k x618000 x618001 x618002 x618003 x3).bind fun bt636 => (if bt626.2.2.2.2 = 0 then ((mapsheetsref24_SameSectors.f k bt626.1 bt636.1).bind fun t645 => (if t645 = true then (if (bt636.2.1.length : Int) = 0 then ((mapsheetslaw24_same.f k x618000 x618001 x618002 x618003 bt636.1 bt636.2.1 bt636.2.2.1 bt636.2.2.2 (-1)).bind fun t646 => (if t646 = true then ((mapsheetslaw24_awake.f).bind fun t647 => (some t647)) else (none))) else (none)) else (none))) else (none))))
end
def mapsheetslaw24_DeviceAll.f (k : Nat) (l0_0 : List (List Int)) (l0_1 : List (S53)) (a0_2 : Int) (a0_3 : Bool) : Option (Bool) := (mapsheetsref24_Few.f k l0_0 l0_1 a0_2 a0_3 100).bind fun t618 => (if t618 = true then (mapsheetslaw24_DeviceAll.j0 k a0_3 l0_0 l0_1 a0_2 a0_3) else (mapsheetslaw24_DeviceAll.j0 k true l0_0 l0_1 a0_2 a0_3))
theorem mapsheetslaw24_DeviceAll.mono_l : ∀ k, (∀ y0 y1 y2 y3 y4, LeO (mapsheetslaw24_DeviceAll.j0 k y0 y1 y2 y3 y4) (mapsheetslaw24_DeviceAll.j0 (k + 1) y0 y1 y2 y3 y4)) ∧ (∀ y0 y1 y2 y3 y4 y5, LeO (mapsheetslaw24_DeviceAll.l0 k y0 y1 y2 y3 y4 y5) (mapsheetslaw24_DeviceAll.l0 (k + 1) y0 y1 y2 y3 y4 y5))
  | 0 => ⟨fun _ _ _ _ _ r h => by simp [mapsheetslaw24_DeviceAll.j0] at h, fun _ _ _ _ _ _ r h => by simp [mapsheetslaw24_DeviceAll.l0] at h⟩
  | k + 1 => by
    obtain ⟨ih0, ih1⟩ := mapsheetslaw24_DeviceAll.mono_l k
    refine ⟨?_, ?_⟩
    · intro y0 y1 y2 y3 y4
      unfold mapsheetslaw24_DeviceAll.j0
      repeat' first
      | (with_reducible exact ih0 _ _ _ _ _)
      | (with_reducible exact ih1 _ _ _ _ _ _)
      | (with_reducible exact device_Crash.mono _ _ _ _ _ _)
      | (with_reducible exact device_Flush.mono _ _ _ _ _)
      | (with_reducible exact mapsheetslaw24_same.mono _ _ _ _ _ _ _ _ _ _)
      | (with_reducible exact mapsheetsref24_Few.mono _ _ _ _ _ _)
      | (with_reducible exact mapsheetsref24_SameSectors.mono _ _ _)
      | (with_reducible exact LeO.refl _)
      | (with_reducible exact LeO.none _)
      | (with_reducible refine LeO.ite ?_ ?_)
      | (with_reducible refine LeO.bind ?_ (fun _ => ?_))
      | exact ih0 _ _ _ _ _
      | exact ih1 _ _ _ _ _ _
      | exact device_Crash.mono _ _ _ _ _ _
      | exact device_Flush.mono _ _ _ _ _
      | exact mapsheetslaw24_same.mono _ _ _ _ _ _ _ _ _ _
      | exact mapsheetsref24_Few.mono _ _ _ _ _ _
      | exact mapsheetsref24_SameSectors.mono _ _ _
      | exact LeO.none _
      | refine LeO.ite ?_ ?_
      | refine LeO.bind ?_ (fun _ => ?_)
    · intro y0 y1 y2 y3 y4 y5
      unfold mapsheetslaw24_DeviceAll.l0
      repeat' first
      | (with_reducible exact ih0 _ _ _ _ _)
      | (with_reducible exact ih1 _ _ _ _ _ _)
      | (with_reducible exact device_Crash.mono _ _ _ _ _ _)
      | (with_reducible exact device_Flush.mono _ _ _ _ _)
      | (with_reducible exact mapsheetslaw24_same.mono _ _ _ _ _ _ _ _ _ _)
      | (with_reducible exact mapsheetsref24_Few.mono _ _ _ _ _ _)
      | (with_reducible exact mapsheetsref24_SameSectors.mono _ _ _)
      | (with_reducible exact LeO.refl _)
      | (with_reducible exact LeO.none _)
      | (with_reducible refine LeO.ite ?_ ?_)
      | (with_reducible refine LeO.bind ?_ (fun _ => ?_))
      | exact ih0 _ _ _ _ _
      | exact ih1 _ _ _ _ _ _
      | exact device_Crash.mono _ _ _ _ _ _
      | exact device_Flush.mono _ _ _ _ _
      | exact mapsheetslaw24_same.mono _ _ _ _ _ _ _ _ _ _
      | exact mapsheetsref24_Few.mono _ _ _ _ _ _
      | exact mapsheetsref24_SameSectors.mono _ _ _
      | exact LeO.none _
      | refine LeO.ite ?_ ?_
      | refine LeO.bind ?_ (fun _ => ?_)
theorem mapsheetslaw24_DeviceAll.mono : ∀ a0 a1 a2 a3 k, LeO (mapsheetslaw24_DeviceAll.f k a0 a1 a2 a3) (mapsheetslaw24_DeviceAll.f (k + 1) a0 a1 a2 a3) := by
  intro a0 a1 a2 a3 k
  obtain ⟨ih0, ih1⟩ := mapsheetslaw24_DeviceAll.mono_l k
  unfold mapsheetslaw24_DeviceAll.f
  repeat' first
      | (with_reducible exact ih0 _ _ _ _ _)
      | (with_reducible exact ih1 _ _ _ _ _ _)
      | (with_reducible exact device_Crash.mono _ _ _ _ _ _)
      | (with_reducible exact device_Flush.mono _ _ _ _ _)
      | (with_reducible exact mapsheetslaw24_same.mono _ _ _ _ _ _ _ _ _ _)
      | (with_reducible exact mapsheetsref24_Few.mono _ _ _ _ _ _)
      | (with_reducible exact mapsheetsref24_SameSectors.mono _ _ _)
      | (with_reducible exact LeO.refl _)
      | (with_reducible exact LeO.none _)
      | (with_reducible refine LeO.ite ?_ ?_)
      | (with_reducible refine LeO.bind ?_ (fun _ => ?_))
      | exact ih0 _ _ _ _ _
      | exact ih1 _ _ _ _ _ _
      | exact device_Crash.mono _ _ _ _ _ _
      | exact device_Flush.mono _ _ _ _ _
      | exact mapsheetslaw24_same.mono _ _ _ _ _ _ _ _ _ _
      | exact mapsheetsref24_Few.mono _ _ _ _ _ _
      | exact mapsheetsref24_SameSectors.mono _ _ _
      | exact LeO.none _
      | refine LeO.ite ?_ ?_
      | refine LeO.bind ?_ (fun _ => ?_)
set_option maxHeartbeats 8000000 in
set_option maxRecDepth 100000 in
theorem mapsheetslaw24_DeviceAll.calls (k : Nat) (A0_0 : Option Addr) (c0_0 : Nat) (l0_0 : List (List Int)) (A0_1 : Option Addr) (c0_1 : Nat) (l0_1 : List (S53)) (a0_2 : Int) (a0_3 : Bool) (r : Bool) (w : World) (hr0_0 : Kd.C (Kd.slice 5 (Kd.int .u8)) w A0_0 l0_0.length l0_0) (hc0_0 : l0_0.length ≤ c0_0) (hr0_1 : Kd.C k53 w A0_1 l0_1.length l0_1) (hc0_1 : l0_1.length ≤ c0_1) (h : mapsheetslaw24_DeviceAll.f k l0_0 l0_1 a0_2 a0_3 = some r) :
    Calls Try.prog 10 #[.agg #[.slice A0_0 l0_0.length c0_0, .slice A0_1 l0_1.length c0_1, .int .i64 a0_2, .bool a0_3]] w fun e w' => e = .returned (.bool r) ∧ Below w.heap.size w w' := by
  have hu25 := Try.underlying25
  have HR0_0 := Aside0.mk hr0_0
  have HC0_0 := Aside0.mk hc0_0
  clear hr0_0 hc0_0
  have HR0_1 := Aside0.mk hr0_1
  have HC0_1 := Aside0.mk hc0_1
  clear hr0_1 hc0_1
  have HB := Aside0.mk (Below.refl w.heap.size w)
  have H : ((mapsheetsref24_Few.f k l0_0 l0_1 a0_2 a0_3 100).bind fun t618 => (if t618 = true then (mapsheetslaw24_DeviceAll.j0 k a0_3 l0_0 l0_1 a0_2 a0_3) else (mapsheetslaw24_DeviceAll.j0 k true l0_0 l0_1 a0_2 a0_3))) = some r := h
  clear h
  have HC2 := Aside0.mk H
  clear H
  go_enter Try.func10, Try.ntmps10
  go_upto_region 1 with (first | ((with_reducible refine gate_dst (N := 1) rfl ?_); (try (refine gate_guard (by rfl) ?_; dsimp only)); refine box_event ?hg (N := 1) ?hd (cs := #[.slice A0_0 l0_0.length c0_0, .slice A0_1 l0_1.length c0_1, .int .i64 a0_2, .bool a0_3]) (t := 25) ?hr ?_; (case hd => rfl); (case hg => rfl); (case hr => first | (go_simp; done) | (go_simp; rfl)); intro gb617 hg w3 hbox hb; have n0_ := Aside0.mk (below_step (by repeat (first | (with_reducible first | exact HB.out | apply below_alloc | apply pw_below_drewN | apply below_drew1) | exact HB.out)) hb); have n1_ := Aside0.mk (hbox); have n2_ := Aside0.mk ((by rw [hg]; exact (below_size (by repeat (first | (with_reducible first | exact HB.out | apply below_alloc | apply pw_below_drewN | apply below_drew1) | exact HB.out))) : w.heap.size ≤ gb617)); have n3_ := Aside0.mk ((by rw [hg]; exact (below_size (by repeat (first | (with_reducible first | exact HB.out | apply below_alloc | apply pw_below_drewN | apply below_drew1) | exact HB.out))) : w.heap.size ≤ gb617)); clear HB; have HB := n0_; have BK617 := n1_; have GW617 := n2_; have GE617 := n3_; clear n0_ n1_ n2_ n3_; clear hb hbox hg))
  (try simp only [Act.put, List.setIfInBounds_toArray, List.set_cons_zero, List.set_cons_succ])
  go_cut [14] (fun v14 wc => ∃ (kq : Nat) (x14_1 : Bool), v14 = .bool x14_1 ∧ Aside0 (mapsheetslaw24_DeviceAll.j0 kq x14_1 l0_0 l0_1 a0_2 a0_3 = some r) ∧ Aside0 (kq ≤ k) ∧ Aside0 (wc.heap[gb617]? = some (.cells #[(.slice A0_0 l0_0.length c0_0), (.slice A0_1 l0_1.length c0_1), .int .i64 a0_2, .bool a0_3] 25 (0, 0))) ∧ Aside0 (Below w.heap.size w wc))
  case first =>
    have H := HC2.out
    clear HC2
    replace H := Option.bind_eq_some_iff.mp H
    obtain ⟨t618, A40, H⟩ := H
    replace H : (if t618 = true then (mapsheetslaw24_DeviceAll.j0 k a0_3 l0_0 l0_1 a0_2 a0_3) else (mapsheetslaw24_DeviceAll.j0 k true l0_0 l0_1 a0_2 a0_3)) = some r := H
    have A4 := Aside0.mk A40
    clear A40
    by_cases c5 : t618 = true
    · subst c5
      have H1 : (mapsheetslaw24_DeviceAll.j0 k a0_3 l0_0 l0_1 a0_2 a0_3) = some r := by rw [if_pos rfl] at H; exact H
      clear H
      have H := H1
      clear H1
      have H' := Aside0.mk H
      clear H
      have hcz6_0 : w3.cell? ⟨gb617, 0, none⟩ = some (.slice A0_0 l0_0.length c0_0) := (blk_cell BK617.out 0).trans rfl
      have hcz6_1 : w3.cell? ⟨gb617, 1, none⟩ = some (.slice A0_1 l0_1.length c0_1) := (blk_cell BK617.out 1).trans rfl
      have hcz6_2 : w3.cell? ⟨gb617, 2, none⟩ = some (.int .i64 a0_2) := (blk_cell BK617.out 2).trans rfl
      have hcz6_3 : w3.cell? ⟨gb617, 3, none⟩ = some (.bool a0_3) := (blk_cell BK617.out 3).trans rfl
      have hfz6_0 := blk_frozen BK617.out 0
      have hfz6_1 := blk_frozen BK617.out 1
      have hfz6_2 := blk_frozen BK617.out 2
      have hfz6_3 := blk_frozen BK617.out 3
      go_wp2_with (first | ((with_reducible refine gate_callee (f := 11) rfl ?_); refine goesL_ (some 9) rfl rfl Try.func11 (by kernel_rfl) rfl #[.agg #[.slice A0_0 l0_0.length c0_0, .slice A0_1 l0_1.length c0_1, .int .i64 a0_2, .bool a0_3], .int .i64 100] rfl (by (try simp only [List.map_toArray, List.map_cons, List.map_nil]); first | done | rfl | (simp only [List.length_drop, List.length_take]; rfl)) ?_; (with_reducible refine (mapsheetsref24_Few.calls k _ _ l0_0 _ _ l0_1 a0_2 a0_3 100 true _ ?side1 ?side2 ?side3 ?side4 A4.out).mono ?_); (case side1 => repeat (first | exact (Kd.C_below HR0_0.out HB.out) | (with_reducible refine Kd.C_alloc ?_ _) | (with_reducible refine Kd.C_drewN ?_ _) | (with_reducible refine Kd.C_drew ?_))); (case side2 => exact HC0_0.out); (case side3 => repeat (first | exact (Kd.C_below HR0_1.out HB.out) | (with_reducible refine Kd.C_alloc ?_ _) | (with_reducible refine Kd.C_drewN ?_ _) | (with_reducible refine Kd.C_drew ?_))); (case side4 => exact HC0_1.out); rintro e w7 ⟨rfl, hb⟩; refine ⟨_, rfl, ?_⟩; have n0_ := Aside0.mk (blk_below (g := gb617) (o := .cells #[.slice A0_0 l0_0.length c0_0, .slice A0_1 l0_1.length c0_1, .int .i64 a0_2, .bool a0_3] 25 (0, 0)) (by (with_reducible repeat (first | refine blk_drewN ?_ _ | refine blk_drew ?_ | refine blk_alloc ?_ _)); exact BK617.out) hb); have n1_ := Aside0.mk (below_step (by repeat (first | (with_reducible first | exact HB.out | apply below_alloc | apply pw_below_drewN | apply below_drew1 | refine below_set ?_ GE617.out) | exact HB.out)) hb); clear BK617; clear HB; have BK617 := n0_; have HB := n1_; clear n0_ n1_; (try clear hb); (try clear hb2); (try clear hk); (try clear hi); have hcz8_0 : w7.cell? ⟨gb617, 0, none⟩ = some (.slice A0_0 l0_0.length c0_0) := (blk_cell BK617.out 0).trans rfl; have hcz8_1 : w7.cell? ⟨gb617, 1, none⟩ = some (.slice A0_1 l0_1.length c0_1) := (blk_cell BK617.out 1).trans rfl; have hcz8_2 : w7.cell? ⟨gb617, 2, none⟩ = some (.int .i64 a0_2) := (blk_cell BK617.out 2).trans rfl; have hcz8_3 : w7.cell? ⟨gb617, 3, none⟩ = some (.bool a0_3) := (blk_cell BK617.out 3).trans rfl; have hfz8_0 := blk_frozen BK617.out 0; have hfz8_1 := blk_frozen BK617.out 1; have hfz8_2 := blk_frozen BK617.out 2; have hfz8_3 := blk_frozen BK617.out 3))
      go_meet
      case rel => exact ⟨_, (a0_3), (by first | rfl | (simp; done) | (simp [*]; done)), H', ⟨by first | omega | exact Nat.le_refl _⟩, ⟨by (with_reducible repeat (first | refine blk_drewN ?_ _ | refine blk_drew ?_ | refine blk_alloc ?_ _)); exact BK617.out⟩, ⟨by repeat (first | (with_reducible first | exact HB.out | apply below_alloc | apply pw_below_drewN | apply below_drew1 | refine below_set ?_ GE617.out) | exact HB.out)⟩⟩
    · replace c5 := Bool.eq_false_iff.mpr c5
      subst c5
      have H1 : (mapsheetslaw24_DeviceAll.j0 k true l0_0 l0_1 a0_2 a0_3) = some r := by rw [if_neg (show ¬ (false = true) by decide)] at H; exact H
      clear H
      have H := H1
      clear H1
      have H' := Aside0.mk H
      clear H
      have hcz9_0 : w3.cell? ⟨gb617, 0, none⟩ = some (.slice A0_0 l0_0.length c0_0) := (blk_cell BK617.out 0).trans rfl
      have hcz9_1 : w3.cell? ⟨gb617, 1, none⟩ = some (.slice A0_1 l0_1.length c0_1) := (blk_cell BK617.out 1).trans rfl
      have hcz9_2 : w3.cell? ⟨gb617, 2, none⟩ = some (.int .i64 a0_2) := (blk_cell BK617.out 2).trans rfl
      have hcz9_3 : w3.cell? ⟨gb617, 3, none⟩ = some (.bool a0_3) := (blk_cell BK617.out 3).trans rfl
      have hfz9_0 := blk_frozen BK617.out 0
      have hfz9_1 := blk_frozen BK617.out 1
      have hfz9_2 := blk_frozen BK617.out 2
      have hfz9_3 := blk_frozen BK617.out 3
      go_wp2_with (first | ((with_reducible refine gate_callee (f := 11) rfl ?_); refine goesL_ (some 9) rfl rfl Try.func11 (by kernel_rfl) rfl #[.agg #[.slice A0_0 l0_0.length c0_0, .slice A0_1 l0_1.length c0_1, .int .i64 a0_2, .bool a0_3], .int .i64 100] rfl (by (try simp only [List.map_toArray, List.map_cons, List.map_nil]); first | done | rfl | (simp only [List.length_drop, List.length_take]; rfl)) ?_; (with_reducible refine (mapsheetsref24_Few.calls k _ _ l0_0 _ _ l0_1 a0_2 a0_3 100 false _ ?side1 ?side2 ?side3 ?side4 A4.out).mono ?_); (case side1 => repeat (first | exact (Kd.C_below HR0_0.out HB.out) | (with_reducible refine Kd.C_alloc ?_ _) | (with_reducible refine Kd.C_drewN ?_ _) | (with_reducible refine Kd.C_drew ?_))); (case side2 => exact HC0_0.out); (case side3 => repeat (first | exact (Kd.C_below HR0_1.out HB.out) | (with_reducible refine Kd.C_alloc ?_ _) | (with_reducible refine Kd.C_drewN ?_ _) | (with_reducible refine Kd.C_drew ?_))); (case side4 => exact HC0_1.out); rintro e w10 ⟨rfl, hb⟩; refine ⟨_, rfl, ?_⟩; have n0_ := Aside0.mk (blk_below (g := gb617) (o := .cells #[.slice A0_0 l0_0.length c0_0, .slice A0_1 l0_1.length c0_1, .int .i64 a0_2, .bool a0_3] 25 (0, 0)) (by (with_reducible repeat (first | refine blk_drewN ?_ _ | refine blk_drew ?_ | refine blk_alloc ?_ _)); exact BK617.out) hb); have n1_ := Aside0.mk (below_step (by repeat (first | (with_reducible first | exact HB.out | apply below_alloc | apply pw_below_drewN | apply below_drew1 | refine below_set ?_ GE617.out) | exact HB.out)) hb); clear BK617; clear HB; have BK617 := n0_; have HB := n1_; clear n0_ n1_; (try clear hb); (try clear hb2); (try clear hk); (try clear hi)))
      go_meet
      case rel => exact ⟨_, (true), (by first | rfl | (simp; done) | (simp [*]; done)), H', ⟨by first | omega | exact Nat.le_refl _⟩, ⟨by (with_reducible repeat (first | refine blk_drewN ?_ _ | refine blk_drew ?_ | refine blk_alloc ?_ _)); exact BK617.out⟩, ⟨by repeat (first | (with_reducible first | exact HB.out | apply below_alloc | apply pw_below_drewN | apply below_drew1 | refine below_set ?_ GE617.out) | exact HB.out)⟩⟩
  case rest =>
    clear HC2
    try clear c1
    try clear p2
    try clear c5
    try clear c10
    try clear hcz6_0
    try clear hcz6_1
    try clear hcz6_2
    try clear hcz6_3
    try clear hcz8_0
    try clear hcz8_1
    try clear hcz8_2
    try clear hcz8_3
    try clear hcz9_0
    try clear hcz9_1
    try clear hcz9_2
    try clear hcz9_3
    try clear hfz6_0
    try clear hfz6_1
    try clear hfz6_2
    try clear hfz6_3
    try clear hfz8_0
    try clear hfz8_1
    try clear hfz8_2
    try clear hfz8_3
    try clear hfz9_0
    try clear hfz9_1
    try clear hfz9_2
    try clear hfz9_3
    obtain ⟨kq, x14_1, rfl, HA, HJ1, BK617, HB⟩ := hcut
    cases kq with
    | zero => exact absurd HA.out (by simp [mapsheetslaw24_DeviceAll.j0])
    | succ kj1 =>
      have H := HA.out
      clear HA
      simp only [mapsheetslaw24_DeviceAll.j0] at H
      by_cases c11 : x14_1 = true
      · subst c11
        have H1 : ((mapsheetslaw24_awake.f).bind fun t619 => (some t619)) = some r := by rw [if_pos rfl] at H; exact H
        clear H
        have H := H1
        clear H1
        replace H := Option.bind_eq_some_iff.mp H
        obtain ⟨t619, A120, H⟩ := H
        replace H : (some t619) = some r := H
        have A12 := Aside0.mk A120
        clear A120
        obtain rfl := Option.some.inj H
        go_wp2_with (first | ((with_reducible refine gate_callee (f := 12) rfl ?_); refine goesL_ (some 15) rfl rfl Try.func12 (by kernel_rfl) rfl #[] rfl (by (try simp only [List.map_toArray, List.map_cons, List.map_nil]); first | done | rfl | (simp only [List.length_drop, List.length_take]; rfl)) ?_; (with_reducible refine (mapsheetslaw24_awake.calls  t619 _ A12.out).mono ?_); rintro e w13 ⟨rfl, hb⟩; refine ⟨_, rfl, ?_⟩; have n0_ := Aside0.mk (blk_below (g := gb617) (o := .cells #[.slice A0_0 l0_0.length c0_0, .slice A0_1 l0_1.length c0_1, .int .i64 a0_2, .bool a0_3] 25 (0, 0)) (by (with_reducible repeat (first | refine blk_drewN ?_ _ | refine blk_drew ?_ | refine blk_alloc ?_ _)); exact BK617.out) hb); have n1_ := Aside0.mk (below_step (by repeat (first | (with_reducible first | exact HB.out | apply below_alloc | apply pw_below_drewN | apply below_drew1 | refine below_set ?_ GE617.out) | exact HB.out)) hb); clear BK617; clear HB; have BK617 := n0_; have HB := n1_; clear n0_ n1_; (try clear hb); (try clear hb2); (try clear hk); (try clear hi)))
        go_ret
        exact ⟨by first | rfl | (simp [errW_none, errW_some] <;> rfl) | (simp [*, errW_none, errW_some] <;> rfl), by repeat (first | (with_reducible first | exact HB.out | apply below_alloc | apply pw_below_drewN | apply below_drew1 | refine below_set ?_ GE617.out) | exact HB.out)⟩
      · replace c11 := Bool.eq_false_iff.mpr c11
        subst c11
        have H1 : (mapsheetslaw24_DeviceAll.l0 kj1 ([] : List Int) (wrap64 ((l0_1.length : Int) - 1)) l0_0 l0_1 a0_2 a0_3) = some r := by rw [if_neg (show ¬ (false = true) by decide)] at H; exact H
        clear H
        have H := H1
        clear H1
        have H' := Aside0.mk H
        clear H
        have hcz14_0 : wc.cell? ⟨gb617, 0, none⟩ = some (.slice A0_0 l0_0.length c0_0) := (blk_cell BK617.out 0).trans rfl
        have hcz14_1 : wc.cell? ⟨gb617, 1, none⟩ = some (.slice A0_1 l0_1.length c0_1) := (blk_cell BK617.out 1).trans rfl
        have hcz14_2 : wc.cell? ⟨gb617, 2, none⟩ = some (.int .i64 a0_2) := (blk_cell BK617.out 2).trans rfl
        have hcz14_3 : wc.cell? ⟨gb617, 3, none⟩ = some (.bool a0_3) := (blk_cell BK617.out 3).trans rfl
        have hfz14_0 := blk_frozen BK617.out 0
        have hfz14_1 := blk_frozen BK617.out 1
        have hfz14_2 := blk_frozen BK617.out 2
        have hfz14_3 := blk_frozen BK617.out 3
        go_wp2
        go_loopg [3, 4] kj1 (fun kq v3 v4 w' => ∃ (x3_2 : List Int) (x4_2 : Int), v4 = .int .i64 x4_2 ∧ Aside0 (mapsheetslaw24_DeviceAll.l0 kq x3_2 x4_2 l0_0 l0_1 a0_2 a0_3 = some r) ∧ Aside0 (kq ≤ kj1) ∧ Aside0 (Kd.R (Kd.int .i64) 3 w' w.heap.size (fun _ => True) v3 x3_2) ∧ Aside0 (w'.heap[gb617]? = some (.cells #[(.slice A0_0 l0_0.length c0_0), (.slice A0_1 l0_1.length c0_1), .int .i64 a0_2, .bool a0_3] 25 (0, 0))) ∧ Aside0 (Below w.heap.size w w'))
        case atStart => exact ⟨(([] : List Int)), (wrap64 ((l0_1.length : Int) - 1)), (by first | rfl | (simp; done) | (simp [*]; done)), H', ⟨Nat.le_refl _⟩, ⟨by first | exact Kd.R_nil _ _ _ _ _ | exact Kd.N_nil _ _ _ _ _ | exact Kd.V_nil _ _ _ _ _ | exact Kd.Q_nil _ _ _ _ _ | exact Kd.S_nil _ _ _ _ _⟩, ⟨by (with_reducible repeat (first | refine blk_drewN ?_ _ | refine blk_drew ?_ | refine blk_alloc ?_ _)); exact BK617.out⟩, ⟨by repeat (first | (with_reducible first | exact HB.out | apply below_alloc | apply pw_below_drewN | apply below_drew1 | refine below_set ?_ GE617.out) | exact HB.out)⟩⟩
        case round =>
          clear H'
          try clear c1
          try clear p2
          try clear c5
          try clear p6
          try clear c10
          try clear c11
          try clear c12
          try clear hcz14_0
          try clear hcz14_1
          try clear hcz14_2
          try clear hcz14_3
          try clear hcz6_0
          try clear hcz6_1
          try clear hcz6_2
          try clear hcz6_3
          try clear hcz8_0
          try clear hcz8_1
          try clear hcz8_2
          try clear hcz8_3
          try clear hcz9_0
          try clear hcz9_1
          try clear hcz9_2
          try clear hcz9_3
          try clear hfz14_0
          try clear hfz14_1
          try clear hfz14_2
          try clear hfz14_3
          try clear hfz6_0
          try clear hfz6_1
          try clear hfz6_2
          try clear hfz6_3
          try clear hfz8_0
          try clear hfz8_1
          try clear hfz8_2
          try clear hfz8_3
          try clear hfz9_0
          try clear hfz9_1
          try clear hfz9_2
          try clear hfz9_3
          try clear p2
          obtain ⟨x3_2, x4_2, rfl, HA, HK2, HO_3, BK617, HB⟩ := hrel
          cases gk with
          | zero => exact absurd HA.out (by simp [mapsheetslaw24_DeviceAll.l0])
          | succ k2 =>
            have H := HA.out
            clear HA
            simp only [mapsheetslaw24_DeviceAll.l0] at H
            by_cases c15 : x4_2 ≥ 0
            · rw [if_pos c15] at H
              have c15b0 : decide (0 ≤ x4_2) = true := decide_eq_true c15
              clear c15
              obtain ⟨y620, hy620⟩ : ∃ y_ : List Int, y_ = (([x4_2, x4_2] : List Int)) := ⟨_, rfl⟩
              replace H : (if x3_2.length + y620.length < 17592186044416 then (mapsheetslaw24_DeviceAll.l0 k2 (x3_2 ++ y620) (wrap64 (x4_2 - 1)) l0_0 l0_1 a0_2 a0_3) else (none)) = some r := by first | (rw [hy620]; with_reducible exact H) | (have H2_ := (Option.bind_some _ _).symm.trans H; rw [hy620]; with_reducible exact H2_) | (have H2_ := (Option.bind_some _ _).symm.trans H; with_reducible exact H2_) | with_reducible exact H | (rw [hy620]; exact H) | exact H
              have Ny620 := Aside0.mk hy620
              clear hy620
              by_cases c16 : x3_2.length + y620.length < 17592186044416
              · rw [if_pos c16] at H
                have LMc16 := Aside0.mk c16
                clear c16
                obtain ⟨y623, hy623⟩ : ∃ y_ : List Int, y_ = (x3_2 ++ y620) := ⟨_, rfl⟩
                replace H : (mapsheetslaw24_DeviceAll.l0 k2 y623 (wrap64 (x4_2 - 1)) l0_0 l0_1 a0_2 a0_3) = some r := by first | (rw [hy623]; with_reducible exact H) | (have H2_ := (Option.bind_some _ _).symm.trans H; rw [hy623]; with_reducible exact H2_) | (have H2_ := (Option.bind_some _ _).symm.trans H; with_reducible exact H2_) | with_reducible exact H | (rw [hy623]; exact H) | exact H
                have Ny623 := Aside0.mk hy623
                clear hy623
                have H' := Aside0.mk H
                clear H
                go_wp2_with (first | ((with_reducible refine gate_dst (N := 27) rfl ?_); (try (refine gate_guard (by rfl) ?_; dsimp only)); refine Kd.R_lit (Kd.int .i64) _ 3 ?hg (N := 27) ?hd (xs := ([x4_2, x4_2] : List Int)) (inner := [.int .i64 x4_2, .int .i64 x4_2]) (ok := fun _ => True) (okp := fun _ => True) ?hr ?hp (fun _ hk => hk) trivial (Below.refl _ _) (Nat.le_refl _) (by simp) ?_; (case hd => rfl); (case hg => rfl); (case hr => first | (go_simp; done) | (go_simp; rfl)); (case hp => exact (Reps.one (show Kd.M (Kd.int .i64) _ _ _ x4_2 [.int .i64 x4_2] from rfl) (Reps.one (show Kd.M (Kd.int .i64) _ _ _ x4_2 [.int .i64 x4_2] from rfl) (Reps.none _ _)))); intro v621 w17 ho18 hb hg_ hnew_; clear hg_ hnew_; (first | rw [← Ny620.out] at ho18 | (simp only [Int.reduceToNat] at ho18; rw [← Ny620.out] at ho18)); have n0_ := Aside0.mk (Kd.R_elder' (by (with_reducible repeat (first | apply Kd.R_alloc | apply Kd.R_drewN | apply Kd.R_drew)); exact HO_3.out) (Kd.R_base ho18) hb); have n1_ := Aside0.mk (Kd.R_lower (Kd.R_new' ho18 (Kd.R_lt (by (with_reducible repeat (first | apply Kd.R_alloc | apply Kd.R_drewN | apply Kd.R_drew)); exact HO_3.out))) (below_size (by repeat (first | (with_reducible first | exact HB.out | apply below_alloc | apply pw_below_drewN | apply below_drew1 | refine below_set ?_ GE617.out) | exact HB.out)))); have n2_ := Aside0.mk (blk_below (g := gb617) (o := .cells #[.slice A0_0 l0_0.length c0_0, .slice A0_1 l0_1.length c0_1, .int .i64 a0_2, .bool a0_3] 25 (0, 0)) (by (with_reducible repeat (first | refine blk_drewN ?_ _ | refine blk_drew ?_ | refine blk_alloc ?_ _)); exact BK617.out) hb); have n3_ := Aside0.mk (below_step (by repeat (first | (with_reducible first | exact HB.out | apply below_alloc | apply pw_below_drewN | apply below_drew1 | refine below_set ?_ GE617.out) | exact HB.out)) hb); clear HO_3; clear BK617; clear HB; have HO_3 := n0_; have HO622 := n1_; have BK617 := n2_; have HB := n3_; clear n0_ n1_ n2_ n3_; clear hb ho18; obtain ⟨Ao20, co20, eo20⟩ := Kd.R_slice HO622.out; subst eo20) | ((with_reducible refine gate_builtin (b := .append) (xs := #[.tmp 24, .tmp 27]) rfl ?_); (try (refine gate_guard (by rfl) ?_; dsimp only)); at_builtin; refine Kd.R_append_rows (Kd.int .i64) (w0 := w) w.heap.size rfl (.tmp 24) (.tmp 27) 38 3 (.int .i64 0) 8 rfl Try.underlying38 info3 rfl (by decide) (by omega) u3 x3_2 y620 _ _ _ (fun k_ => some k_ ≠ (.slice Ao20 y620.length co20 : Value).ownBlock) (fun _ => False) rfl rfl ?aO ?aR (fun _ _ h => h) (fun _ h => h.elim) ?aF ?aB ?aS ?aL ?_; (case aR => repeat (first | exact (Kd.R_reads' HO622.out).2.2 | (with_reducible refine Kd.C_alloc ?_ _) | (with_reducible refine Kd.C_drewN ?_ _) | (with_reducible refine Kd.C_drew ?_))); (case aB => exact (by repeat (first | (with_reducible first | exact HB.out | apply below_alloc | apply pw_below_drewN | apply below_drew1 | refine below_set ?_ GE617.out) | exact HB.out))); (case aF => exact (fun k_ hk => Kd.fresh' (Kd.R_lt (by (with_reducible repeat (first | apply Kd.R_alloc | apply Kd.R_drewN | apply Kd.R_drew)); exact HO622.out)) k_ hk)); (case aO => exact (by (with_reducible repeat (first | apply Kd.R_alloc | apply Kd.R_drewN | apply Kd.R_drew)); exact Kd.R_mono HO_3.out (fun _ hk => hk.2))); (case aS => exact (below_size (by repeat (first | (with_reducible first | exact HB.out | apply below_alloc | apply pw_below_drewN | apply below_drew1 | refine below_set ?_ GE617.out) | exact HB.out)))); (case aL => have := LMc16.out; omega); intro v624 w19 ho hb hg hat; rw [← Ny623.out] at ho; have n0_ := Aside0.mk (blk_grown (g := gb617) (o := .cells #[.slice A0_0 l0_0.length c0_0, .slice A0_1 l0_1.length c0_1, .int .i64 a0_2, .bool a0_3] 25 (0, 0)) (by (with_reducible repeat (first | refine blk_drewN ?_ _ | refine blk_drew ?_ | refine blk_alloc ?_ _)); exact BK617.out) hg (Kd.R_ne HO_3.out BK617.out (by decide))); have n1_ := Aside0.mk (Kd.R_after (ok := (fun _ => True)) (by (with_reducible repeat (first | apply Kd.R_alloc | apply Kd.R_drewN | apply Kd.R_drew)); exact HO622.out) hg hat); have n2_ := Aside0.mk (hb); have n3_ := Aside0.mk (ho); clear BK617; clear HO622; clear HB; clear HO_3; have BK617 := n0_; have HO622 := n1_; have HB := n2_; have HO625 := n3_; clear n0_ n1_ n2_ n3_; clear ho hb hg hat))
                go_roundg k2
                case measure => have := HJ1.out; have := HK2.out; omega
                case rel => exact ⟨(y623), (wrap64 (x4_2 - 1)), (by first | rfl | (simp; done) | (simp [*]; done)), H', ⟨by have := HJ1.out; have := HK2.out; omega⟩, ⟨by (with_reducible repeat (first | apply Kd.R_alloc | apply Kd.R_drewN | apply Kd.R_drew)); exact Kd.R_mono HO625.out (fun _ hk => trivial)⟩, ⟨by (with_reducible repeat (first | refine blk_drewN ?_ _ | refine blk_drew ?_ | refine blk_alloc ?_ _)); exact BK617.out⟩, ⟨by repeat (first | (with_reducible first | exact HB.out | apply below_alloc | apply pw_below_drewN | apply below_drew1 | refine below_set ?_ GE617.out) | exact HB.out)⟩⟩
              · rw [if_neg c16] at H
                exact absurd H (by simp)
            · rw [if_neg c15] at H
              have c15b0 : decide (0 ≤ x4_2) = false := decide_eq_false c15
              clear c15
              replace H := Option.bind_eq_some_iff.mp H
              obtain ⟨⟨t626, t629, t632, t633, t634⟩, A210, H⟩ := H
              replace H : ((device_Crash.f k2 l0_0 l0_1 a0_2 a0_3 x3_2).bind fun bt636 => (if t634 = 0 then ((mapsheetsref24_SameSectors.f k2 t626 bt636.1).bind fun t645 => (if t645 = true then (if (bt636.2.1.length : Int) = 0 then ((mapsheetslaw24_same.f k2 l0_0 l0_1 a0_2 a0_3 bt636.1 bt636.2.1 bt636.2.2.1 bt636.2.2.2 (-1)).bind fun t646 => (if t646 = true then ((mapsheetslaw24_awake.f).bind fun t647 => (some t647)) else (none))) else (none)) else (none))) else (none))) = some r := H
              have A21 := Aside0.mk A210
              clear A210
              replace H := Option.bind_eq_some_iff.mp H
              obtain ⟨⟨t636, t639, t642, t643⟩, A220, H⟩ := H
              replace H : (if t634 = 0 then ((mapsheetsref24_SameSectors.f k2 t626 t636).bind fun t645 => (if t645 = true then (if (t639.length : Int) = 0 then ((mapsheetslaw24_same.f k2 l0_0 l0_1 a0_2 a0_3 t636 t639 t642 t643 (-1)).bind fun t646 => (if t646 = true then ((mapsheetslaw24_awake.f).bind fun t647 => (some t647)) else (none))) else (none)) else (none))) else (none)) = some r := H
              have A22 := Aside0.mk A220
              clear A220
              by_cases c23 : t634 = 0
              · rw [if_pos c23] at H
                have c23b0 : (t634 == 0) = true := beq_iff_eq.mpr c23
                have c23b1 : (t634 != 0) = false := bne_eq_false_iff_eq.mpr c23
                clear c23
                replace H := Option.bind_eq_some_iff.mp H
                obtain ⟨t645, A240, H⟩ := H
                replace H : (if t645 = true then (if (t639.length : Int) = 0 then ((mapsheetslaw24_same.f k2 l0_0 l0_1 a0_2 a0_3 t636 t639 t642 t643 (-1)).bind fun t646 => (if t646 = true then ((mapsheetslaw24_awake.f).bind fun t647 => (some t647)) else (none))) else (none)) else (none)) = some r := H
                have A24 := Aside0.mk A240
                clear A240
                by_cases c25 : t645 = true
                · subst c25
                  have H1 : (if (t639.length : Int) = 0 then ((mapsheetslaw24_same.f k2 l0_0 l0_1 a0_2 a0_3 t636 t639 t642 t643 (-1)).bind fun t646 => (if t646 = true then ((mapsheetslaw24_awake.f).bind fun t647 => (some t647)) else (none))) else (none)) = some r := by rw [if_pos rfl] at H; exact H
                  clear H
                  have H := H1
                  clear H1
                  by_cases c26 : (t639.length : Int) = 0
                  · rw [if_pos c26] at H
                    have c26b0 : ((t639.length : Int) == 0) = true := beq_iff_eq.mpr c26
                    have c26b1 : ((t639.length : Int) != 0) = false := bne_eq_false_iff_eq.mpr c26
                    clear c26
                    replace H := Option.bind_eq_some_iff.mp H
                    obtain ⟨t646, A270, H⟩ := H
                    replace H : (if t646 = true then ((mapsheetslaw24_awake.f).bind fun t647 => (some t647)) else (none)) = some r := H
                    have A27 := Aside0.mk A270
                    clear A270
                    by_cases c28 : t646 = true
                    · subst c28
                      have H1 : ((mapsheetslaw24_awake.f).bind fun t647 => (some t647)) = some r := by rw [if_pos rfl] at H; exact H
                      clear H
                      have H := H1
                      clear H1
                      replace H := Option.bind_eq_some_iff.mp H
                      obtain ⟨t647, A290, H⟩ := H
                      replace H : (some t647) = some r := H
                      have A29 := Aside0.mk A290
                      clear A290
                      obtain rfl := Option.some.inj H
                      have hcz30_0 : wr.cell? ⟨gb617, 0, none⟩ = some (.slice A0_0 l0_0.length c0_0) := (blk_cell BK617.out 0).trans rfl
                      have hcz30_1 : wr.cell? ⟨gb617, 1, none⟩ = some (.slice A0_1 l0_1.length c0_1) := (blk_cell BK617.out 1).trans rfl
                      have hcz30_2 : wr.cell? ⟨gb617, 2, none⟩ = some (.int .i64 a0_2) := (blk_cell BK617.out 2).trans rfl
                      have hcz30_3 : wr.cell? ⟨gb617, 3, none⟩ = some (.bool a0_3) := (blk_cell BK617.out 3).trans rfl
                      have hfz30_0 := blk_frozen BK617.out 0
                      have hfz30_1 := blk_frozen BK617.out 1
                      have hfz30_2 := blk_frozen BK617.out 2
                      have hfz30_3 := blk_frozen BK617.out 3
                      go_wp2_with (first | ((with_reducible refine gate_callee (f := 21) rfl ?_); refine goesL_ (some 31) rfl rfl Try.func21 (by kernel_rfl) rfl #[.agg #[.slice A0_0 l0_0.length c0_0, .slice A0_1 l0_1.length c0_1, .int .i64 a0_2, .bool a0_3]] rfl (by (try simp only [List.map_toArray, List.map_cons, List.map_nil]); first | done | rfl | (simp only [List.length_drop, List.length_take]; rfl)) ?_; (with_reducible refine (device_Flush.calls k2 _ _ l0_0 _ _ l0_1 a0_2 a0_3 t626 t629 t632 t633 t634 _ ?side1 ?side2 ?side3 ?side4 A21.out).mono ?_); (case side1 => repeat (first | exact (Kd.C_below HR0_0.out HB.out) | (with_reducible refine Kd.C_alloc ?_ _) | (with_reducible refine Kd.C_drewN ?_ _) | (with_reducible refine Kd.C_drew ?_))); (case side2 => exact HC0_0.out); (case side3 => repeat (first | exact (Kd.C_below HR0_1.out HB.out) | (with_reducible refine Kd.C_alloc ?_ _) | (with_reducible refine Kd.C_drewN ?_ _) | (with_reducible refine Kd.C_drew ?_))); (case side4 => exact HC0_1.out); rintro e w31 ⟨v627, v630, rfl, ho0, ho1, hb⟩; refine ⟨_, rfl, ?_⟩; have n0_ := Aside0.mk (Kd.R_below (by (with_reducible repeat (first | apply Kd.R_alloc | apply Kd.R_drewN | apply Kd.R_drew)); exact HO_3.out) hb); have n1_ := Aside0.mk (Kd.N_lower (Kd.N_mono (ok' := fun k_ => some k_ ≠ (v630 : Value).ownBlock ∧ some k_ ≠ (u3 : Value).ownBlock ∧ k_ ≠ gb617) ho0 (fun k_ hk_ => ⟨hk_.2, (Kd.fresh' (Kd.R_lt (by (with_reducible repeat (first | apply Kd.R_alloc | apply Kd.R_drewN | apply Kd.R_drew)); exact HO_3.out)) k_ hk_.1), (Kd.freshB (g := gb617) (o := .cells #[.slice A0_0 l0_0.length c0_0, .slice A0_1 l0_1.length c0_1, .int .i64 a0_2, .bool a0_3] 25 (0, 0)) (by (with_reducible repeat (first | refine blk_drewN ?_ _ | refine blk_drew ?_ | refine blk_alloc ?_ _)); exact BK617.out) k_ hk_.1)⟩)) (below_size (by repeat (first | (with_reducible first | exact HB.out | apply below_alloc | apply pw_below_drewN | apply below_drew1 | refine below_set ?_ GE617.out) | exact HB.out)))); have n2_ := Aside0.mk (Kd.N_lower (Kd.N_mono (ok' := fun k_ => some k_ ≠ (v627 : Value).ownBlock ∧ some k_ ≠ (u3 : Value).ownBlock ∧ k_ ≠ gb617) ho1 (fun k_ hk_ => ⟨hk_.2, (Kd.fresh' (Kd.R_lt (by (with_reducible repeat (first | apply Kd.R_alloc | apply Kd.R_drewN | apply Kd.R_drew)); exact HO_3.out)) k_ hk_.1), (Kd.freshB (g := gb617) (o := .cells #[.slice A0_0 l0_0.length c0_0, .slice A0_1 l0_1.length c0_1, .int .i64 a0_2, .bool a0_3] 25 (0, 0)) (by (with_reducible repeat (first | refine blk_drewN ?_ _ | refine blk_drew ?_ | refine blk_alloc ?_ _)); exact BK617.out) k_ hk_.1)⟩)) (below_size (by repeat (first | (with_reducible first | exact HB.out | apply below_alloc | apply pw_below_drewN | apply below_drew1 | refine below_set ?_ GE617.out) | exact HB.out)))); have n3_ := Aside0.mk (blk_below (g := gb617) (o := .cells #[.slice A0_0 l0_0.length c0_0, .slice A0_1 l0_1.length c0_1, .int .i64 a0_2, .bool a0_3] 25 (0, 0)) (by (with_reducible repeat (first | refine blk_drewN ?_ _ | refine blk_drew ?_ | refine blk_alloc ?_ _)); exact BK617.out) hb); have n4_ := Aside0.mk (below_step (by repeat (first | (with_reducible first | exact HB.out | apply below_alloc | apply pw_below_drewN | apply below_drew1 | refine below_set ?_ GE617.out) | exact HB.out)) hb); clear HO_3; clear BK617; clear HB; have HO_3 := n0_; have HO628 := n1_; have HO631 := n2_; have BK617 := n3_; have HB := n4_; clear n0_ n1_ n2_ n3_ n4_; (try clear hb); (try clear hb2); (try clear hk); (try clear hi); (try clear ho0); (try clear ho1)) | ((with_reducible refine gate_dst (N := 5) rfl ?_); (try (refine gate_guard (by rfl) ?_; dsimp only)); refine box_event ?hg (N := 5) ?hd (cs := #[.slice none 0 0, .slice none 0 0, .int .i64 0, .bool false]) (t := 25) ?hr ?_; (case hd => rfl); (case hg => rfl); (case hr => first | (go_simp; done) | (go_simp; rfl)); intro gb635 hg w32 hbox hb; have n0_ := Aside0.mk (Kd.R_below (by (with_reducible repeat (first | apply Kd.R_alloc | apply Kd.R_drewN | apply Kd.R_drew)); exact HO_3.out) hb); have n1_ := Aside0.mk (Kd.N_below (Kd.N_elderB (by (with_reducible repeat (first | apply Kd.N_alloc | apply Kd.N_drewN | apply Kd.N_drew)); exact HO628.out) gb635 (Nat.le_of_eq hg.symm)) hb); have n2_ := Aside0.mk (Kd.N_below (Kd.N_elderB (by (with_reducible repeat (first | apply Kd.N_alloc | apply Kd.N_drewN | apply Kd.N_drew)); exact HO631.out) gb635 (Nat.le_of_eq hg.symm)) hb); have n3_ := Aside0.mk (blk_below (g := gb617) (o := .cells #[.slice A0_0 l0_0.length c0_0, .slice A0_1 l0_1.length c0_1, .int .i64 a0_2, .bool a0_3] 25 (0, 0)) (by (with_reducible repeat (first | refine blk_drewN ?_ _ | refine blk_drew ?_ | refine blk_alloc ?_ _)); exact BK617.out) hb); have n4_ := Aside0.mk (below_step (by repeat (first | (with_reducible first | exact HB.out | apply below_alloc | apply pw_below_drewN | apply below_drew1 | refine below_set ?_ GE617.out) | exact HB.out)) hb); have n5_ := Aside0.mk (hbox); have n6_ := Aside0.mk ((by rw [hg]; exact (below_size (by repeat (first | (with_reducible first | exact HB.out | apply below_alloc | apply pw_below_drewN | apply below_drew1 | refine below_set ?_ GE617.out) | exact HB.out))) : w.heap.size ≤ gb635)); have n7_ := Aside0.mk ((by rw [hg]; exact (below_size (by repeat (first | (with_reducible first | exact HB.out | apply below_alloc | apply pw_below_drewN | apply below_drew1 | refine below_set ?_ GE617.out) | exact HB.out))) : w.heap.size ≤ gb635)); have n8_ := Aside0.mk ((by rw [hg]; exact Nat.ne_of_lt (blk_lt (g := gb617) (o := .cells #[.slice A0_0 l0_0.length c0_0, .slice A0_1 l0_1.length c0_1, .int .i64 a0_2, .bool a0_3] 25 (0, 0)) (by (with_reducible repeat (first | refine blk_drewN ?_ _ | refine blk_drew ?_ | refine blk_alloc ?_ _)); exact BK617.out)) : gb617 ≠ gb635)); have n9_ := Aside0.mk ((by rw [hg]; exact Nat.ne_of_gt (blk_lt (g := gb617) (o := .cells #[.slice A0_0 l0_0.length c0_0, .slice A0_1 l0_1.length c0_1, .int .i64 a0_2, .bool a0_3] 25 (0, 0)) (by (with_reducible repeat (first | refine blk_drewN ?_ _ | refine blk_drew ?_ | refine blk_alloc ?_ _)); exact BK617.out)) : gb635 ≠ gb617)); clear HO_3; clear HO628; clear HO631; clear BK617; clear HB; have HO_3 := n0_; have HO628 := n1_; have HO631 := n2_; have BK617 := n3_; have HB := n4_; have BK635 := n5_; have GW635 := n6_; have GE635 := n7_; have NB617_635 := n8_; have NB635_617 := n9_; clear n0_ n1_ n2_ n3_ n4_ n5_ n6_ n7_ n8_ n9_; clear hb hbox hg; obtain ⟨Ao33, co33, eo33⟩ := Kd.N_slice HO628.out; subst eo33; have hnb34 := NB635_617.out; have hnc34 := NB617_635.out; have hcz35_0 : w32.cell? ⟨gb635, 0, none⟩ = some (.slice none 0 0) := (blk_cell BK635.out 0).trans rfl; have hcz35_1 : w32.cell? ⟨gb635, 1, none⟩ = some (.slice none 0 0) := (blk_cell BK635.out 1).trans rfl; have hcz35_2 : w32.cell? ⟨gb635, 2, none⟩ = some (.int .i64 0) := (blk_cell BK635.out 2).trans rfl; have hcz35_3 : w32.cell? ⟨gb635, 3, none⟩ = some (.bool false) := (blk_cell BK635.out 3).trans rfl; have hfz35_0 := blk_frozen BK635.out 0; have hfz35_1 := blk_frozen BK635.out 1; have hfz35_2 := blk_frozen BK635.out 2; have hfz35_3 := blk_frozen BK635.out 3; obtain ⟨Ao36, co36, eo36⟩ := Kd.N_slice HO631.out; subst eo36; have hcz37_0 : w32.cell? ⟨gb617, 0, none⟩ = some (.slice A0_0 l0_0.length c0_0) := (blk_cell BK617.out 0).trans rfl; have hcz37_1 : w32.cell? ⟨gb617, 1, none⟩ = some (.slice A0_1 l0_1.length c0_1) := (blk_cell BK617.out 1).trans rfl; have hcz37_2 : w32.cell? ⟨gb617, 2, none⟩ = some (.int .i64 a0_2) := (blk_cell BK617.out 2).trans rfl; have hcz37_3 : w32.cell? ⟨gb617, 3, none⟩ = some (.bool a0_3) := (blk_cell BK617.out 3).trans rfl; have hfz37_0 := blk_frozen BK617.out 0; have hfz37_1 := blk_frozen BK617.out 1; have hfz37_2 := blk_frozen BK617.out 2; have hfz37_3 := blk_frozen BK617.out 3; obtain ⟨Ao38, co38, eo38⟩ := Kd.R_slice HO_3.out; subst eo38) | ((with_reducible refine gate_callee (f := 25) rfl ?_); refine goesL_ (some 36) rfl rfl Try.func25 (by kernel_rfl) rfl #[.agg #[.slice A0_0 l0_0.length c0_0, .slice A0_1 l0_1.length c0_1, .int .i64 a0_2, .bool a0_3], .slice Ao38 x3_2.length co38] rfl (by (try simp only [List.map_toArray, List.map_cons, List.map_nil]); first | done | rfl | (simp only [List.length_drop, List.length_take]; rfl)) ?_; (with_reducible refine (device_Crash.calls k2 _ _ l0_0 _ _ l0_1 a0_2 a0_3 _ _ x3_2 t636 t639 t642 t643 _ ?side1 ?side2 ?side3 ?side4 ?side5 ?side6 A22.out).mono ?_); (case side1 => exact Kd.C_below HR0_0.out (by repeat (first | (with_reducible first | exact HB.out | apply below_alloc | apply pw_below_drewN | apply below_drew1 | refine below_set ?_ GE617.out | refine below_set ?_ GE635.out) | exact HB.out))); (case side2 => exact HC0_0.out); (case side3 => exact Kd.C_below HR0_1.out (by repeat (first | (with_reducible first | exact HB.out | apply below_alloc | apply pw_below_drewN | apply below_drew1 | refine below_set ?_ GE617.out | refine below_set ?_ GE635.out) | exact HB.out))); (case side4 => exact HC0_1.out); (case side5 => refine (Kd.R_reads' (e := 3) (base := w.heap.size) (ok := fun k_ => True) (n := x3_2.length) (c := co38) ?_).2.2; exact (by (with_reducible repeat (first | apply Kd.R_alloc | apply Kd.R_drewN | apply Kd.R_drew)); exact (Kd.R_mono (Kd.R_far (p := ⟨gb635, 3, none⟩) (Kd.R_far (p := ⟨gb635, 2, none⟩) (Kd.R_far (p := ⟨gb635, 1, none⟩) (Kd.R_far (p := ⟨gb635, 0, none⟩) (Kd.R_types HO_3.out BK635.out (by decide)) (fun _ hk => hk.2) (.slice Ao33 t626.length co33)) (fun _ hk => hk.2) (.slice Ao36 t629.length co36)) (fun _ hk => hk.2) (.int .i64 t632)) (fun _ hk => hk.2) (.bool t633)) (fun _ h_ => h_.1)))); (case side6 => exact (Kd.R_reads' HO_3.out).2.1); rintro e w39 ⟨v637, v640, rfl, ho0, ho1, hb⟩; refine ⟨_, rfl, ?_⟩; have n0_ := Aside0.mk (Kd.R_below (by (with_reducible repeat (first | apply Kd.R_alloc | apply Kd.R_drewN | apply Kd.R_drew)); exact (Kd.R_mono (Kd.R_far (p := ⟨gb635, 3, none⟩) (Kd.R_far (p := ⟨gb635, 2, none⟩) (Kd.R_far (p := ⟨gb635, 1, none⟩) (Kd.R_far (p := ⟨gb635, 0, none⟩) (Kd.R_types HO_3.out BK635.out (by decide)) (fun _ hk => hk.2) (.slice Ao33 t626.length co33)) (fun _ hk => hk.2) (.slice Ao36 t629.length co36)) (fun _ hk => hk.2) (.int .i64 t632)) (fun _ hk => hk.2) (.bool t633)) (fun _ h_ => h_.1))) hb); have n1_ := Aside0.mk (Kd.N_mono (Kd.N_told (Kd.N_told (Kd.N_old (by (with_reducible repeat (first | apply Kd.N_alloc | apply Kd.N_drewN | apply Kd.N_drew)); exact (Kd.N_mono (Kd.N_far (p := ⟨gb635, 3, none⟩) (Kd.N_far (p := ⟨gb635, 2, none⟩) (Kd.N_far (p := ⟨gb635, 1, none⟩) (Kd.N_far (p := ⟨gb635, 0, none⟩) (Kd.N_mono HO628.out (fun k_ hk => (⟨hk, hk.2⟩ : _ ∧ k_ ≠ gb635))) (fun _ hk => hk.2) (.slice Ao33 t626.length co33)) (fun _ hk => hk.2) (.slice Ao36 t629.length co36)) (fun _ hk => hk.2) (.int .i64 t632)) (fun _ hk => hk.2) (.bool t633)) (fun _ h_ => h_.1))) hb) (by first | exact Kd.N_base ho0 | exact Kd.S_base ho0)) (by first | exact Kd.N_base ho1 | exact Kd.S_base ho1)) (fun _ h_ => h_.1)); have n2_ := Aside0.mk (Kd.N_mono (Kd.N_told (Kd.N_told (Kd.N_old (by (with_reducible repeat (first | apply Kd.N_alloc | apply Kd.N_drewN | apply Kd.N_drew)); exact (Kd.N_mono (Kd.N_far (p := ⟨gb635, 3, none⟩) (Kd.N_far (p := ⟨gb635, 2, none⟩) (Kd.N_far (p := ⟨gb635, 1, none⟩) (Kd.N_far (p := ⟨gb635, 0, none⟩) (Kd.N_mono HO631.out (fun k_ hk => (⟨hk, hk.2⟩ : _ ∧ k_ ≠ gb635))) (fun _ hk => hk.2) (.slice Ao33 t626.length co33)) (fun _ hk => hk.2) (.slice Ao36 t629.length co36)) (fun _ hk => hk.2) (.int .i64 t632)) (fun _ hk => hk.2) (.bool t633)) (fun _ h_ => h_.1))) hb) (by first | exact Kd.N_base ho0 | exact Kd.S_base ho0)) (by first | exact Kd.N_base ho1 | exact Kd.S_base ho1)) (fun _ h_ => h_.1)); have n3_ := Aside0.mk (Kd.N_lower (Kd.N_mono (ok' := fun k_ => some k_ ≠ (v640 : Value).ownBlock ∧ some k_ ≠ (.slice Ao38 x3_2.length co38 : Value).ownBlock ∧ some k_ ≠ (.slice Ao33 t626.length co33 : Value).ownBlock ∧ some k_ ≠ (.slice Ao36 t629.length co36 : Value).ownBlock ∧ k_ ≠ gb617 ∧ k_ ≠ gb635) ho0 (fun k_ hk_ => ⟨hk_.2, (Kd.fresh' (Kd.R_lt (by (with_reducible repeat (first | apply Kd.R_alloc | apply Kd.R_drewN | apply Kd.R_drew)); exact (Kd.R_mono (Kd.R_far (p := ⟨gb635, 3, none⟩) (Kd.R_far (p := ⟨gb635, 2, none⟩) (Kd.R_far (p := ⟨gb635, 1, none⟩) (Kd.R_far (p := ⟨gb635, 0, none⟩) (Kd.R_types HO_3.out BK635.out (by decide)) (fun _ hk => hk.2) (.slice Ao33 t626.length co33)) (fun _ hk => hk.2) (.slice Ao36 t629.length co36)) (fun _ hk => hk.2) (.int .i64 t632)) (fun _ hk => hk.2) (.bool t633)) (fun _ h_ => h_.1)))) k_ hk_.1), (Kd.fresh' (Kd.N_lt (by (with_reducible repeat (first | apply Kd.N_alloc | apply Kd.N_drewN | apply Kd.N_drew)); exact (Kd.N_mono (Kd.N_far (p := ⟨gb635, 3, none⟩) (Kd.N_far (p := ⟨gb635, 2, none⟩) (Kd.N_far (p := ⟨gb635, 1, none⟩) (Kd.N_far (p := ⟨gb635, 0, none⟩) (Kd.N_mono HO628.out (fun k_ hk => (⟨hk, hk.2⟩ : _ ∧ k_ ≠ gb635))) (fun _ hk => hk.2) (.slice Ao33 t626.length co33)) (fun _ hk => hk.2) (.slice Ao36 t629.length co36)) (fun _ hk => hk.2) (.int .i64 t632)) (fun _ hk => hk.2) (.bool t633)) (fun _ h_ => h_.1)))) k_ hk_.1), (Kd.fresh' (Kd.N_lt (by (with_reducible repeat (first | apply Kd.N_alloc | apply Kd.N_drewN | apply Kd.N_drew)); exact (Kd.N_mono (Kd.N_far (p := ⟨gb635, 3, none⟩) (Kd.N_far (p := ⟨gb635, 2, none⟩) (Kd.N_far (p := ⟨gb635, 1, none⟩) (Kd.N_far (p := ⟨gb635, 0, none⟩) (Kd.N_mono HO631.out (fun k_ hk => (⟨hk, hk.2⟩ : _ ∧ k_ ≠ gb635))) (fun _ hk => hk.2) (.slice Ao33 t626.length co33)) (fun _ hk => hk.2) (.slice Ao36 t629.length co36)) (fun _ hk => hk.2) (.int .i64 t632)) (fun _ hk => hk.2) (.bool t633)) (fun _ h_ => h_.1)))) k_ hk_.1), (Kd.freshB (g := gb617) (o := .cells #[.slice A0_0 l0_0.length c0_0, .slice A0_1 l0_1.length c0_1, .int .i64 a0_2, .bool a0_3] 25 (0, 0)) (by (with_reducible repeat (first | refine blk_drewN ?_ _ | refine blk_drew ?_ | refine blk_alloc ?_ _)); refine blk_far ?_ NB617_635.out _; (with_reducible repeat (first | refine blk_drewN ?_ _ | refine blk_drew ?_ | refine blk_alloc ?_ _)); refine blk_far ?_ NB617_635.out _; (with_reducible repeat (first | refine blk_drewN ?_ _ | refine blk_drew ?_ | refine blk_alloc ?_ _)); refine blk_far ?_ NB617_635.out _; (with_reducible repeat (first | refine blk_drewN ?_ _ | refine blk_drew ?_ | refine blk_alloc ?_ _)); refine blk_far ?_ NB617_635.out _; (with_reducible repeat (first | refine blk_drewN ?_ _ | refine blk_drew ?_ | refine blk_alloc ?_ _)); exact BK617.out) k_ hk_.1), (Kd.freshB (g := gb635) (o := .cells #[.slice Ao33 t626.length co33, .slice Ao36 t629.length co36, .int .i64 t632, .bool t633] 25 (0, 0)) (by (with_reducible repeat (first | refine blk_drewN ?_ _ | refine blk_drew ?_ | refine blk_alloc ?_ _)); refine blk_put (cs := #[.slice Ao33 t626.length co33, .slice Ao36 t629.length co36, .int .i64 t632, .bool false]) ?_ 3 _ rfl; (with_reducible repeat (first | refine blk_drewN ?_ _ | refine blk_drew ?_ | refine blk_alloc ?_ _)); refine blk_put (cs := #[.slice Ao33 t626.length co33, .slice Ao36 t629.length co36, .int .i64 0, .bool false]) ?_ 2 _ rfl; (with_reducible repeat (first | refine blk_drewN ?_ _ | refine blk_drew ?_ | refine blk_alloc ?_ _)); refine blk_put (cs := #[.slice Ao33 t626.length co33, .slice none 0 0, .int .i64 0, .bool false]) ?_ 1 _ rfl; (with_reducible repeat (first | refine blk_drewN ?_ _ | refine blk_drew ?_ | refine blk_alloc ?_ _)); refine blk_put (cs := #[.slice none 0 0, .slice none 0 0, .int .i64 0, .bool false]) ?_ 0 _ rfl; (with_reducible repeat (first | refine blk_drewN ?_ _ | refine blk_drew ?_ | refine blk_alloc ?_ _)); exact BK635.out) k_ hk_.1)⟩)) (below_size (by repeat (first | (with_reducible first | exact HB.out | apply below_alloc | apply pw_below_drewN | apply below_drew1 | refine below_set ?_ GE617.out | refine below_set ?_ GE635.out) | exact HB.out)))); have n4_ := Aside0.mk (Kd.N_lower (Kd.N_mono (ok' := fun k_ => some k_ ≠ (v637 : Value).ownBlock ∧ some k_ ≠ (.slice Ao38 x3_2.length co38 : Value).ownBlock ∧ some k_ ≠ (.slice Ao33 t626.length co33 : Value).ownBlock ∧ some k_ ≠ (.slice Ao36 t629.length co36 : Value).ownBlock ∧ k_ ≠ gb617 ∧ k_ ≠ gb635) ho1 (fun k_ hk_ => ⟨hk_.2, (Kd.fresh' (Kd.R_lt (by (with_reducible repeat (first | apply Kd.R_alloc | apply Kd.R_drewN | apply Kd.R_drew)); exact (Kd.R_mono (Kd.R_far (p := ⟨gb635, 3, none⟩) (Kd.R_far (p := ⟨gb635, 2, none⟩) (Kd.R_far (p := ⟨gb635, 1, none⟩) (Kd.R_far (p := ⟨gb635, 0, none⟩) (Kd.R_types HO_3.out BK635.out (by decide)) (fun _ hk => hk.2) (.slice Ao33 t626.length co33)) (fun _ hk => hk.2) (.slice Ao36 t629.length co36)) (fun _ hk => hk.2) (.int .i64 t632)) (fun _ hk => hk.2) (.bool t633)) (fun _ h_ => h_.1)))) k_ hk_.1), (Kd.fresh' (Kd.N_lt (by (with_reducible repeat (first | apply Kd.N_alloc | apply Kd.N_drewN | apply Kd.N_drew)); exact (Kd.N_mono (Kd.N_far (p := ⟨gb635, 3, none⟩) (Kd.N_far (p := ⟨gb635, 2, none⟩) (Kd.N_far (p := ⟨gb635, 1, none⟩) (Kd.N_far (p := ⟨gb635, 0, none⟩) (Kd.N_mono HO628.out (fun k_ hk => (⟨hk, hk.2⟩ : _ ∧ k_ ≠ gb635))) (fun _ hk => hk.2) (.slice Ao33 t626.length co33)) (fun _ hk => hk.2) (.slice Ao36 t629.length co36)) (fun _ hk => hk.2) (.int .i64 t632)) (fun _ hk => hk.2) (.bool t633)) (fun _ h_ => h_.1)))) k_ hk_.1), (Kd.fresh' (Kd.N_lt (by (with_reducible repeat (first | apply Kd.N_alloc | apply Kd.N_drewN | apply Kd.N_drew)); exact (Kd.N_mono (Kd.N_far (p := ⟨gb635, 3, none⟩) (Kd.N_far (p := ⟨gb635, 2, none⟩) (Kd.N_far (p := ⟨gb635, 1, none⟩) (Kd.N_far (p := ⟨gb635, 0, none⟩) (Kd.N_mono HO631.out (fun k_ hk => (⟨hk, hk.2⟩ : _ ∧ k_ ≠ gb635))) (fun _ hk => hk.2) (.slice Ao33 t626.length co33)) (fun _ hk => hk.2) (.slice Ao36 t629.length co36)) (fun _ hk => hk.2) (.int .i64 t632)) (fun _ hk => hk.2) (.bool t633)) (fun _ h_ => h_.1)))) k_ hk_.1), (Kd.freshB (g := gb617) (o := .cells #[.slice A0_0 l0_0.length c0_0, .slice A0_1 l0_1.length c0_1, .int .i64 a0_2, .bool a0_3] 25 (0, 0)) (by (with_reducible repeat (first | refine blk_drewN ?_ _ | refine blk_drew ?_ | refine blk_alloc ?_ _)); refine blk_far ?_ NB617_635.out _; (with_reducible repeat (first | refine blk_drewN ?_ _ | refine blk_drew ?_ | refine blk_alloc ?_ _)); refine blk_far ?_ NB617_635.out _; (with_reducible repeat (first | refine blk_drewN ?_ _ | refine blk_drew ?_ | refine blk_alloc ?_ _)); refine blk_far ?_ NB617_635.out _; (with_reducible repeat (first | refine blk_drewN ?_ _ | refine blk_drew ?_ | refine blk_alloc ?_ _)); refine blk_far ?_ NB617_635.out _; (with_reducible repeat (first | refine blk_drewN ?_ _ | refine blk_drew ?_ | refine blk_alloc ?_ _)); exact BK617.out) k_ hk_.1), (Kd.freshB (g := gb635) (o := .cells #[.slice Ao33 t626.length co33, .slice Ao36 t629.length co36, .int .i64 t632, .bool t633] 25 (0, 0)) (by (with_reducible repeat (first | refine blk_drewN ?_ _ | refine blk_drew ?_ | refine blk_alloc ?_ _)); refine blk_put (cs := #[.slice Ao33 t626.length co33, .slice Ao36 t629.length co36, .int .i64 t632, .bool false]) ?_ 3 _ rfl; (with_reducible repeat (first | refine blk_drewN ?_ _ | refine blk_drew ?_ | refine blk_alloc ?_ _)); refine blk_put (cs := #[.slice Ao33 t626.length co33, .slice Ao36 t629.length co36, .int .i64 0, .bool false]) ?_ 2 _ rfl; (with_reducible repeat (first | refine blk_drewN ?_ _ | refine blk_drew ?_ | refine blk_alloc ?_ _)); refine blk_put (cs := #[.slice Ao33 t626.length co33, .slice none 0 0, .int .i64 0, .bool false]) ?_ 1 _ rfl; (with_reducible repeat (first | refine blk_drewN ?_ _ | refine blk_drew ?_ | refine blk_alloc ?_ _)); refine blk_put (cs := #[.slice none 0 0, .slice none 0 0, .int .i64 0, .bool false]) ?_ 0 _ rfl; (with_reducible repeat (first | refine blk_drewN ?_ _ | refine blk_drew ?_ | refine blk_alloc ?_ _)); exact BK635.out) k_ hk_.1)⟩)) (below_size (by repeat (first | (with_reducible first | exact HB.out | apply below_alloc | apply pw_below_drewN | apply below_drew1 | refine below_set ?_ GE617.out | refine below_set ?_ GE635.out) | exact HB.out)))); have n5_ := Aside0.mk (blk_below (g := gb617) (o := .cells #[.slice A0_0 l0_0.length c0_0, .slice A0_1 l0_1.length c0_1, .int .i64 a0_2, .bool a0_3] 25 (0, 0)) (by (with_reducible repeat (first | refine blk_drewN ?_ _ | refine blk_drew ?_ | refine blk_alloc ?_ _)); refine blk_far ?_ NB617_635.out _; (with_reducible repeat (first | refine blk_drewN ?_ _ | refine blk_drew ?_ | refine blk_alloc ?_ _)); refine blk_far ?_ NB617_635.out _; (with_reducible repeat (first | refine blk_drewN ?_ _ | refine blk_drew ?_ | refine blk_alloc ?_ _)); refine blk_far ?_ NB617_635.out _; (with_reducible repeat (first | refine blk_drewN ?_ _ | refine blk_drew ?_ | refine blk_alloc ?_ _)); refine blk_far ?_ NB617_635.out _; (with_reducible repeat (first | refine blk_drewN ?_ _ | refine blk_drew ?_ | refine blk_alloc ?_ _)); exact BK617.out) hb); have n6_ := Aside0.mk (blk_below (g := gb635) (o := .cells #[.slice Ao33 t626.length co33, .slice Ao36 t629.length co36, .int .i64 t632, .bool t633] 25 (0, 0)) (by (with_reducible repeat (first | refine blk_drewN ?_ _ | refine blk_drew ?_ | refine blk_alloc ?_ _)); refine blk_put (cs := #[.slice Ao33 t626.length co33, .slice Ao36 t629.length co36, .int .i64 t632, .bool false]) ?_ 3 _ rfl; (with_reducible repeat (first | refine blk_drewN ?_ _ | refine blk_drew ?_ | refine blk_alloc ?_ _)); refine blk_put (cs := #[.slice Ao33 t626.length co33, .slice Ao36 t629.length co36, .int .i64 0, .bool false]) ?_ 2 _ rfl; (with_reducible repeat (first | refine blk_drewN ?_ _ | refine blk_drew ?_ | refine blk_alloc ?_ _)); refine blk_put (cs := #[.slice Ao33 t626.length co33, .slice none 0 0, .int .i64 0, .bool false]) ?_ 1 _ rfl; (with_reducible repeat (first | refine blk_drewN ?_ _ | refine blk_drew ?_ | refine blk_alloc ?_ _)); refine blk_put (cs := #[.slice none 0 0, .slice none 0 0, .int .i64 0, .bool false]) ?_ 0 _ rfl; (with_reducible repeat (first | refine blk_drewN ?_ _ | refine blk_drew ?_ | refine blk_alloc ?_ _)); exact BK635.out) hb); have n7_ := Aside0.mk (below_step (by repeat (first | (with_reducible first | exact HB.out | apply below_alloc | apply pw_below_drewN | apply below_drew1 | refine below_set ?_ GE617.out | refine below_set ?_ GE635.out) | exact HB.out)) hb); clear HO_3; clear HO628; clear HO631; clear BK617; clear BK635; clear HB; have HO_3 := n0_; have HO628 := n1_; have HO631 := n2_; have HO638 := n3_; have HO641 := n4_; have BK617 := n5_; have BK635 := n6_; have HB := n7_; clear n0_ n1_ n2_ n3_ n4_ n5_ n6_ n7_; (try clear hb); (try clear hb2); (try clear hk); (try clear hi); (try clear ho0); (try clear ho1)) | ((with_reducible refine gate_dst (N := 7) rfl ?_); (try (refine gate_guard (by rfl) ?_; dsimp only)); refine box_event ?hg (N := 7) ?hd (cs := #[.slice none 0 0, .slice none 0 0, .int .i64 0, .bool false]) (t := 25) ?hr ?_; (case hd => rfl); (case hg => rfl); (case hr => first | (go_simp; done) | (go_simp; rfl)); intro gb644 hg w40 hbox hb; have n0_ := Aside0.mk (Kd.R_below (by (with_reducible repeat (first | apply Kd.R_alloc | apply Kd.R_drewN | apply Kd.R_drew)); exact HO_3.out) hb); have n1_ := Aside0.mk (Kd.N_below (Kd.N_elderB (by (with_reducible repeat (first | apply Kd.N_alloc | apply Kd.N_drewN | apply Kd.N_drew)); exact HO628.out) gb644 (Nat.le_of_eq hg.symm)) hb); have n2_ := Aside0.mk (Kd.N_below (Kd.N_elderB (by (with_reducible repeat (first | apply Kd.N_alloc | apply Kd.N_drewN | apply Kd.N_drew)); exact HO631.out) gb644 (Nat.le_of_eq hg.symm)) hb); have n3_ := Aside0.mk (Kd.N_below (Kd.N_elderB (by (with_reducible repeat (first | apply Kd.N_alloc | apply Kd.N_drewN | apply Kd.N_drew)); exact HO638.out) gb644 (Nat.le_of_eq hg.symm)) hb); have n4_ := Aside0.mk (Kd.N_below (Kd.N_elderB (by (with_reducible repeat (first | apply Kd.N_alloc | apply Kd.N_drewN | apply Kd.N_drew)); exact HO641.out) gb644 (Nat.le_of_eq hg.symm)) hb); have n5_ := Aside0.mk (blk_below (g := gb617) (o := .cells #[.slice A0_0 l0_0.length c0_0, .slice A0_1 l0_1.length c0_1, .int .i64 a0_2, .bool a0_3] 25 (0, 0)) (by (with_reducible repeat (first | refine blk_drewN ?_ _ | refine blk_drew ?_ | refine blk_alloc ?_ _)); exact BK617.out) hb); have n6_ := Aside0.mk (blk_below (g := gb635) (o := .cells #[.slice Ao33 t626.length co33, .slice Ao36 t629.length co36, .int .i64 t632, .bool t633] 25 (0, 0)) (by (with_reducible repeat (first | refine blk_drewN ?_ _ | refine blk_drew ?_ | refine blk_alloc ?_ _)); exact BK635.out) hb); have n7_ := Aside0.mk (below_step (by repeat (first | (with_reducible first | exact HB.out | apply below_alloc | apply pw_below_drewN | apply below_drew1 | refine below_set ?_ GE617.out | refine below_set ?_ GE635.out) | exact HB.out)) hb); have n8_ := Aside0.mk (hbox); have n9_ := Aside0.mk ((by rw [hg]; exact (below_size (by repeat (first | (with_reducible first | exact HB.out | apply below_alloc | apply pw_below_drewN | apply below_drew1 | refine below_set ?_ GE617.out | refine below_set ?_ GE635.out) | exact HB.out))) : w.heap.size ≤ gb644)); have n10_ := Aside0.mk ((by rw [hg]; exact (below_size (by repeat (first | (with_reducible first | exact HB.out | apply below_alloc | apply pw_below_drewN | apply below_drew1 | refine below_set ?_ GE617.out | refine below_set ?_ GE635.out) | exact HB.out))) : w.heap.size ≤ gb644)); have n11_ := Aside0.mk ((by rw [hg]; exact Nat.ne_of_lt (blk_lt (g := gb617) (o := .cells #[.slice A0_0 l0_0.length c0_0, .slice A0_1 l0_1.length c0_1, .int .i64 a0_2, .bool a0_3] 25 (0, 0)) (by (with_reducible repeat (first | refine blk_drewN ?_ _ | refine blk_drew ?_ | refine blk_alloc ?_ _)); exact BK617.out)) : gb617 ≠ gb644)); have n12_ := Aside0.mk ((by rw [hg]; exact Nat.ne_of_gt (blk_lt (g := gb617) (o := .cells #[.slice A0_0 l0_0.length c0_0, .slice A0_1 l0_1.length c0_1, .int .i64 a0_2, .bool a0_3] 25 (0, 0)) (by (with_reducible repeat (first | refine blk_drewN ?_ _ | refine blk_drew ?_ | refine blk_alloc ?_ _)); exact BK617.out)) : gb644 ≠ gb617)); have n13_ := Aside0.mk ((by rw [hg]; exact Nat.ne_of_lt (blk_lt (g := gb635) (o := .cells #[.slice Ao33 t626.length co33, .slice Ao36 t629.length co36, .int .i64 t632, .bool t633] 25 (0, 0)) (by (with_reducible repeat (first | refine blk_drewN ?_ _ | refine blk_drew ?_ | refine blk_alloc ?_ _)); exact BK635.out)) : gb635 ≠ gb644)); have n14_ := Aside0.mk ((by rw [hg]; exact Nat.ne_of_gt (blk_lt (g := gb635) (o := .cells #[.slice Ao33 t626.length co33, .slice Ao36 t629.length co36, .int .i64 t632, .bool t633] 25 (0, 0)) (by (with_reducible repeat (first | refine blk_drewN ?_ _ | refine blk_drew ?_ | refine blk_alloc ?_ _)); exact BK635.out)) : gb644 ≠ gb635)); clear HO_3; clear HO628; clear HO631; clear HO638; clear HO641; clear BK617; clear BK635; clear HB; have HO_3 := n0_; have HO628 := n1_; have HO631 := n2_; have HO638 := n3_; have HO641 := n4_; have BK617 := n5_; have BK635 := n6_; have HB := n7_; have BK644 := n8_; have GW644 := n9_; have GE644 := n10_; have NB617_644 := n11_; have NB644_617 := n12_; have NB635_644 := n13_; have NB644_635 := n14_; clear n0_ n1_ n2_ n3_ n4_ n5_ n6_ n7_ n8_ n9_ n10_ n11_ n12_ n13_ n14_; clear hb hbox hg; obtain ⟨Ao41, co41, eo41⟩ := Kd.N_slice HO638.out; subst eo41; have hnb42 := NB644_617.out; have hnc42 := NB617_644.out; have hnb43 := NB644_635.out; have hnc43 := NB635_644.out; have hcz44_0 : w40.cell? ⟨gb644, 0, none⟩ = some (.slice none 0 0) := (blk_cell BK644.out 0).trans rfl; have hcz44_1 : w40.cell? ⟨gb644, 1, none⟩ = some (.slice none 0 0) := (blk_cell BK644.out 1).trans rfl; have hcz44_2 : w40.cell? ⟨gb644, 2, none⟩ = some (.int .i64 0) := (blk_cell BK644.out 2).trans rfl; have hcz44_3 : w40.cell? ⟨gb644, 3, none⟩ = some (.bool false) := (blk_cell BK644.out 3).trans rfl; have hfz44_0 := blk_frozen BK644.out 0; have hfz44_1 := blk_frozen BK644.out 1; have hfz44_2 := blk_frozen BK644.out 2; have hfz44_3 := blk_frozen BK644.out 3; obtain ⟨Ao45, co45, eo45⟩ := Kd.N_slice HO641.out; subst eo45; have hcz46_0 : w40.cell? ⟨gb635, 0, none⟩ = some (.slice Ao33 t626.length co33) := (blk_cell BK635.out 0).trans rfl; have hcz46_1 : w40.cell? ⟨gb635, 1, none⟩ = some (.slice Ao36 t629.length co36) := (blk_cell BK635.out 1).trans rfl; have hcz46_2 : w40.cell? ⟨gb635, 2, none⟩ = some (.int .i64 t632) := (blk_cell BK635.out 2).trans rfl; have hcz46_3 : w40.cell? ⟨gb635, 3, none⟩ = some (.bool t633) := (blk_cell BK635.out 3).trans rfl; have hfz46_0 := blk_frozen BK635.out 0; have hfz46_1 := blk_frozen BK635.out 1; have hfz46_2 := blk_frozen BK635.out 2; have hfz46_3 := blk_frozen BK635.out 3) | (go_at_call 27; (with_reducible refine (mapsheetsref24_SameSectors.calls k2 _ _ t626 _ _ t636 true _ ?side1 ?side2 ?side3 ?side4 A24.out).mono ?_); (case side1 => refine (Kd.N_reads' (e := 26) (base := w.heap.size) (ok := fun k_ => (((((some k_ ≠ (.slice Ao36 t629.length co36 : Value).ownBlock ∧ (some k_ ≠ (.slice Ao38 x3_2.length co38 : Value).ownBlock ∧ k_ ≠ gb617)) ∧ k_ ≠ gb635) ∧ some k_ ≠ (.slice Ao41 t636.length co41 : Value).ownBlock) ∧ some k_ ≠ (.slice Ao45 t639.length co45 : Value).ownBlock) ∧ k_ ≠ gb644)) (n := t626.length) (c := co33) ?_).2.2; exact (by (with_reducible repeat (first | apply Kd.N_alloc | apply Kd.N_drewN | apply Kd.N_drew)); exact (Kd.N_mono (Kd.N_far (p := ⟨gb644, 3, none⟩) (Kd.N_far (p := ⟨gb644, 2, none⟩) (Kd.N_far (p := ⟨gb644, 1, none⟩) (Kd.N_far (p := ⟨gb644, 0, none⟩) (Kd.N_mono HO628.out (fun k_ hk => (⟨hk, hk.2⟩ : _ ∧ k_ ≠ gb644))) (fun _ hk => hk.2) (.slice Ao41 t636.length co41)) (fun _ hk => hk.2) (.slice Ao45 t639.length co45)) (fun _ hk => hk.2) (.int .i64 t642)) (fun _ hk => hk.2) (.bool t643)) (fun _ h_ => h_.1)))); (case side2 => exact (Kd.N_reads' HO628.out).2.1); (case side3 => refine (Kd.N_reads' (e := 26) (base := w.heap.size) (ok := fun k_ => ((some k_ ≠ (.slice Ao45 t639.length co45 : Value).ownBlock ∧ (some k_ ≠ (.slice Ao38 x3_2.length co38 : Value).ownBlock ∧ (some k_ ≠ (.slice Ao33 t626.length co33 : Value).ownBlock ∧ (some k_ ≠ (.slice Ao36 t629.length co36 : Value).ownBlock ∧ (k_ ≠ gb617 ∧ k_ ≠ gb635))))) ∧ k_ ≠ gb644)) (n := t636.length) (c := co41) ?_).2.2; exact (by (with_reducible repeat (first | apply Kd.N_alloc | apply Kd.N_drewN | apply Kd.N_drew)); exact (Kd.N_mono (Kd.N_far (p := ⟨gb644, 3, none⟩) (Kd.N_far (p := ⟨gb644, 2, none⟩) (Kd.N_far (p := ⟨gb644, 1, none⟩) (Kd.N_far (p := ⟨gb644, 0, none⟩) (Kd.N_mono HO638.out (fun k_ hk => (⟨hk, hk.2⟩ : _ ∧ k_ ≠ gb644))) (fun _ hk => hk.2) (.slice Ao41 t636.length co41)) (fun _ hk => hk.2) (.slice Ao45 t639.length co45)) (fun _ hk => hk.2) (.int .i64 t642)) (fun _ hk => hk.2) (.bool t643)) (fun _ h_ => h_.1)))); (case side4 => exact (Kd.N_reads' HO638.out).2.1); rintro e w' ⟨rfl, ⟨nd, rfl⟩⟩; have hcz47_0 : w40.cell? ⟨gb617, 0, none⟩ = some (.slice A0_0 l0_0.length c0_0) := (blk_cell BK617.out 0).trans rfl; have hcz47_1 : w40.cell? ⟨gb617, 1, none⟩ = some (.slice A0_1 l0_1.length c0_1) := (blk_cell BK617.out 1).trans rfl; have hcz47_2 : w40.cell? ⟨gb617, 2, none⟩ = some (.int .i64 a0_2) := (blk_cell BK617.out 2).trans rfl; have hcz47_3 : w40.cell? ⟨gb617, 3, none⟩ = some (.bool a0_3) := (blk_cell BK617.out 3).trans rfl; have hfz47_0 := blk_frozen BK617.out 0; have hfz47_1 := blk_frozen BK617.out 1; have hfz47_2 := blk_frozen BK617.out 2; have hfz47_3 := blk_frozen BK617.out 3) | (go_at_call 28; (with_reducible refine (mapsheetslaw24_same.calls k2 _ _ l0_0 _ _ l0_1 a0_2 a0_3 _ _ t636 _ _ t639 t642 t643 (-1) true _ ?side1 ?side2 ?side3 ?side4 ?side5 ?side6 ?side7 ?side8 A27.out).mono ?_); (case side1 => exact Kd.C_below HR0_0.out (by repeat (first | (with_reducible first | exact HB.out | apply below_alloc | apply pw_below_drewN | apply below_drew1 | refine below_set ?_ GE617.out | refine below_set ?_ GE635.out | refine below_set ?_ GE644.out) | exact HB.out))); (case side2 => exact HC0_0.out); (case side3 => exact Kd.C_below HR0_1.out (by repeat (first | (with_reducible first | exact HB.out | apply below_alloc | apply pw_below_drewN | apply below_drew1 | refine below_set ?_ GE617.out | refine below_set ?_ GE635.out | refine below_set ?_ GE644.out) | exact HB.out))); (case side4 => exact HC0_1.out); (case side5 => refine (Kd.N_reads' (e := 26) (base := w.heap.size) (ok := fun k_ => ((some k_ ≠ (.slice Ao45 t639.length co45 : Value).ownBlock ∧ (some k_ ≠ (.slice Ao38 x3_2.length co38 : Value).ownBlock ∧ (some k_ ≠ (.slice Ao33 t626.length co33 : Value).ownBlock ∧ (some k_ ≠ (.slice Ao36 t629.length co36 : Value).ownBlock ∧ (k_ ≠ gb617 ∧ k_ ≠ gb635))))) ∧ k_ ≠ gb644)) (n := t636.length) (c := co41) ?_).2.2; exact (by (with_reducible repeat (first | apply Kd.N_alloc | apply Kd.N_drewN | apply Kd.N_drew)); exact (Kd.N_mono (Kd.N_far (p := ⟨gb644, 3, none⟩) (Kd.N_far (p := ⟨gb644, 2, none⟩) (Kd.N_far (p := ⟨gb644, 1, none⟩) (Kd.N_far (p := ⟨gb644, 0, none⟩) (Kd.N_mono HO638.out (fun k_ hk => (⟨hk, hk.2⟩ : _ ∧ k_ ≠ gb644))) (fun _ hk => hk.2) (.slice Ao41 t636.length co41)) (fun _ hk => hk.2) (.slice Ao45 t639.length co45)) (fun _ hk => hk.2) (.int .i64 t642)) (fun _ hk => hk.2) (.bool t643)) (fun _ h_ => h_.1)))); (case side6 => exact (Kd.N_reads' HO638.out).2.1); (case side7 => refine (Kd.N_reads' (e := 53) (base := w.heap.size) (ok := fun k_ => ((some k_ ≠ (.slice Ao41 t636.length co41 : Value).ownBlock ∧ (some k_ ≠ (.slice Ao38 x3_2.length co38 : Value).ownBlock ∧ (some k_ ≠ (.slice Ao33 t626.length co33 : Value).ownBlock ∧ (some k_ ≠ (.slice Ao36 t629.length co36 : Value).ownBlock ∧ (k_ ≠ gb617 ∧ k_ ≠ gb635))))) ∧ k_ ≠ gb644)) (n := t639.length) (c := co45) ?_).2.2; exact (by (with_reducible repeat (first | apply Kd.N_alloc | apply Kd.N_drewN | apply Kd.N_drew)); exact (Kd.N_mono (Kd.N_far (p := ⟨gb644, 3, none⟩) (Kd.N_far (p := ⟨gb644, 2, none⟩) (Kd.N_far (p := ⟨gb644, 1, none⟩) (Kd.N_far (p := ⟨gb644, 0, none⟩) (Kd.N_mono HO641.out (fun k_ hk => (⟨hk, hk.2⟩ : _ ∧ k_ ≠ gb644))) (fun _ hk => hk.2) (.slice Ao41 t636.length co41)) (fun _ hk => hk.2) (.slice Ao45 t639.length co45)) (fun _ hk => hk.2) (.int .i64 t642)) (fun _ hk => hk.2) (.bool t643)) (fun _ h_ => h_.1)))); (case side8 => exact (Kd.N_reads' HO641.out).2.1); rintro e w48 ⟨rfl, hb⟩; have n0_ := Aside0.mk (Kd.R_below (by (with_reducible repeat (first | apply Kd.R_alloc | apply Kd.R_drewN | apply Kd.R_drew)); exact (Kd.R_mono (Kd.R_far (p := ⟨gb644, 3, none⟩) (Kd.R_far (p := ⟨gb644, 2, none⟩) (Kd.R_far (p := ⟨gb644, 1, none⟩) (Kd.R_far (p := ⟨gb644, 0, none⟩) (Kd.R_types HO_3.out BK644.out (by decide)) (fun _ hk => hk.2) (.slice Ao41 t636.length co41)) (fun _ hk => hk.2) (.slice Ao45 t639.length co45)) (fun _ hk => hk.2) (.int .i64 t642)) (fun _ hk => hk.2) (.bool t643)) (fun _ h_ => h_.1))) hb); have n1_ := Aside0.mk (Kd.N_below (by (with_reducible repeat (first | apply Kd.N_alloc | apply Kd.N_drewN | apply Kd.N_drew)); exact (Kd.N_mono (Kd.N_far (p := ⟨gb644, 3, none⟩) (Kd.N_far (p := ⟨gb644, 2, none⟩) (Kd.N_far (p := ⟨gb644, 1, none⟩) (Kd.N_far (p := ⟨gb644, 0, none⟩) (Kd.N_mono HO628.out (fun k_ hk => (⟨hk, hk.2⟩ : _ ∧ k_ ≠ gb644))) (fun _ hk => hk.2) (.slice Ao41 t636.length co41)) (fun _ hk => hk.2) (.slice Ao45 t639.length co45)) (fun _ hk => hk.2) (.int .i64 t642)) (fun _ hk => hk.2) (.bool t643)) (fun _ h_ => h_.1))) hb); have n2_ := Aside0.mk (Kd.N_below (by (with_reducible repeat (first | apply Kd.N_alloc | apply Kd.N_drewN | apply Kd.N_drew)); exact (Kd.N_mono (Kd.N_far (p := ⟨gb644, 3, none⟩) (Kd.N_far (p := ⟨gb644, 2, none⟩) (Kd.N_far (p := ⟨gb644, 1, none⟩) (Kd.N_far (p := ⟨gb644, 0, none⟩) (Kd.N_mono HO631.out (fun k_ hk => (⟨hk, hk.2⟩ : _ ∧ k_ ≠ gb644))) (fun _ hk => hk.2) (.slice Ao41 t636.length co41)) (fun _ hk => hk.2) (.slice Ao45 t639.length co45)) (fun _ hk => hk.2) (.int .i64 t642)) (fun _ hk => hk.2) (.bool t643)) (fun _ h_ => h_.1))) hb); have n3_ := Aside0.mk (Kd.N_below (by (with_reducible repeat (first | apply Kd.N_alloc | apply Kd.N_drewN | apply Kd.N_drew)); exact (Kd.N_mono (Kd.N_far (p := ⟨gb644, 3, none⟩) (Kd.N_far (p := ⟨gb644, 2, none⟩) (Kd.N_far (p := ⟨gb644, 1, none⟩) (Kd.N_far (p := ⟨gb644, 0, none⟩) (Kd.N_mono HO638.out (fun k_ hk => (⟨hk, hk.2⟩ : _ ∧ k_ ≠ gb644))) (fun _ hk => hk.2) (.slice Ao41 t636.length co41)) (fun _ hk => hk.2) (.slice Ao45 t639.length co45)) (fun _ hk => hk.2) (.int .i64 t642)) (fun _ hk => hk.2) (.bool t643)) (fun _ h_ => h_.1))) hb); have n4_ := Aside0.mk (Kd.N_below (by (with_reducible repeat (first | apply Kd.N_alloc | apply Kd.N_drewN | apply Kd.N_drew)); exact (Kd.N_mono (Kd.N_far (p := ⟨gb644, 3, none⟩) (Kd.N_far (p := ⟨gb644, 2, none⟩) (Kd.N_far (p := ⟨gb644, 1, none⟩) (Kd.N_far (p := ⟨gb644, 0, none⟩) (Kd.N_mono HO641.out (fun k_ hk => (⟨hk, hk.2⟩ : _ ∧ k_ ≠ gb644))) (fun _ hk => hk.2) (.slice Ao41 t636.length co41)) (fun _ hk => hk.2) (.slice Ao45 t639.length co45)) (fun _ hk => hk.2) (.int .i64 t642)) (fun _ hk => hk.2) (.bool t643)) (fun _ h_ => h_.1))) hb); have n5_ := Aside0.mk (blk_below (g := gb617) (o := .cells #[.slice A0_0 l0_0.length c0_0, .slice A0_1 l0_1.length c0_1, .int .i64 a0_2, .bool a0_3] 25 (0, 0)) (by (with_reducible repeat (first | refine blk_drewN ?_ _ | refine blk_drew ?_ | refine blk_alloc ?_ _)); refine blk_far ?_ NB617_644.out _; (with_reducible repeat (first | refine blk_drewN ?_ _ | refine blk_drew ?_ | refine blk_alloc ?_ _)); refine blk_far ?_ NB617_644.out _; (with_reducible repeat (first | refine blk_drewN ?_ _ | refine blk_drew ?_ | refine blk_alloc ?_ _)); refine blk_far ?_ NB617_644.out _; (with_reducible repeat (first | refine blk_drewN ?_ _ | refine blk_drew ?_ | refine blk_alloc ?_ _)); refine blk_far ?_ NB617_644.out _; (with_reducible repeat (first | refine blk_drewN ?_ _ | refine blk_drew ?_ | refine blk_alloc ?_ _)); exact BK617.out) hb); have n6_ := Aside0.mk (blk_below (g := gb635) (o := .cells #[.slice Ao33 t626.length co33, .slice Ao36 t629.length co36, .int .i64 t632, .bool t633] 25 (0, 0)) (by (with_reducible repeat (first | refine blk_drewN ?_ _ | refine blk_drew ?_ | refine blk_alloc ?_ _)); refine blk_far ?_ NB635_644.out _; (with_reducible repeat (first | refine blk_drewN ?_ _ | refine blk_drew ?_ | refine blk_alloc ?_ _)); refine blk_far ?_ NB635_644.out _; (with_reducible repeat (first | refine blk_drewN ?_ _ | refine blk_drew ?_ | refine blk_alloc ?_ _)); refine blk_far ?_ NB635_644.out _; (with_reducible repeat (first | refine blk_drewN ?_ _ | refine blk_drew ?_ | refine blk_alloc ?_ _)); refine blk_far ?_ NB635_644.out _; (with_reducible repeat (first | refine blk_drewN ?_ _ | refine blk_drew ?_ | refine blk_alloc ?_ _)); exact BK635.out) hb); have n7_ := Aside0.mk (blk_below (g := gb644) (o := .cells #[.slice Ao41 t636.length co41, .slice Ao45 t639.length co45, .int .i64 t642, .bool t643] 25 (0, 0)) (by (with_reducible repeat (first | refine blk_drewN ?_ _ | refine blk_drew ?_ | refine blk_alloc ?_ _)); refine blk_put (cs := #[.slice Ao41 t636.length co41, .slice Ao45 t639.length co45, .int .i64 t642, .bool false]) ?_ 3 _ rfl; (with_reducible repeat (first | refine blk_drewN ?_ _ | refine blk_drew ?_ | refine blk_alloc ?_ _)); refine blk_put (cs := #[.slice Ao41 t636.length co41, .slice Ao45 t639.length co45, .int .i64 0, .bool false]) ?_ 2 _ rfl; (with_reducible repeat (first | refine blk_drewN ?_ _ | refine blk_drew ?_ | refine blk_alloc ?_ _)); refine blk_put (cs := #[.slice Ao41 t636.length co41, .slice none 0 0, .int .i64 0, .bool false]) ?_ 1 _ rfl; (with_reducible repeat (first | refine blk_drewN ?_ _ | refine blk_drew ?_ | refine blk_alloc ?_ _)); refine blk_put (cs := #[.slice none 0 0, .slice none 0 0, .int .i64 0, .bool false]) ?_ 0 _ rfl; (with_reducible repeat (first | refine blk_drewN ?_ _ | refine blk_drew ?_ | refine blk_alloc ?_ _)); exact BK644.out) hb); have n8_ := Aside0.mk (below_step (by repeat (first | (with_reducible first | exact HB.out | apply below_alloc | apply pw_below_drewN | apply below_drew1 | refine below_set ?_ GE617.out | refine below_set ?_ GE635.out | refine below_set ?_ GE644.out) | exact HB.out)) hb); clear HO_3; clear HO628; clear HO631; clear HO638; clear HO641; clear BK617; clear BK635; clear BK644; clear HB; have HO_3 := n0_; have HO628 := n1_; have HO631 := n2_; have HO638 := n3_; have HO641 := n4_; have BK617 := n5_; have BK635 := n6_; have BK644 := n7_; have HB := n8_; clear n0_ n1_ n2_ n3_ n4_ n5_ n6_ n7_ n8_; (try clear hb); (try clear hb2); (try clear hk); (try clear hi)) | (go_at_call 12; (with_reducible refine (mapsheetslaw24_awake.calls  t647 _ A29.out).mono ?_); rintro e w49 ⟨rfl, hb⟩; have n0_ := Aside0.mk (Kd.R_below (by (with_reducible repeat (first | apply Kd.R_alloc | apply Kd.R_drewN | apply Kd.R_drew)); exact HO_3.out) hb); have n1_ := Aside0.mk (Kd.N_below (by (with_reducible repeat (first | apply Kd.N_alloc | apply Kd.N_drewN | apply Kd.N_drew)); exact HO628.out) hb); have n2_ := Aside0.mk (Kd.N_below (by (with_reducible repeat (first | apply Kd.N_alloc | apply Kd.N_drewN | apply Kd.N_drew)); exact HO631.out) hb); have n3_ := Aside0.mk (Kd.N_below (by (with_reducible repeat (first | apply Kd.N_alloc | apply Kd.N_drewN | apply Kd.N_drew)); exact HO638.out) hb); have n4_ := Aside0.mk (Kd.N_below (by (with_reducible repeat (first | apply Kd.N_alloc | apply Kd.N_drewN | apply Kd.N_drew)); exact HO641.out) hb); have n5_ := Aside0.mk (blk_below (g := gb617) (o := .cells #[.slice A0_0 l0_0.length c0_0, .slice A0_1 l0_1.length c0_1, .int .i64 a0_2, .bool a0_3] 25 (0, 0)) (by (with_reducible repeat (first | refine blk_drewN ?_ _ | refine blk_drew ?_ | refine blk_alloc ?_ _)); exact BK617.out) hb); have n6_ := Aside0.mk (blk_below (g := gb635) (o := .cells #[.slice Ao33 t626.length co33, .slice Ao36 t629.length co36, .int .i64 t632, .bool t633] 25 (0, 0)) (by (with_reducible repeat (first | refine blk_drewN ?_ _ | refine blk_drew ?_ | refine blk_alloc ?_ _)); exact BK635.out) hb); have n7_ := Aside0.mk (blk_below (g := gb644) (o := .cells #[.slice Ao41 t636.length co41, .slice Ao45 t639.length co45, .int .i64 t642, .bool t643] 25 (0, 0)) (by (with_reducible repeat (first | refine blk_drewN ?_ _ | refine blk_drew ?_ | refine blk_alloc ?_ _)); exact BK644.out) hb); have n8_ := Aside0.mk (below_step (by repeat (first | (with_reducible first | exact HB.out | apply below_alloc | apply pw_below_drewN | apply below_drew1 | refine below_set ?_ GE617.out | refine below_set ?_ GE635.out | refine below_set ?_ GE644.out) | exact HB.out)) hb); clear HO_3; clear HO628; clear HO631; clear HO638; clear HO641; clear BK617; clear BK635; clear BK644; clear HB; have HO_3 := n0_; have HO628 := n1_; have HO631 := n2_; have HO638 := n3_; have HO641 := n4_; have BK617 := n5_; have BK635 := n6_; have BK644 := n7_; have HB := n8_; clear n0_ n1_ n2_ n3_ n4_ n5_ n6_ n7_ n8_; (try clear hb); (try clear hb2); (try clear hk); (try clear hi)))
                      go_ret
                      exact ⟨by first | rfl | (simp [errW_none, errW_some] <;> rfl) | (simp [*, errW_none, errW_some] <;> rfl), by repeat (first | (with_reducible first | exact HB.out | apply below_alloc | apply pw_below_drewN | apply below_drew1 | refine below_set ?_ GE617.out | refine below_set ?_ GE635.out | refine below_set ?_ GE644.out) | exact HB.out)⟩
                    · replace c28 := Bool.eq_false_iff.mpr c28
                      subst c28
                      have H1 : (none) = some r := by rw [if_neg (show ¬ (false = true) by decide)] at H; exact H
                      clear H
                      have H := H1
                      clear H1
                      exact absurd H (by simp)
                  · rw [if_neg c26] at H
                    exact absurd H (by simp)
                · replace c25 := Bool.eq_false_iff.mpr c25
                  subst c25
                  have H1 : (none) = some r := by rw [if_neg (show ¬ (false = true) by decide)] at H; exact H
                  clear H
                  have H := H1
                  clear H1
                  exact absurd H (by simp)
              · rw [if_neg c23] at H
                exact absurd H (by simp)

end Go.Proofs.Ytjicigagejihhaa.PA
