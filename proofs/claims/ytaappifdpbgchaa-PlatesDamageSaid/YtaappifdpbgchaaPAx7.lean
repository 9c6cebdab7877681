-- Written by wip/pp.py of this repository, on the kit's print program. Not trusted: Lean checks it.
import Derived.Test.YtaappifdpbgchaaPAx0
namespace Go.Proofs.Ytaappifdpbgchaa.PA
open Go.RowKit Go.Proofs.YtaappifdpbgchaaW.PrintWords Go.Proofs.YtaappifdpbgchaaW.PrintLast Go.Proofs.YtaappifdpbgchaaW.PrintMore
attribute [local go_sem] max2_int min2_int max_two min_two max_three min_three max_four min_four   -- for this text's walks alone
set_option linter.unusedVariables false
set_option linter.unusedSimpArgs false

/-! ### mapsheetsref54_Same: function 19 -/
mutual
def mapsheetsref54_Same.j0 : Nat → Bool → Int → Int → List Int → Int → Int → List Int → Option (Bool)
  | 0, _, _, _, _, _, _, _ => none
  | k + 1, x26, x183000, x183001, x183002, x184000, x184001, x184002 => if x26 = true then (some false) else (mapsheetsref54_Same.l0 k 0 x183000 x183001 x183002 x184000 x184001 x184002)
def mapsheetsref54_Same.l0 : Nat → Int → Int → Int → List Int → Int → Int → List Int → Option (Bool)
  | 0, _, _, _, _, _, _, _ => none
  | k + 1, x5, x183000, x183001, x183002, x184000, x184001, x184002 => if x5 < (x183002.length : Int) then (if 0 ≤ x5 then (if x5 < (x184002.length : Int) then (if (rd x183002 x5) = (rd x184002 x5) then (mapsheetsref54_Same.l0 k (wrap64 (x5 + 1)) x183000 x183001 x183002 x184000 x184001 x184002) else (some false)) else (none)) else (none)) else (some true)
end
def mapsheetsref54_Same.f (k : Nat) (a0_0 : Int) (a0_1 : Int) (l0_2 : List Int) (a1_0 : Int) (a1_1 : Int) (l1_2 : List Int) : Option (Bool) := if a0_0 = a1_0 then (if a0_1 = a1_1 then (mapsheetsref54_Same.j0 k ((l0_2.length : Int) != (l1_2.length : Int)) a0_0 a0_1 l0_2 a1_0 a1_1 l1_2) else (mapsheetsref54_Same.j0 k true a0_0 a0_1 l0_2 a1_0 a1_1 l1_2)) else (mapsheetsref54_Same.j0 k true a0_0 a0_1 l0_2 a1_0 a1_1 l1_2)
theorem mapsheetsref54_Same.mono_l : ∀ k, (∀ y0 y1 y2 y3 y4 y5 y6, LeO (mapsheetsref54_Same.j0 k y0 y1 y2 y3 y4 y5 y6) (mapsheetsref54_Same.j0 (k + 1) y0 y1 y2 y3 y4 y5 y6)) ∧ (∀ y0 y1 y2 y3 y4 y5 y6, LeO (mapsheetsref54_Same.l0 k y0 y1 y2 y3 y4 y5 y6) (mapsheetsref54_Same.l0 (k + 1) y0 y1 y2 y3 y4 y5 y6))
  | 0 => ⟨fun _ _ _ _ _ _ _ r h => by simp [mapsheetsref54_Same.j0] at h, fun _ _ _ _ _ _ _ r h => by simp [mapsheetsref54_Same.l0] at h⟩
  | k + 1 => by
    obtain ⟨ih0, ih1⟩ := mapsheetsref54_Same.mono_l k
    refine ⟨?_, ?_⟩
    · intro y0 y1 y2 y3 y4 y5 y6
      unfold mapsheetsref54_Same.j0
      repeat' first
      | (with_reducible exact ih0 _ _ _ _ _ _ _)
      | (with_reducible exact ih1 _ _ _ _ _ _ _)
      | (with_reducible exact LeO.refl _)
      | (with_reducible exact LeO.none _)
      | (with_reducible refine LeO.ite ?_ ?_)
      | (with_reducible refine LeO.bind ?_ (fun _ => ?_))
      | exact ih0 _ _ _ _ _ _ _
      | exact ih1 _ _ _ _ _ _ _
      | exact LeO.none _
      | refine LeO.ite ?_ ?_
      | refine LeO.bind ?_ (fun _ => ?_)
    · intro y0 y1 y2 y3 y4 y5 y6
      unfold mapsheetsref54_Same.l0
      repeat' first
      | (with_reducible exact ih0 _ _ _ _ _ _ _)
      | (with_reducible exact ih1 _ _ _ _ _ _ _)
      | (with_reducible exact LeO.refl _)
      | (with_reducible exact LeO.none _)
      | (with_reducible refine LeO.ite ?_ ?_)
      | (with_reducible refine LeO.bind ?_ (fun _ => ?_))
      | exact ih0 _ _ _ _ _ _ _
      | exact ih1 _ _ _ _ _ _ _
      | exact LeO.none _
      | refine LeO.ite ?_ ?_
      | refine LeO.bind ?_ (fun _ => ?_)
theorem mapsheetsref54_Same.mono : ∀ a0 a1 a2 a3 a4 a5 k, LeO (mapsheetsref54_Same.f k a0 a1 a2 a3 a4 a5) (mapsheetsref54_Same.f (k + 1) a0 a1 a2 a3 a4 a5) := by
  intro a0 a1 a2 a3 a4 a5 k
  obtain ⟨ih0, ih1⟩ := mapsheetsref54_Same.mono_l k
  unfold mapsheetsref54_Same.f
  repeat' first
      | (with_reducible exact ih0 _ _ _ _ _ _ _)
      | (with_reducible exact ih1 _ _ _ _ _ _ _)
      | (with_reducible exact LeO.refl _)
      | (with_reducible exact LeO.none _)
      | (with_reducible refine LeO.ite ?_ ?_)
      | (with_reducible refine LeO.bind ?_ (fun _ => ?_))
      | exact ih0 _ _ _ _ _ _ _
      | exact ih1 _ _ _ _ _ _ _
      | exact LeO.none _
      | refine LeO.ite ?_ ?_
      | refine LeO.bind ?_ (fun _ => ?_)
set_option maxHeartbeats 8000000 in
set_option maxRecDepth 100000 in
theorem mapsheetsref54_Same.calls (k : Nat) (a0_0 : Int) (a0_1 : Int) (A0_2 : Option Addr) (c0_2 : Nat) (l0_2 : List Int) (a1_0 : Int) (a1_1 : Int) (A1_2 : Option Addr) (c1_2 : Nat) (l1_2 : List Int) (r : Bool) (w : World) (hr0_2 : Kd.C (Kd.int .i64) w A0_2 l0_2.length l0_2) (hc0_2 : l0_2.length ≤ c0_2) (hr1_2 : Kd.C (Kd.int .i64) w A1_2 l1_2.length l1_2) (hc1_2 : l1_2.length ≤ c1_2) (h : mapsheetsref54_Same.f k a0_0 a0_1 l0_2 a1_0 a1_1 l1_2 = some r) :
    Calls Try.prog 19 #[.agg #[.int .i64 a0_0, .int .i64 a0_1, .slice A0_2 l0_2.length c0_2], .agg #[.int .i64 a1_0, .int .i64 a1_1, .slice A1_2 l1_2.length c1_2]] w fun e w' => e = .returned (.bool r) ∧ Below w.heap.size w w' := by
  have hu24 := Try.underlying24
  have HR0_2 := Aside0.mk hr0_2
  have HC0_2 := Aside0.mk hc0_2
  clear hr0_2 hc0_2
  have HR1_2 := Aside0.mk hr1_2
  have HC1_2 := Aside0.mk hc1_2
  clear hr1_2 hc1_2
  have HB := Aside0.mk (Below.refl w.heap.size w)
  have H : (if a0_0 = a1_0 then (if a0_1 = a1_1 then (mapsheetsref54_Same.j0 k ((l0_2.length : Int) != (l1_2.length : Int)) a0_0 a0_1 l0_2 a1_0 a1_1 l1_2) else (mapsheetsref54_Same.j0 k true a0_0 a0_1 l0_2 a1_0 a1_1 l1_2)) else (mapsheetsref54_Same.j0 k true a0_0 a0_1 l0_2 a1_0 a1_1 l1_2)) = some r := h
  clear h
  have HC3 := Aside0.mk H
  clear H
  go_enter Try.func19, Try.ntmps19
  go_upto_region 1 with (first | ((with_reducible refine gate_dst (N := 2) rfl ?_); (try (refine gate_guard (by rfl) ?_; dsimp only)); refine box_event ?hg (N := 2) ?hd (cs := #[.int .i64 a0_0, .int .i64 a0_1, .slice A0_2 l0_2.length c0_2]) (t := 24) ?hr ?_; (case hd => rfl); (case hg => rfl); (case hr => first | (go_simp; done) | (go_simp; rfl)); intro gb182 hg w4 hbox hb; have n0_ := Aside0.mk (below_step (by repeat (first | (with_reducible first | exact HB.out | apply below_alloc | apply pw_below_drewN | apply below_drew1) | exact HB.out)) hb); have n1_ := Aside0.mk (hbox); have n2_ := Aside0.mk ((by rw [hg]; exact (below_size (by repeat (first | (with_reducible first | exact HB.out | apply below_alloc | apply pw_below_drewN | apply below_drew1) | exact HB.out))) : w.heap.size ≤ gb182)); have n3_ := Aside0.mk ((by rw [hg]; exact (below_size (by repeat (first | (with_reducible first | exact HB.out | apply below_alloc | apply pw_below_drewN | apply below_drew1) | exact HB.out))) : w.heap.size ≤ gb182)); clear HB; have HB := n0_; have BK182 := n1_; have GW182 := n2_; have GE182 := n3_; clear n0_ n1_ n2_ n3_; clear hb hbox hg) | ((with_reducible refine gate_dst (N := 3) rfl ?_); (try (refine gate_guard (by rfl) ?_; dsimp only)); refine box_event ?hg (N := 3) ?hd (cs := #[.int .i64 a1_0, .int .i64 a1_1, .slice A1_2 l1_2.length c1_2]) (t := 24) ?hr ?_; (case hd => rfl); (case hg => rfl); (case hr => first | (go_simp; done) | (go_simp; rfl)); intro gb183 hg w5 hbox hb; have n0_ := Aside0.mk (blk_below (g := gb182) (o := .cells #[.int .i64 a0_0, .int .i64 a0_1, .slice A0_2 l0_2.length c0_2] 24 (0, 0)) (by (with_reducible repeat (first | refine blk_drewN ?_ _ | refine blk_drew ?_ | refine blk_alloc ?_ _)); exact BK182.out) hb); have n1_ := Aside0.mk (below_step (by repeat (first | (with_reducible first | exact HB.out | apply below_alloc | apply pw_below_drewN | apply below_drew1 | refine below_set ?_ GE182.out) | exact HB.out)) hb); have n2_ := Aside0.mk (hbox); have n3_ := Aside0.mk ((by rw [hg]; exact (below_size (by repeat (first | (with_reducible first | exact HB.out | apply below_alloc | apply pw_below_drewN | apply below_drew1 | refine below_set ?_ GE182.out) | exact HB.out))) : w.heap.size ≤ gb183)); have n4_ := Aside0.mk ((by rw [hg]; exact (below_size (by repeat (first | (with_reducible first | exact HB.out | apply below_alloc | apply pw_below_drewN | apply below_drew1 | refine below_set ?_ GE182.out) | exact HB.out))) : w.heap.size ≤ gb183)); have n5_ := Aside0.mk ((by rw [hg]; exact Nat.ne_of_lt (blk_lt (g := gb182) (o := .cells #[.int .i64 a0_0, .int .i64 a0_1, .slice A0_2 l0_2.length c0_2] 24 (0, 0)) (by (with_reducible repeat (first | refine blk_drewN ?_ _ | refine blk_drew ?_ | refine blk_alloc ?_ _)); exact BK182.out)) : gb182 ≠ gb183)); have n6_ := Aside0.mk ((by rw [hg]; exact Nat.ne_of_gt (blk_lt (g := gb182) (o := .cells #[.int .i64 a0_0, .int .i64 a0_1, .slice A0_2 l0_2.length c0_2] 24 (0, 0)) (by (with_reducible repeat (first | refine blk_drewN ?_ _ | refine blk_drew ?_ | refine blk_alloc ?_ _)); exact BK182.out)) : gb183 ≠ gb182)); clear BK182; clear HB; have BK182 := n0_; have HB := n1_; have BK183 := n2_; have GW183 := n3_; have GE183 := n4_; have NB182_183 := n5_; have NB183_182 := n6_; clear n0_ n1_ n2_ n3_ n4_ n5_ n6_; clear hb hbox hg))
  repeat (go_quiet (first | ((with_reducible refine gate_dst (N := 2) rfl ?_); (try (refine gate_guard (by rfl) ?_; dsimp only)); refine box_event ?hg (N := 2) ?hd (cs := #[.int .i64 a0_0, .int .i64 a0_1, .slice A0_2 l0_2.length c0_2]) (t := 24) ?hr ?_; (case hd => rfl); (case hg => rfl); (case hr => first | (go_simp; done) | (go_simp; rfl)); intro gb182 hg w4 hbox hb; have n0_ := Aside0.mk (below_step (by repeat (first | (with_reducible first | exact HB.out | apply below_alloc | apply pw_below_drewN | apply below_drew1) | exact HB.out)) hb); have n1_ := Aside0.mk (hbox); have n2_ := Aside0.mk ((by rw [hg]; exact (below_size (by repeat (first | (with_reducible first | exact HB.out | apply below_alloc | apply pw_below_drewN | apply below_drew1) | exact HB.out))) : w.heap.size ≤ gb182)); have n3_ := Aside0.mk ((by rw [hg]; exact (below_size (by repeat (first | (with_reducible first | exact HB.out | apply below_alloc | apply pw_below_drewN | apply below_drew1) | exact HB.out))) : w.heap.size ≤ gb182)); clear HB; have HB := n0_; have BK182 := n1_; have GW182 := n2_; have GE182 := n3_; clear n0_ n1_ n2_ n3_; clear hb hbox hg) | ((with_reducible refine gate_dst (N := 3) rfl ?_); (try (refine gate_guard (by rfl) ?_; dsimp only)); refine box_event ?hg (N := 3) ?hd (cs := #[.int .i64 a1_0, .int .i64 a1_1, .slice A1_2 l1_2.length c1_2]) (t := 24) ?hr ?_; (case hd => rfl); (case hg => rfl); (case hr => first | (go_simp; done) | (go_simp; rfl)); intro gb183 hg w5 hbox hb; have n0_ := Aside0.mk (blk_below (g := gb182) (o := .cells #[.int .i64 a0_0, .int .i64 a0_1, .slice A0_2 l0_2.length c0_2] 24 (0, 0)) (by (with_reducible repeat (first | refine blk_drewN ?_ _ | refine blk_drew ?_ | refine blk_alloc ?_ _)); exact BK182.out) hb); have n1_ := Aside0.mk (below_step (by repeat (first | (with_reducible first | exact HB.out | apply below_alloc | apply pw_below_drewN | apply below_drew1 | refine below_set ?_ GE182.out) | exact HB.out)) hb); have n2_ := Aside0.mk (hbox); have n3_ := Aside0.mk ((by rw [hg]; exact (below_size (by repeat (first | (with_reducible first | exact HB.out | apply below_alloc | apply pw_below_drewN | apply below_drew1 | refine below_set ?_ GE182.out) | exact HB.out))) : w.heap.size ≤ gb183)); have n4_ := Aside0.mk ((by rw [hg]; exact (below_size (by repeat (first | (with_reducible first | exact HB.out | apply below_alloc | apply pw_below_drewN | apply below_drew1 | refine below_set ?_ GE182.out) | exact HB.out))) : w.heap.size ≤ gb183)); have n5_ := Aside0.mk ((by rw [hg]; exact Nat.ne_of_lt (blk_lt (g := gb182) (o := .cells #[.int .i64 a0_0, .int .i64 a0_1, .slice A0_2 l0_2.length c0_2] 24 (0, 0)) (by (with_reducible repeat (first | refine blk_drewN ?_ _ | refine blk_drew ?_ | refine blk_alloc ?_ _)); exact BK182.out)) : gb182 ≠ gb183)); have n6_ := Aside0.mk ((by rw [hg]; exact Nat.ne_of_gt (blk_lt (g := gb182) (o := .cells #[.int .i64 a0_0, .int .i64 a0_1, .slice A0_2 l0_2.length c0_2] 24 (0, 0)) (by (with_reducible repeat (first | refine blk_drewN ?_ _ | refine blk_drew ?_ | refine blk_alloc ?_ _)); exact BK182.out)) : gb183 ≠ gb182)); clear BK182; clear HB; have BK182 := n0_; have HB := n1_; have BK183 := n2_; have GW183 := n3_; have GE183 := n4_; have NB182_183 := n5_; have NB183_182 := n6_; clear n0_ n1_ n2_ n3_ n4_ n5_ n6_; clear hb hbox hg)); go_upto_region 1 with (first | ((with_reducible refine gate_dst (N := 2) rfl ?_); (try (refine gate_guard (by rfl) ?_; dsimp only)); refine box_event ?hg (N := 2) ?hd (cs := #[.int .i64 a0_0, .int .i64 a0_1, .slice A0_2 l0_2.length c0_2]) (t := 24) ?hr ?_; (case hd => rfl); (case hg => rfl); (case hr => first | (go_simp; done) | (go_simp; rfl)); intro gb182 hg w4 hbox hb; have n0_ := Aside0.mk (below_step (by repeat (first | (with_reducible first | exact HB.out | apply below_alloc | apply pw_below_drewN | apply below_drew1) | exact HB.out)) hb); have n1_ := Aside0.mk (hbox); have n2_ := Aside0.mk ((by rw [hg]; exact (below_size (by repeat (first | (with_reducible first | exact HB.out | apply below_alloc | apply pw_below_drewN | apply below_drew1) | exact HB.out))) : w.heap.size ≤ gb182)); have n3_ := Aside0.mk ((by rw [hg]; exact (below_size (by repeat (first | (with_reducible first | exact HB.out | apply below_alloc | apply pw_below_drewN | apply below_drew1) | exact HB.out))) : w.heap.size ≤ gb182)); clear HB; have HB := n0_; have BK182 := n1_; have GW182 := n2_; have GE182 := n3_; clear n0_ n1_ n2_ n3_; clear hb hbox hg) | ((with_reducible refine gate_dst (N := 3) rfl ?_); (try (refine gate_guard (by rfl) ?_; dsimp only)); refine box_event ?hg (N := 3) ?hd (cs := #[.int .i64 a1_0, .int .i64 a1_1, .slice A1_2 l1_2.length c1_2]) (t := 24) ?hr ?_; (case hd => rfl); (case hg => rfl); (case hr => first | (go_simp; done) | (go_simp; rfl)); intro gb183 hg w5 hbox hb; have n0_ := Aside0.mk (blk_below (g := gb182) (o := .cells #[.int .i64 a0_0, .int .i64 a0_1, .slice A0_2 l0_2.length c0_2] 24 (0, 0)) (by (with_reducible repeat (first | refine blk_drewN ?_ _ | refine blk_drew ?_ | refine blk_alloc ?_ _)); exact BK182.out) hb); have n1_ := Aside0.mk (below_step (by repeat (first | (with_reducible first | exact HB.out | apply below_alloc | apply pw_below_drewN | apply below_drew1 | refine below_set ?_ GE182.out) | exact HB.out)) hb); have n2_ := Aside0.mk (hbox); have n3_ := Aside0.mk ((by rw [hg]; exact (below_size (by repeat (first | (with_reducible first | exact HB.out | apply below_alloc | apply pw_below_drewN | apply below_drew1 | refine below_set ?_ GE182.out) | exact HB.out))) : w.heap.size ≤ gb183)); have n4_ := Aside0.mk ((by rw [hg]; exact (below_size (by repeat (first | (with_reducible first | exact HB.out | apply below_alloc | apply pw_below_drewN | apply below_drew1 | refine below_set ?_ GE182.out) | exact HB.out))) : w.heap.size ≤ gb183)); have n5_ := Aside0.mk ((by rw [hg]; exact Nat.ne_of_lt (blk_lt (g := gb182) (o := .cells #[.int .i64 a0_0, .int .i64 a0_1, .slice A0_2 l0_2.length c0_2] 24 (0, 0)) (by (with_reducible repeat (first | refine blk_drewN ?_ _ | refine blk_drew ?_ | refine blk_alloc ?_ _)); exact BK182.out)) : gb182 ≠ gb183)); have n6_ := Aside0.mk ((by rw [hg]; exact Nat.ne_of_gt (blk_lt (g := gb182) (o := .cells #[.int .i64 a0_0, .int .i64 a0_1, .slice A0_2 l0_2.length c0_2] 24 (0, 0)) (by (with_reducible repeat (first | refine blk_drewN ?_ _ | refine blk_drew ?_ | refine blk_alloc ?_ _)); exact BK182.out)) : gb183 ≠ gb182)); clear BK182; clear HB; have BK182 := n0_; have HB := n1_; have BK183 := n2_; have GW183 := n3_; have GE183 := n4_; have NB182_183 := n5_; have NB183_182 := n6_; clear n0_ n1_ n2_ n3_ n4_ n5_ n6_; clear hb hbox hg)))
  (try simp only [Act.put, List.setIfInBounds_toArray, List.set_cons_zero, List.set_cons_succ])
  go_cut [26] (fun v26 wc => ∃ (kq : Nat) (x26_2 : Bool), v26 = .bool x26_2 ∧ Aside0 (mapsheetsref54_Same.j0 kq x26_2 a0_0 a0_1 l0_2 a1_0 a1_1 l1_2 = some r) ∧ Aside0 (kq ≤ k) ∧ Aside0 (wc.heap[gb182]? = some (.cells #[.int .i64 a0_0, .int .i64 a0_1, (.slice A0_2 l0_2.length c0_2)] 24 (0, 0))) ∧ Aside0 (wc.heap[gb183]? = some (.cells #[.int .i64 a1_0, .int .i64 a1_1, (.slice A1_2 l1_2.length c1_2)] 24 (0, 0))) ∧ Aside0 (Below w.heap.size w wc))
  case first =>
    have H := HC3.out
    clear HC3
    by_cases c6 : a0_0 = a1_0
    · rw [if_pos c6] at H
      have c6b0 : (a0_0 == a1_0) = true := beq_iff_eq.mpr c6
      have c6b1 : (a0_0 != a1_0) = false := bne_eq_false_iff_eq.mpr c6
      clear c6
      (first | rw [c6b0] | (simp only [i64_w, i32_w]; rw [c6b0]) | skip)
      by_cases c7 : a0_1 = a1_1
      · rw [if_pos c7] at H
        have c7b0 : (a0_1 == a1_1) = true := beq_iff_eq.mpr c7
        have c7b1 : (a0_1 != a1_1) = false := bne_eq_false_iff_eq.mpr c7
        clear c7
        have H' := Aside0.mk H
        clear H
        have hnb8 := NB182_183.out
        have hnc8 := NB183_182.out
        have hcz9_0 : w5.cell? ⟨gb182, 0, none⟩ = some (.int .i64 a0_0) := (blk_cell BK182.out 0).trans rfl
        have hcz9_1 : w5.cell? ⟨gb182, 1, none⟩ = some (.int .i64 a0_1) := (blk_cell BK182.out 1).trans rfl
        have hcz9_2 : w5.cell? ⟨gb182, 2, none⟩ = some (.slice A0_2 l0_2.length c0_2) := (blk_cell BK182.out 2).trans rfl
        have hfz9_0 := blk_frozen BK182.out 0
        have hfz9_1 := blk_frozen BK182.out 1
        have hfz9_2 := blk_frozen BK182.out 2
        have hcz10_0 : w5.cell? ⟨gb183, 0, none⟩ = some (.int .i64 a1_0) := (blk_cell BK183.out 0).trans rfl
        have hcz10_1 : w5.cell? ⟨gb183, 1, none⟩ = some (.int .i64 a1_1) := (blk_cell BK183.out 1).trans rfl
        have hcz10_2 : w5.cell? ⟨gb183, 2, none⟩ = some (.slice A1_2 l1_2.length c1_2) := (blk_cell BK183.out 2).trans rfl
        have hfz10_0 := blk_frozen BK183.out 0
        have hfz10_1 := blk_frozen BK183.out 1
        have hfz10_2 := blk_frozen BK183.out 2
        go_wp2
        repeat (go_quiet (fail); try go_wp2)
        go_meet
        case rel => exact ⟨_, (((l0_2.length : Int) != (l1_2.length : Int))), (by first | rfl | (simp; done) | (simp [*]; done)), H', ⟨by first | omega | exact Nat.le_refl _⟩, ⟨by (with_reducible repeat (first | refine blk_drewN ?_ _ | refine blk_drew ?_ | refine blk_alloc ?_ _)); exact BK182.out⟩, ⟨by (with_reducible repeat (first | refine blk_drewN ?_ _ | refine blk_drew ?_ | refine blk_alloc ?_ _)); exact BK183.out⟩, ⟨by repeat (first | (with_reducible first | exact HB.out | apply below_alloc | apply pw_below_drewN | apply below_drew1 | refine below_set ?_ GE182.out | refine below_set ?_ GE183.out) | exact HB.out)⟩⟩
      · rw [if_neg c7] at H
        have c7b0 : (a0_1 == a1_1) = false := beq_eq_false_iff_ne.mpr c7
        have c7b1 : (a0_1 != a1_1) = true := bne_iff_ne.mpr c7
        have H' := Aside0.mk H
        clear H
        have hnb11 := NB182_183.out
        have hnc11 := NB183_182.out
        have hcz12_0 : w5.cell? ⟨gb182, 0, none⟩ = some (.int .i64 a0_0) := (blk_cell BK182.out 0).trans rfl
        have hcz12_1 : w5.cell? ⟨gb182, 1, none⟩ = some (.int .i64 a0_1) := (blk_cell BK182.out 1).trans rfl
        have hcz12_2 : w5.cell? ⟨gb182, 2, none⟩ = some (.slice A0_2 l0_2.length c0_2) := (blk_cell BK182.out 2).trans rfl
        have hfz12_0 := blk_frozen BK182.out 0
        have hfz12_1 := blk_frozen BK182.out 1
        have hfz12_2 := blk_frozen BK182.out 2
        have hcz13_0 : w5.cell? ⟨gb183, 0, none⟩ = some (.int .i64 a1_0) := (blk_cell BK183.out 0).trans rfl
        have hcz13_1 : w5.cell? ⟨gb183, 1, none⟩ = some (.int .i64 a1_1) := (blk_cell BK183.out 1).trans rfl
        have hcz13_2 : w5.cell? ⟨gb183, 2, none⟩ = some (.slice A1_2 l1_2.length c1_2) := (blk_cell BK183.out 2).trans rfl
        have hfz13_0 := blk_frozen BK183.out 0
        have hfz13_1 := blk_frozen BK183.out 1
        have hfz13_2 := blk_frozen BK183.out 2
        go_wp2
        repeat (go_quiet (fail); try go_wp2)
        go_meet
        case rel => exact ⟨_, (true), (by first | rfl | (simp; done) | (simp [*]; done)), H', ⟨by first | omega | exact Nat.le_refl _⟩, ⟨by (with_reducible repeat (first | refine blk_drewN ?_ _ | refine blk_drew ?_ | refine blk_alloc ?_ _)); exact BK182.out⟩, ⟨by (with_reducible repeat (first | refine blk_drewN ?_ _ | refine blk_drew ?_ | refine blk_alloc ?_ _)); exact BK183.out⟩, ⟨by repeat (first | (with_reducible first | exact HB.out | apply below_alloc | apply pw_below_drewN | apply below_drew1 | refine below_set ?_ GE182.out | refine below_set ?_ GE183.out) | exact HB.out)⟩⟩
    · rw [if_neg c6] at H
      have c6b0 : (a0_0 == a1_0) = false := beq_eq_false_iff_ne.mpr c6
      have c6b1 : (a0_0 != a1_0) = true := bne_iff_ne.mpr c6
      (first | rw [c6b0] | (simp only [i64_w, i32_w]; rw [c6b0]) | skip)
      have H' := Aside0.mk H
      clear H
      have hnb14 := NB182_183.out
      have hnc14 := NB183_182.out
      have hcz15_0 : w5.cell? ⟨gb182, 0, none⟩ = some (.int .i64 a0_0) := (blk_cell BK182.out 0).trans rfl
      have hcz15_1 : w5.cell? ⟨gb182, 1, none⟩ = some (.int .i64 a0_1) := (blk_cell BK182.out 1).trans rfl
      have hcz15_2 : w5.cell? ⟨gb182, 2, none⟩ = some (.slice A0_2 l0_2.length c0_2) := (blk_cell BK182.out 2).trans rfl
      have hfz15_0 := blk_frozen BK182.out 0
      have hfz15_1 := blk_frozen BK182.out 1
      have hfz15_2 := blk_frozen BK182.out 2
      have hcz16_0 : w5.cell? ⟨gb183, 0, none⟩ = some (.int .i64 a1_0) := (blk_cell BK183.out 0).trans rfl
      have hcz16_1 : w5.cell? ⟨gb183, 1, none⟩ = some (.int .i64 a1_1) := (blk_cell BK183.out 1).trans rfl
      have hcz16_2 : w5.cell? ⟨gb183, 2, none⟩ = some (.slice A1_2 l1_2.length c1_2) := (blk_cell BK183.out 2).trans rfl
      have hfz16_0 := blk_frozen BK183.out 0
      have hfz16_1 := blk_frozen BK183.out 1
      have hfz16_2 := blk_frozen BK183.out 2
      go_wp2
      repeat (go_quiet (fail); try go_wp2)
      go_meet
      case rel => exact ⟨_, (true), (by first | rfl | (simp; done) | (simp [*]; done)), H', ⟨by first | omega | exact Nat.le_refl _⟩, ⟨by (with_reducible repeat (first | refine blk_drewN ?_ _ | refine blk_drew ?_ | refine blk_alloc ?_ _)); exact BK182.out⟩, ⟨by (with_reducible repeat (first | refine blk_drewN ?_ _ | refine blk_drew ?_ | refine blk_alloc ?_ _)); exact BK183.out⟩, ⟨by repeat (first | (with_reducible first | exact HB.out | apply below_alloc | apply pw_below_drewN | apply below_drew1 | refine below_set ?_ GE182.out | refine below_set ?_ GE183.out) | exact HB.out)⟩⟩
  case rest =>
    clear HC3
    try clear c1
    try clear p2
    try clear c6
    try clear c6b0
    try clear c6b1
    try clear c7
    try clear c7b0
    try clear c7b1
    try clear c8
    try clear c11
    try clear c14
    try clear hcz10_0
    try clear hcz10_1
    try clear hcz10_2
    try clear hcz12_0
    try clear hcz12_1
    try clear hcz12_2
    try clear hcz13_0
    try clear hcz13_1
    try clear hcz13_2
    try clear hcz15_0
    try clear hcz15_1
    try clear hcz15_2
    try clear hcz16_0
    try clear hcz16_1
    try clear hcz16_2
    try clear hcz9_0
    try clear hcz9_1
    try clear hcz9_2
    try clear hfz10_0
    try clear hfz10_1
    try clear hfz10_2
    try clear hfz12_0
    try clear hfz12_1
    try clear hfz12_2
    try clear hfz13_0
    try clear hfz13_1
    try clear hfz13_2
    try clear hfz15_0
    try clear hfz15_1
    try clear hfz15_2
    try clear hfz16_0
    try clear hfz16_1
    try clear hfz16_2
    try clear hfz9_0
    try clear hfz9_1
    try clear hfz9_2
    obtain ⟨kq, x26_2, rfl, HA, HJ2, BK182, BK183, HB⟩ := hcut
    cases kq with
    | zero => exact absurd HA.out (by simp [mapsheetsref54_Same.j0])
    | succ kj2 =>
      have H := HA.out
      clear HA
      simp only [mapsheetsref54_Same.j0] at H
      by_cases c17 : x26_2 = true
      · subst c17
        have H1 : (some false) = some r := by rw [if_pos rfl] at H; exact H
        clear H
        have H := H1
        clear H1
        obtain rfl := Option.some.inj H
        go_wp2
        repeat (go_quiet (fail); try go_wp2)
        go_ret
        exact ⟨by first | rfl | (simp [errW_none, errW_some] <;> rfl) | (simp [*, errW_none, errW_some] <;> rfl), by repeat (first | (with_reducible first | exact HB.out | apply below_alloc | apply pw_below_drewN | apply below_drew1 | refine below_set ?_ GE182.out | refine below_set ?_ GE183.out) | exact HB.out)⟩
      · replace c17 := Bool.eq_false_iff.mpr c17
        subst c17
        have H1 : (mapsheetsref54_Same.l0 kj2 0 a0_0 a0_1 l0_2 a1_0 a1_1 l1_2) = some r := by rw [if_neg (show ¬ (false = true) by decide)] at H; exact H
        clear H
        have H := H1
        clear H1
        have H' := Aside0.mk H
        clear H
        go_wp2
        repeat (go_quiet (fail); try go_wp2)
        go_loopg [5] kj2 (fun kq v5 w' => ∃ (x5_2 : Int), v5 = .int .i64 x5_2 ∧ Aside0 (mapsheetsref54_Same.l0 kq x5_2 a0_0 a0_1 l0_2 a1_0 a1_1 l1_2 = some r) ∧ Aside0 (kq ≤ kj2) ∧ Aside0 (w'.heap[gb182]? = some (.cells #[.int .i64 a0_0, .int .i64 a0_1, (.slice A0_2 l0_2.length c0_2)] 24 (0, 0))) ∧ Aside0 (w'.heap[gb183]? = some (.cells #[.int .i64 a1_0, .int .i64 a1_1, (.slice A1_2 l1_2.length c1_2)] 24 (0, 0))) ∧ Aside0 (Below w.heap.size w w'))
        case atStart => exact ⟨(0), (by first | rfl | (simp; done) | (simp [*]; done)), H', ⟨Nat.le_refl _⟩, ⟨by (with_reducible repeat (first | refine blk_drewN ?_ _ | refine blk_drew ?_ | refine blk_alloc ?_ _)); exact BK182.out⟩, ⟨by (with_reducible repeat (first | refine blk_drewN ?_ _ | refine blk_drew ?_ | refine blk_alloc ?_ _)); exact BK183.out⟩, ⟨by repeat (first | (with_reducible first | exact HB.out | apply below_alloc | apply pw_below_drewN | apply below_drew1 | refine below_set ?_ GE182.out | refine below_set ?_ GE183.out) | exact HB.out)⟩⟩
        case round =>
          clear H'
          try clear c1
          try clear p2
          try clear c6
          try clear c6b0
          try clear c6b1
          try clear c7
          try clear c7b0
          try clear c7b1
          try clear c8
          try clear c11
          try clear c14
          try clear c17
          try clear hcz10_0
          try clear hcz10_1
          try clear hcz10_2
          try clear hcz12_0
          try clear hcz12_1
          try clear hcz12_2
          try clear hcz13_0
          try clear hcz13_1
          try clear hcz13_2
          try clear hcz15_0
          try clear hcz15_1
          try clear hcz15_2
          try clear hcz16_0
          try clear hcz16_1
          try clear hcz16_2
          try clear hcz9_0
          try clear hcz9_1
          try clear hcz9_2
          try clear hfz10_0
          try clear hfz10_1
          try clear hfz10_2
          try clear hfz12_0
          try clear hfz12_1
          try clear hfz12_2
          try clear hfz13_0
          try clear hfz13_1
          try clear hfz13_2
          try clear hfz15_0
          try clear hfz15_1
          try clear hfz15_2
          try clear hfz16_0
          try clear hfz16_1
          try clear hfz16_2
          try clear hfz9_0
          try clear hfz9_1
          try clear hfz9_2
          try clear p2
          obtain ⟨x5_2, rfl, HA, HK2, BK182, BK183, HB⟩ := hrel
          cases gk with
          | zero => exact absurd HA.out (by simp [mapsheetsref54_Same.l0])
          | succ k2 =>
            have H := HA.out
            clear HA
            simp only [mapsheetsref54_Same.l0] at H
            by_cases c18 : x5_2 < (l0_2.length : Int)
            · rw [if_pos c18] at H
              have c18b0 : decide (x5_2 < (l0_2.length : Int)) = true := decide_eq_true c18
              clear c18
              by_cases c19 : 0 ≤ x5_2
              · rw [if_pos c19] at H
                have c19b0 : decide (0 ≤ x5_2) = true := decide_eq_true c19
                clear c19
                by_cases c20 : x5_2 < (l1_2.length : Int)
                · rw [if_pos c20] at H
                  have c20b0 : decide (x5_2 < (l1_2.length : Int)) = true := decide_eq_true c20
                  clear c20
                  by_cases c21 : (rd l0_2 x5_2) = (rd l1_2 x5_2)
                  · rw [if_pos c21] at H
                    have c21b0 : ((rd l0_2 x5_2) == (rd l1_2 x5_2)) = true := beq_iff_eq.mpr c21
                    have c21b1 : ((rd l0_2 x5_2) != (rd l1_2 x5_2)) = false := bne_eq_false_iff_eq.mpr c21
                    clear c21
                    have H' := Aside0.mk H
                    clear H
                    have hnb22 := NB182_183.out
                    have hnc22 := NB183_182.out
                    have hcz23_0 : wr.cell? ⟨gb182, 0, none⟩ = some (.int .i64 a0_0) := (blk_cell BK182.out 0).trans rfl
                    have hcz23_1 : wr.cell? ⟨gb182, 1, none⟩ = some (.int .i64 a0_1) := (blk_cell BK182.out 1).trans rfl
                    have hcz23_2 : wr.cell? ⟨gb182, 2, none⟩ = some (.slice A0_2 l0_2.length c0_2) := (blk_cell BK182.out 2).trans rfl
                    have hfz23_0 := blk_frozen BK182.out 0
                    have hfz23_1 := blk_frozen BK182.out 1
                    have hfz23_2 := blk_frozen BK182.out 2
                    have p184 : 0 ≤ (x5_2 : Int) := of_decide_eq_true (by first | (with_reducible assumption) | assumption)
                    have q184 : x5_2 < (l0_2.length : Int) := of_decide_eq_true (by first | (with_reducible assumption) | assumption)
                    obtain ⟨ad184, e184, hx184_0⟩ := Kd.at_int HR0_2.out x5_2 p184 q184
                    cases e184
                    replace hx184_0 := (HB.out.cell (World.block_lt_of_cell? w _ hx184_0)).trans hx184_0
                    replace p184 := eq_true p184
                    replace q184 := eq_true q184
                    have hcz24_0 : wr.cell? ⟨gb183, 0, none⟩ = some (.int .i64 a1_0) := (blk_cell BK183.out 0).trans rfl
                    have hcz24_1 : wr.cell? ⟨gb183, 1, none⟩ = some (.int .i64 a1_1) := (blk_cell BK183.out 1).trans rfl
                    have hcz24_2 : wr.cell? ⟨gb183, 2, none⟩ = some (.slice A1_2 l1_2.length c1_2) := (blk_cell BK183.out 2).trans rfl
                    have hfz24_0 := blk_frozen BK183.out 0
                    have hfz24_1 := blk_frozen BK183.out 1
                    have hfz24_2 := blk_frozen BK183.out 2
                    have p185 : 0 ≤ (x5_2 : Int) := of_decide_eq_true (by first | (with_reducible assumption) | assumption)
                    have q185 : x5_2 < (l1_2.length : Int) := of_decide_eq_true (by first | (with_reducible assumption) | assumption)
                    obtain ⟨ad185, e185, hx185_0⟩ := Kd.at_int HR1_2.out x5_2 p185 q185
                    cases e185
                    replace hx185_0 := (HB.out.cell (World.block_lt_of_cell? w _ hx185_0)).trans hx185_0
                    replace p185 := eq_true p185
                    replace q185 := eq_true q185
                    go_wp2
                    repeat (go_quiet (fail); try go_wp2)
                    go_roundg k2
                    case measure => have := HJ2.out; have := HK2.out; omega
                    case rel => exact ⟨(wrap64 (x5_2 + 1)), (by first | rfl | (simp; done) | (simp [*]; done)), H', ⟨by have := HJ2.out; have := HK2.out; omega⟩, ⟨by (with_reducible repeat (first | refine blk_drewN ?_ _ | refine blk_drew ?_ | refine blk_alloc ?_ _)); exact BK182.out⟩, ⟨by (with_reducible repeat (first | refine blk_drewN ?_ _ | refine blk_drew ?_ | refine blk_alloc ?_ _)); exact BK183.out⟩, ⟨by repeat (first | (with_reducible first | exact HB.out | apply below_alloc | apply pw_below_drewN | apply below_drew1 | refine below_set ?_ GE182.out | refine below_set ?_ GE183.out) | exact HB.out)⟩⟩
                  · rw [if_neg c21] at H
                    have c21b0 : ((rd l0_2 x5_2) == (rd l1_2 x5_2)) = false := beq_eq_false_iff_ne.mpr c21
                    have c21b1 : ((rd l0_2 x5_2) != (rd l1_2 x5_2)) = true := bne_iff_ne.mpr c21
                    obtain rfl := Option.some.inj H
                    have hnb25 := NB182_183.out
                    have hnc25 := NB183_182.out
                    have hcz26_0 : wr.cell? ⟨gb182, 0, none⟩ = some (.int .i64 a0_0) := (blk_cell BK182.out 0).trans rfl
                    have hcz26_1 : wr.cell? ⟨gb182, 1, none⟩ = some (.int .i64 a0_1) := (blk_cell BK182.out 1).trans rfl
                    have hcz26_2 : wr.cell? ⟨gb182, 2, none⟩ = some (.slice A0_2 l0_2.length c0_2) := (blk_cell BK182.out 2).trans rfl
                    have hfz26_0 := blk_frozen BK182.out 0
                    have hfz26_1 := blk_frozen BK182.out 1
                    have hfz26_2 := blk_frozen BK182.out 2
                    have p184 : 0 ≤ (x5_2 : Int) := of_decide_eq_true (by first | (with_reducible assumption) | assumption)
                    have q184 : x5_2 < (l0_2.length : Int) := of_decide_eq_true (by first | (with_reducible assumption) | assumption)
                    obtain ⟨ad184, e184, hx184_0⟩ := Kd.at_int HR0_2.out x5_2 p184 q184
                    cases e184
                    replace hx184_0 := (HB.out.cell (World.block_lt_of_cell? w _ hx184_0)).trans hx184_0
                    replace p184 := eq_true p184
                    replace q184 := eq_true q184
                    have hcz27_0 : wr.cell? ⟨gb183, 0, none⟩ = some (.int .i64 a1_0) := (blk_cell BK183.out 0).trans rfl
                    have hcz27_1 : wr.cell? ⟨gb183, 1, none⟩ = some (.int .i64 a1_1) := (blk_cell BK183.out 1).trans rfl
                    have hcz27_2 : wr.cell? ⟨gb183, 2, none⟩ = some (.slice A1_2 l1_2.length c1_2) := (blk_cell BK183.out 2).trans rfl
                    have hfz27_0 := blk_frozen BK183.out 0
                    have hfz27_1 := blk_frozen BK183.out 1
                    have hfz27_2 := blk_frozen BK183.out 2
                    have p185 : 0 ≤ (x5_2 : Int) := of_decide_eq_true (by first | (with_reducible assumption) | assumption)
                    have q185 : x5_2 < (l1_2.length : Int) := of_decide_eq_true (by first | (with_reducible assumption) | assumption)
                    obtain ⟨ad185, e185, hx185_0⟩ := Kd.at_int HR1_2.out x5_2 p185 q185
                    cases e185
                    replace hx185_0 := (HB.out.cell (World.block_lt_of_cell? w _ hx185_0)).trans hx185_0
                    replace p185 := eq_true p185
                    replace q185 := eq_true q185
                    go_wp2
                    repeat (go_quiet (fail); try go_wp2)
                    go_ret
                    exact ⟨by first | rfl | (simp [errW_none, errW_some] <;> rfl) | (simp [*, errW_none, errW_some] <;> rfl), by repeat (first | (with_reducible first | exact HB.out | apply below_alloc | apply pw_below_drewN | apply below_drew1 | refine below_set ?_ GE182.out | refine below_set ?_ GE183.out) | exact HB.out)⟩
                · rw [if_neg c20] at H
                  exact absurd H (by simp)
              · rw [if_neg c19] at H
                exact absurd H (by simp)
            · rw [if_neg c18] at H
              have c18b0 : decide (x5_2 < (l0_2.length : Int)) = false := decide_eq_false c18
              clear c18
              obtain rfl := Option.some.inj H
              have hnb28 := NB182_183.out
              have hnc28 := NB183_182.out
              have hcz29_0 : wr.cell? ⟨gb182, 0, none⟩ = some (.int .i64 a0_0) := (blk_cell BK182.out 0).trans rfl
              have hcz29_1 : wr.cell? ⟨gb182, 1, none⟩ = some (.int .i64 a0_1) := (blk_cell BK182.out 1).trans rfl
              have hcz29_2 : wr.cell? ⟨gb182, 2, none⟩ = some (.slice A0_2 l0_2.length c0_2) := (blk_cell BK182.out 2).trans rfl
              have hfz29_0 := blk_frozen BK182.out 0
              have hfz29_1 := blk_frozen BK182.out 1
              have hfz29_2 := blk_frozen BK182.out 2
              go_wp2
              repeat (go_quiet (fail); try go_wp2)
              go_ret
              exact ⟨by first | rfl | (simp [errW_none, errW_some] <;> rfl) | (simp [*, errW_none, errW_some] <;> rfl), by repeat (first | (with_reducible first | exact HB.out | apply below_alloc | apply pw_below_drewN | apply below_drew1 | refine below_set ?_ GE182.out | refine below_set ?_ GE183.out) | exact HB.out)⟩

/-! ### plates_reduced: function 37 -/
/-! Arrays of four numbers. -/
def arr4 (F : Nat → Int) : Array Value := #[.int .i64 (F 0), .int .i64 (F 1), .int .i64 (F 2), .int .i64 (F 3)]
theorem arr4_get (F : Nat → Int) (k : Nat) (h : k < 4) : (arr4 F)[k]? = some (.int .i64 (F k)) := by
  rcases k with _ | _ | _ | _ | k <;> first | rfl | omega
theorem arr4_set (F : Nat → Int) (k : Nat) (x : Int) : (arr4 F).setIfInBounds k (.int .i64 x) = arr4 (fun j => if j = k then x else F j) := by
  rcases k with _ | _ | _ | _ | k <;> first | rfl | simp [arr4, Array.setIfInBounds]
theorem arr4_congr {F G : Nat → Int} (h : ∀ j, j < 4 → F j = G j) : arr4 F = arr4 G := by
  simp only [arr4, h 0 (by omega), h 1 (by omega), h 2 (by omega), h 3 (by omega)]
def At4 (w : World) (g : Nat) (F : Nat → Int) : Prop := w.heap[g]? = some (.cells (arr4 F) 53 (0, 0))
theorem At4.get {w : World} {g : Nat} {F : Nat → Int} (h : At4 w g F) (k : Nat) (hk : k < 4) : w.cell? ⟨g, k, none⟩ = some (.int .i64 (F k)) := (blk_cell h k).trans (arr4_get F k hk)
theorem At4.put {w : World} {g : Nat} {F : Nat → Int} (h : At4 w g F) (k : Nat) (x : Int) : At4 (w.setCell ⟨g, k, none⟩ (.int .i64 x)) g (fun j => if j = k then x else F j) := blk_put h k _ (arr4_set F k x)
theorem At4.same {w : World} {g : Nat} {F G : Nat → Int} (h : At4 w g F) (e : ∀ j, j < 4 → F j = G j) : At4 w g G := by
  unfold At4 at h ⊢
  rw [h, arr4_congr e]
theorem At4.cells {w : World} {g : Nat} {F : Nat → Int} (h : At4 w g F) : w.cell? ⟨g, 0, none⟩ = some (.int .i64 (F 0)) ∧ w.cell? ⟨g, 1, none⟩ = some (.int .i64 (F 1)) ∧ w.cell? ⟨g, 2, none⟩ = some (.int .i64 (F 2)) ∧ w.cell? ⟨g, 3, none⟩ = some (.int .i64 (F 3)) := ⟨h.get 0 (by omega), h.get 1 (by omega), h.get 2 (by omega), h.get 3 (by omega)⟩
theorem At4.frz {w : World} {g : Nat} {F : Nat → Int} (h : At4 w g F) : w.frozen? ⟨g, 0, none⟩ = false ∧ w.frozen? ⟨g, 1, none⟩ = false ∧ w.frozen? ⟨g, 2, none⟩ = false ∧ w.frozen? ⟨g, 3, none⟩ = false := ⟨blk_frozen h 0, blk_frozen h 1, blk_frozen h 2, blk_frozen h 3⟩
theorem At4.store {w : World} {g : Nat} {F : Nat → Int} (h : At4 w g F) (G : Nat → Int) : At4 ((((w.setCell ⟨g, 0, none⟩ (.int .i64 (G 0))).setCell ⟨g, 1, none⟩ (.int .i64 (G 1))).setCell ⟨g, 2, none⟩ (.int .i64 (G 2))).setCell ⟨g, 3, none⟩ (.int .i64 (G 3))) g G := by
  have h4 := (((h.put 0 (G 0)).put 1 (G 1)).put 2 (G 2)).put 3 (G 3)
  unfold At4 at h4 ⊢
  rw [h4]
  rfl
/-- The inks of a cell with at most 'most' together. -/
def lim (c : Nat → Int) (most : Int) (j : Nat) : Int :=
  if c 0 + c 1 + c 2 + c 3 ≤ most then c j else if c 3 > most then (if j = 3 then most else 0) else if j < 3 then c j * (most - c 3) / (c 0 + c 1 + c 2) else c 3
theorem pboxes2 (w : World) (o1 o2 : Array Value) (t1 t2 : TypeId) : ((w.alloc (.cells o1 t1 (0, 0))).alloc (.cells o2 t2 (0, 0))).heap[w.heap.size]? = some (.cells o1 t1 (0, 0)) ∧ ((w.alloc (.cells o1 t1 (0, 0))).alloc (.cells o2 t2 (0, 0))).heap[w.heap.size + 1]? = some (.cells o2 t2 (0, 0)) ∧ Below w.heap.size w ((w.alloc (.cells o1 t1 (0, 0))).alloc (.cells o2 t2 (0, 0))) := by
  refine ⟨?_, ?_, below_alloc (below_alloc (Below.refl w.heap.size w) _) _⟩
  · exact blk_below (heap_alloc_new w _) (below_alloc (Below.refl _ _) _)
  · have := heap_alloc_new (w.alloc (.cells o1 t1 (0, 0))) (.cells o2 t2 (0, 0))
    simpa using this
set_option maxHeartbeats 2000000 in
theorem reduced_calls (c : Nat → Int) (most : Int) (w : World) (hc : ∀ j, j < 4 → 0 ≤ c j ∧ c j ≤ 100) (hm0 : 0 ≤ most) (hm1 : most ≤ 400) :
    Calls Try.prog 37 #[.agg (arr4 c), .int .i64 most] w fun e w' => e = .returned (.agg (arr4 (lim c most))) ∧ Below w.heap.size w w' := by
  have hb2 := pboxes2 w (arr4 c) (arr4 fun _ => 0) 53 53
  have HC := Aside0.mk hc
  obtain ⟨c00, c01⟩ := hc 0 (by omega)
  obtain ⟨c10, c11⟩ := hc 1 (by omega)
  obtain ⟨c20, c21⟩ := hc 2 (by omega)
  obtain ⟨c30, c31⟩ := hc 3 (by omega)
  clear hc
  go_enter Try.func37, Try.ntmps37
  go_upto_region 1 with fail
  change Code.wp _ _ _ _ ((w.alloc (.cells (arr4 c) 53 (0, 0))).alloc (.cells (arr4 fun _ => 0) 53 (0, 0)))
  generalize (w.alloc (.cells (arr4 c) 53 (0, 0))).alloc (.cells (arr4 fun _ => 0) 53 (0, 0)) = wa at hb2 ⊢
  obtain ⟨hg1, hg2, hbw⟩ := hb2
  generalize hg_ : w.heap.size = g at hg1 hg2
  have HA := Aside0.mk (show At4 wa g c from hg1)
  have HR := Aside0.mk (show At4 wa (g + 1) (fun _ => 0) from hg2)
  have HB := Aside0.mk hbw
  have HGE := Aside0.mk hg_
  clear hg1 hg2 hbw hg_
  obtain ⟨q0, q1, q2, q3⟩ := HA.out.cells
  go_cut [5, 6] (fun v5 v6 wc => v5 = .int .i64 (c 0 + c 1 + c 2) ∧ v6 = .int .i64 (c 3) ∧ ∃ n, wc = wa.drewN n)
  case first =>
    go_quiet (fail)
    go_wp2_with fail
    go_meet
    exact ⟨rfl, rfl, _, rfl⟩
  case rest =>
  obtain ⟨wd, hw_⟩ : ∃ x : World, x = wc := ⟨_, rfl⟩
  subst hw_
  obtain ⟨rfl, rfl, nd, hwd⟩ := hcut
  have HA2 : Aside0 (At4 wd g c) := ⟨by rw [hwd]; exact blk_drewN HA.out nd⟩
  have HR2 : Aside0 (At4 wd (g + 1) (fun _ => 0)) := ⟨by rw [hwd]; exact blk_drewN HR.out nd⟩
  have HB2 : Aside0 (Below w.heap.size w wd) := ⟨by rw [hwd]; exact pw_below_drewN HB.out nd⟩
  clear hwd HA HR HB q0 q1 q2 q3
  have hs0 : 0 ≤ c 0 + c 1 + c 2 := by omega
  have hs1 : c 0 + c 1 + c 2 ≤ 300 := by omega
  go_upto_block 0 with fail
  go_cut [] (fun wc => Aside0 (At4 wc g (lim c most)) ∧ Aside0 (At4 wc (g + 1) (fun _ => 0)) ∧ Aside0 (Below w.heap.size w wc))
  case first =>
    obtain ⟨q0, q1, q2, q3⟩ := HA2.out.cells
    have hge : w.heap.size ≤ g := by have := HGE.out; omega
    by_cases h1 : c 0 + c 1 + c 2 + c 3 ≤ most
    · have d1 : decide (c 0 + c 1 + c 2 + c 3 ≤ most) = true := by simp [h1]
      have HL : Aside0 (At4 wd g (lim c most)) := ⟨HA2.out.same fun j _ => by unfold lim; rw [if_pos h1]⟩
      go_wp2
      go_meet
      exact ⟨HL, HR2, HB2⟩
    · have d1 : decide (c 0 + c 1 + c 2 + c 3 ≤ most) = false := by simp [h1]
      by_cases h2 : most < c 3
      · have d2 : decide (c 3 > most) = true := by simp; omega
        have d3 : decide (most < c 3) = true := by simp; omega
        obtain ⟨z0, z1, z2, z3⟩ := HA2.out.frz
        have HL : Aside0 (At4 ((((wd.setCell ⟨g, 0, none⟩ (.int .i64 0)).setCell ⟨g, 1, none⟩ (.int .i64 0)).setCell ⟨g, 2, none⟩ (.int .i64 0)).setCell ⟨g, 3, none⟩ (.int .i64 most)) g (lim c most)) := ⟨(HA2.out.store fun j => if j = 3 then most else 0).same fun j _ => by unfold lim; rw [if_neg h1, if_pos (show c 3 > most from h2)]⟩
        have HL2 : Aside0 (At4 ((((wd.setCell ⟨g, 0, none⟩ (.int .i64 0)).setCell ⟨g, 1, none⟩ (.int .i64 0)).setCell ⟨g, 2, none⟩ (.int .i64 0)).setCell ⟨g, 3, none⟩ (.int .i64 most)) (g + 1) (fun _ => 0)) := ⟨blk_far (blk_far (blk_far (blk_far HR2.out (show g + 1 ≠ g by omega) _) (show g + 1 ≠ g by omega) _) (show g + 1 ≠ g by omega) _) (show g + 1 ≠ g by omega) _⟩
        go_wp2
        go_meet
        exact ⟨HL, HL2, ⟨below_set (below_set (below_set (below_set HB2.out hge) hge) hge) hge⟩⟩
      · have d2 : decide (c 3 > most) = false := by simp; omega
        have d3 : decide (most < c 3) = false := by simp; omega
        have hsp : 0 < c 0 + c 1 + c 2 := by omega
        have hr0 : 0 ≤ most - c 3 := by omega
        have hr1 : most - c 3 ≤ 400 := by omega
        have HH1 := Aside0.mk h1
        have HH2 := Aside0.mk h2
        clear h1 h2 q0 q1 q2
        go_wp2
        go_loopw [18] (fun i wr => ∃ k : Nat, k ≤ 3 ∧ i = .int .i64 k ∧ Aside0 (At4 wr g (fun j => if j < k then lim c most j else c j)) ∧ Aside0 (At4 wr (g + 1) (fun _ => 0)) ∧ Aside0 (Below w.heap.size w wr)) (fun i _ => 3 - (intOf i).toNat)
        case atStart => exact ⟨0, by omega, rfl, ⟨HA2.out.same fun j _ => by simp⟩, HR2, HB2⟩
        case round =>
          obtain ⟨k, hk, rfl, HK, HR, HW⟩ := hrel
          by_cases hlt : k < 3
          · have hbd : decide ((k : Int) < 3) = true := by simp; omega
            have qk : wr.cell? ⟨g, k, none⟩ = some (.int .i64 (c k)) := by have h := HK.out.get k (by omega); rw [h]; simp
            have zk : wr.frozen? ⟨g, k, none⟩ = false := blk_frozen HK.out k
            obtain ⟨ck0, ck1⟩ := HC.out k (by omega)
            have hp0 : 0 ≤ c k * (most - c 3) := Int.mul_nonneg ck0 hr0
            have hp1 : c k * (most - c 3) ≤ 40000 := by
              have := Int.mul_le_mul ck1 hr1 hr0 (by omega : (0 : Int) ≤ 100)
              omega
            have HP : Aside0 (lim c most k = c k * (most - c 3) / (c 0 + c 1 + c 2)) := ⟨by unfold lim; rw [if_neg (show ¬ (c 0 + c 1 + c 2 + c 3 ≤ most) by have := HH1.out; omega), if_neg (show ¬ c 3 > most by have := HH2.out; omega), if_pos hlt]⟩
            generalize c k = x at qk hp0 hp1 HP ck0 ck1
            have hn0 : ¬ (c 0 + c 1 + c 2 = 0) := by omega
            go_wp2
            refine ⟨⟨k + 1, by omega, by go_num, ⟨(HK.out.put k _).same fun j _ => ?_⟩, ⟨blk_far HR.out (show g + 1 ≠ g by omega) _⟩, ⟨below_set HW.out hge⟩⟩, by simp [intOf]; omega⟩
            by_cases e : j = k
            · subst e; simp [HP.out]
            · by_cases e2 : j < k
              · have e3 : j < k + 1 := by omega
                simp [e, e2, e3]
              · have e3 : ¬ j < k + 1 := by omega
                simp [e, e2, e3]
          · have hbd : decide ((k : Int) < 3) = false := by simp; omega
            obtain rfl : k = 3 := by omega
            have HL : Aside0 (At4 wr g (lim c most)) := ⟨HK.out.same fun j hj => by
              by_cases e : j < 3
              · simp [e]
              · obtain rfl : j = 3 := by omega
                unfold lim
                rw [if_neg (show ¬ (c 0 + c 1 + c 2 + c 3 ≤ most) by have := HH1.out; omega), if_neg (show ¬ c 3 > most by have := HH2.out; omega)]
                simp⟩
            go_wp2
            go_meet
            exact ⟨HL, HR, HW⟩
  case rest =>
  obtain ⟨we, hw_⟩ : ∃ x : World, x = wc := ⟨_, rfl⟩
  subst hw_
  obtain ⟨HA3, HR3, HB3⟩ := hcut
  obtain ⟨M, hM⟩ : ∃ M, lim c most = M := ⟨_, rfl⟩
  rw [hM] at HA3
  have HM := Aside0.mk hM
  clear hM HC HA2 HR2 HB2 hs0 hs1 c00 c01 c10 c11 c20 c21 c30 c31 hm0 hm1
  obtain ⟨q0, q1, q2, q3⟩ := HA3.out.cells
  obtain ⟨r0, r1, r2, r3⟩ := HR3.out.cells
  obtain ⟨z0, z1, z2, z3⟩ := HR3.out.frz
  have hge : w.heap.size ≤ g + 1 := by have := HGE.out; omega
  go_wp2
  have HS := HR3.out.store M
  refine bodyPost_ret (results_cell_row rfl _ _ (g + 1) 53 (arr4 M) (0, 0) _ rfl HS Try.underlying53 rfl (by kernel_rfl)) rfl ?_
  exact ⟨by rw [HM.out], below_set (below_set (below_set (below_set HB3.out hge) hge) hge) hge⟩
theorem reduced_lit (c : Nat → Int) (most : Int) (w : World) (hc : ∀ j, j < 4 → 0 ≤ c j ∧ c j ≤ 100) (hm0 : 0 ≤ most) (hm1 : most ≤ 400) :
    Calls Try.prog 37 #[.agg #[.int .i64 (c 0), .int .i64 (c 1), .int .i64 (c 2), .int .i64 (c 3)], .int .i64 most] w fun e w' => e = .returned (.agg #[.int .i64 (lim c most 0), .int .i64 (lim c most 1), .int .i64 (lim c most 2), .int .i64 (lim c most 3)]) ∧ Below w.heap.size w w' := reduced_calls c most w hc hm0 hm1

end Go.Proofs.Ytaappifdpbgchaa.PA
