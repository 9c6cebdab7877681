-- Written by wip/pp.py of this repository, on the kit's print program. Not trusted: Lean checks it.
import Derived.Test.YtjicigagejihhaaPAx0
import Derived.Test.YtjicigagejihhaaPAx6
import Derived.Test.YtjicigagejihhaaPAx13
namespace Go.Proofs.Ytjicigagejihhaa.PA
open Go.RowKit Go.Proofs.YtjicigagejihhaaW.PrintWords Go.Proofs.YtjicigagejihhaaW.PrintLast Go.Proofs.YtjicigagejihhaaW.PrintMore
attribute [local go_sem] max2_int min2_int max_two min_two max_three min_three max_four min_four   -- for this text's walks alone
set_option linter.unusedVariables false
set_option linter.unusedSimpArgs false

abbrev T29 := true
abbrev F29 := false
/-! ### mapsheetslaw24_written: function 29 -/
def mapsheetslaw24_written.l0 : Nat → List (S55) → Int → List (List Int) → List (S53) → Int → Bool → Option ((List (List Int)) × (List (S53)) × Int × Bool × Int × Int)
 | 0, _, _, _, _, _, _ => none
 | k + 1, x1, x7, x465000, x465001, x465002, x465003 => if x7 < (x1.length : Int) then (if 0 ≤ x7 then ((mapsheetslaw24_block.f k ((rd_T55 x1 x7).f1)).bind fun t468 => ((device_Write.f k x465000 x465001 x465002 x465003 ((rd_T55 x1 x7).f0) t468).bind fun bt471 => (if bt471.2.2.2.2 = 23 then (some (bt471.1, bt471.2.1, bt471.2.2.1, bt471.2.2.2.1, x7, bt471.2.2.2.2)) else (if bt471.2.2.2.2 = 0 then (mapsheetslaw24_written.l0 k x1 (wrap64 (x7 + 1)) bt471.1 bt471.2.1 bt471.2.2.1 bt471.2.2.2.1) else (mapsheetslaw24_written.l0 k x1 (wrap64 (x7 + 1)) x465000 x465001 x465002 x465003))))) else (none)) else (some (x465000, x465001, x465002, x465003, (x1.length : Int), 0))
def mapsheetslaw24_written.f (k : Nat) (l0_0 : List (List Int)) (l0_1 : List (S53)) (a0_2 : Int) (a0_3 : Bool) (l1 : List (S55)) : Option ((List (List Int)) × (List (S53)) × Int × Bool × Int × Int) := mapsheetslaw24_written.l0 k l1 0 l0_0 l0_1 a0_2 a0_3
theorem mapsheetslaw24_written.mono_l : ∀ k, (∀ y0 y1 y2 y3 y4 y5, LeO (mapsheetslaw24_written.l0 k y0 y1 y2 y3 y4 y5) (mapsheetslaw24_written.l0 (k + 1) y0 y1 y2 y3 y4 y5))
 | 0 => fun _ _ _ _ _ _ r h => by simp [mapsheetslaw24_written.l0] at h
 | k + 1 => by
  have ih0 := mapsheetslaw24_written.mono_l k
  ·intro y0 y1 y2 y3 y4 y5
   unfold mapsheetslaw24_written.l0
   repeat' first
   | (with_reducible exact ih0 _ _ _ _ _ _)
   | (with_reducible exact device_Write.mono _ _ _ _ _ _ _)
   | (with_reducible exact mapsheetslaw24_block.mono _ _)
   | (with_reducible exact LeO.refl _)
   | (with_reducible exact LeO.none _)
   | (with_reducible refine LeO.ite ?_ ?_)
   | (with_reducible refine LeO.bind ?_ (fun _ => ?_))
   | exact ih0 _ _ _ _ _ _
   | exact device_Write.mono _ _ _ _ _ _ _
   | exact mapsheetslaw24_block.mono _ _
   | exact LeO.none _
   | refine LeO.ite ?_ ?_
   | refine LeO.bind ?_ (fun _ => ?_)
theorem mapsheetslaw24_written.mono : ∀ a0 a1 a2 a3 a4 k, LeO (mapsheetslaw24_written.f k a0 a1 a2 a3 a4) (mapsheetslaw24_written.f (k + 1) a0 a1 a2 a3 a4) := by
 intro a0 a1 a2 a3 a4 k
 have ih0 := mapsheetslaw24_written.mono_l k
 unfold mapsheetslaw24_written.f
 repeat' first
   | (with_reducible exact ih0 _ _ _ _ _ _)
   | (with_reducible exact device_Write.mono _ _ _ _ _ _ _)
   | (with_reducible exact mapsheetslaw24_block.mono _ _)
   | (with_reducible exact LeO.refl _)
   | (with_reducible exact LeO.none _)
   | (with_reducible refine LeO.ite ?_ ?_)
   | (with_reducible refine LeO.bind ?_ (fun _ => ?_))
   | exact ih0 _ _ _ _ _ _
   | exact device_Write.mono _ _ _ _ _ _ _
   | exact mapsheetslaw24_block.mono _ _
   | exact LeO.none _
   | refine LeO.ite ?_ ?_
   | refine LeO.bind ?_ (fun _ => ?_)
def mapsheetslaw24_written.T4 : Bool × List (List Nat × List Nat) := (true, [([], []), ([], []), ([], []), ([1, 2], [1, 2]), ([3], [3]), ([4], [4]), ([], []), ([], []), ([6, 7], [6, 7]), ([8], [8]), ([9], [9]), ([10], [10]), ([0, 5, 11, 11], [0, 5, 11]), ([12], [12]), ([13], [13]), ([13], [13]), ([], []), ([16, 14, 12, 0, 1, 2, 3, 4, 5, 6, 7, 8, 9, 10, 11, 12, 13, 14, 16], [14, 16]), ([15, 17, 0, 1, 2, 3, 4, 5, 6, 7, 8, 9, 10, 11, 12, 13, 14, 15, 16, 17], [15])])
def mapsheetslaw24_written.B4 : List Nat := [0, 0, 0, 6, 14, 30, 0, 0, 192, 448, 960, 1984, 4095, 8191, 16383, 16383, 0, 98303, 262143]
theorem mapsheetslaw24_written.tab4 : rtab .any (opsOf Try.f29 4) = mapsheetslaw24_written.T4 := by kernel_rfl
theorem mapsheetslaw24_written.bits4 : waitsOk mapsheetslaw24_written.T4.2 mapsheetslaw24_written.B4 = true := by kernel_rfl
set_option maxHeartbeats 8000000 in
set_option maxRecDepth 100000 in
theorem mapsheetslaw24_written.calls (k : Nat) (P0_0_ : Nat → Prop) (A0_0 : Option Addr) (c0_0 : Nat) (l0_0 : List (List Int)) (P0_1_ : Nat → Prop) (A0_1 : Option Addr) (c0_1 : Nat) (l0_1 : List (S53)) (a0_2 : Int) (a0_3 : Bool) (A1 : Option Addr) (c1 : Nat) (l1 : List (S55)) (r1 : List (List Int)) (r2 : List (S53)) (r3 : Int) (r4 : Bool) (r5 : Int) (r6 : Int) (w : World) (hs0_0 : Kd.V (Kd.slice 5 (Kd.int .u8)) 26 w w.heap.size (fun k_ => P0_0_ k_) (.slice A0_0 l0_0.length c0_0) l0_0) (hs0_1 : Kd.V k53 53 w w.heap.size (fun k_ => P0_1_ k_) (.slice A0_1 l0_1.length c0_1) l0_1) (hr1 : Kd.C k55 w A1 l1.length l1) (hc1 : l1.length ≤ c1) (h : mapsheetslaw24_written.f k l0_0 l0_1 a0_2 a0_3 l1 = some (r1, r2, r3, r4, r5, r6)) :
  Calls Try.prog 29 #[.agg #[.slice A0_0 l0_0.length c0_0, .slice A0_1 l0_1.length c0_1, .int .i64 a0_2, .bool a0_3], .slice A1 l1.length c1] w fun e w' => ∃ v0_ v1_ : Value, e = .returned (.tuple #[.agg #[v0_, v1_, .int .i64 r3, .bool r4], .int .i64 r5, .int .i64 r6]) ∧ Kd.V (Kd.slice 5 (Kd.int .u8)) 26 w' w.heap.size (fun k_ => ((P0_0_ k_ ∨ P0_1_ k_) ∨ w.heap.size ≤ k_)) v0_ r1 ∧ Kd.V k53 53 w' w.heap.size (fun k_ => ((P0_0_ k_ ∨ P0_1_ k_) ∨ w.heap.size ≤ k_)) v1_ r2 ∧ Below w.heap.size w w' := by
 have hu25 := Try.underlying25
 have HO0_0 := Aside0.mk (show Kd.V (Kd.slice 5 (Kd.int .u8)) 26 w w.heap.size (fun k_ => ((P0_0_ k_ ∨ P0_1_ k_) ∨ w.heap.size ≤ k_)) (.slice A0_0 l0_0.length c0_0) l0_0 from Kd.V_mono hs0_0 (fun k_ hk => .inl (.inl hk)))
 have HO0_1 := Aside0.mk (show Kd.V k53 53 w w.heap.size (fun k_ => ((P0_0_ k_ ∨ P0_1_ k_) ∨ w.heap.size ≤ k_)) (.slice A0_1 l0_1.length c0_1) l0_1 from Kd.V_mono hs0_1 (fun k_ hk => .inl (.inr hk)))
 have HR1 := Aside0.mk hr1
 have HC1 := Aside0.mk hc1
 clear hr1 hc1
 have HB := Aside0.mk (Below.refl w.heap.size w)
 have H : (mapsheetslaw24_written.l0 k l1 0 l0_0 l0_1 a0_2 a0_3) = some (r1, r2, r3, r4, r5, r6) := h
 clear h
 have H' := Aside0.mk H
 clear H
 go_enter Try.func29, Try.ntmps29
 go_wp2_with (first | ((with_reducible refine gate_dst (N := 2) rfl ?_); refine box_event ?hg (N := 2) ?hd (cs := #[.slice A0_0 l0_0.length c0_0, .slice A0_1 l0_1.length c0_1, .int .i64 a0_2, .bool a0_3]) (t := 25) ?hr ?_; (case hd => rfl); (case hg => rfl); (case hr => first | (go_simp; done) | (go_simp; rfl)); intro gb464 hg w3 hbox hb; have n0_ := Aside0.mk (Kd.V_below (Kd.V_elderB (by (with_reducible repeat (first | apply Kd.V_alloc | apply Kd.V_drewN | apply Kd.V_drew)); exact HO0_0.out) gb464 (Nat.le_of_eq hg.symm)) hb); have n1_ := Aside0.mk (Kd.V_below (Kd.V_elderB (by (with_reducible repeat (first | apply Kd.V_alloc | apply Kd.V_drewN | apply Kd.V_drew)); exact HO0_1.out) gb464 (Nat.le_of_eq hg.symm)) hb); have n2_ := Aside0.mk (below_step (by repeat (first | (with_reducible first | exact HB.out | apply below_alloc | apply pw_below_drewN | apply below_drew1) | exact HB.out)) hb); have n3_ := Aside0.mk (hbox); have n4_ := Aside0.mk ((by rw [hg]; exact (below_size (by repeat (first | (with_reducible first | exact HB.out | apply below_alloc | apply pw_below_drewN | apply below_drew1) | exact HB.out))) : w.heap.size ≤ gb464)); have n5_ := Aside0.mk ((by rw [hg]; exact (below_size (by repeat (first | (with_reducible first | exact HB.out | apply below_alloc | apply pw_below_drewN | apply below_drew1) | exact HB.out))) : w.heap.size ≤ gb464)); clear HO0_0; clear HO0_1; clear HB; have HO0_0 := n0_; have HO0_1 := n1_; have HB := n2_; have BK464 := n3_; have GW464 := n4_; have GE464 := n5_; clear n0_ n1_ n2_ n3_ n4_ n5_; clear hb hbox hg) | ((with_reducible refine gate_dst (N := 4) rfl ?_); refine box_event ?hg (N := 4) ?hd (cs := #[.slice none 0 0, .slice none 0 0, .int .i64 0, .bool false]) (t := 25) ?hr ?_; (case hd => rfl); (case hg => rfl); (case hr => first | (go_simp; done) | (go_simp; rfl)); intro gb465 hg w4 hbox hb; have n0_ := Aside0.mk (Kd.V_below (Kd.V_elderB (by (with_reducible repeat (first | apply Kd.V_alloc | apply Kd.V_drewN | apply Kd.V_drew)); exact HO0_0.out) gb465 (Nat.le_of_eq hg.symm)) hb); have n1_ := Aside0.mk (Kd.V_below (Kd.V_elderB (by (with_reducible repeat (first | apply Kd.V_alloc | apply Kd.V_drewN | apply Kd.V_drew)); exact HO0_1.out) gb465 (Nat.le_of_eq hg.symm)) hb); have n2_ := Aside0.mk (blk_below (g := gb464) (o := .cells #[.slice A0_0 l0_0.length c0_0, .slice A0_1 l0_1.length c0_1, .int .i64 a0_2, .bool a0_3] 25 (0, 0)) (by (with_reducible repeat (first | refine blk_drewN ?_ _ | refine blk_drew ?_ | refine blk_alloc ?_ _)); exact BK464.out) hb); have n3_ := Aside0.mk (below_step (by repeat (first | (with_reducible first | exact HB.out | apply below_alloc | apply pw_below_drewN | apply below_drew1 | refine below_set ?_ GE464.out) | exact HB.out)) hb); have n4_ := Aside0.mk (hbox); have n5_ := Aside0.mk ((by rw [hg]; exact (below_size (by repeat (first | (with_reducible first | exact HB.out | apply below_alloc | apply pw_below_drewN | apply below_drew1 | refine below_set ?_ GE464.out) | exact HB.out))) : w.heap.size ≤ gb465)); have n6_ := Aside0.mk ((by rw [hg]; exact (below_size (by repeat (first | (with_reducible first | exact HB.out | apply below_alloc | apply pw_below_drewN | apply below_drew1 | refine below_set ?_ GE464.out) | exact HB.out))) : w.heap.size ≤ gb465)); have n7_ := Aside0.mk ((by rw [hg]; exact Nat.ne_of_lt (blk_lt (g := gb464) (o := .cells #[.slice A0_0 l0_0.length c0_0, .slice A0_1 l0_1.length c0_1, .int .i64 a0_2, .bool a0_3] 25 (0, 0)) (by (with_reducible repeat (first | refine blk_drewN ?_ _ | refine blk_drew ?_ | refine blk_alloc ?_ _)); exact BK464.out)) : gb464 ≠ gb465)); have n8_ := Aside0.mk ((by rw [hg]; exact Nat.ne_of_gt (blk_lt (g := gb464) (o := .cells #[.slice A0_0 l0_0.length c0_0, .slice A0_1 l0_1.length c0_1, .int .i64 a0_2, .bool a0_3] 25 (0, 0)) (by (with_reducible repeat (first | refine blk_drewN ?_ _ | refine blk_drew ?_ | refine blk_alloc ?_ _)); exact BK464.out)) : gb465 ≠ gb464)); clear HO0_0; clear HO0_1; clear BK464; clear HB; have HO0_0 := n0_; have HO0_1 := n1_; have BK464 := n2_; have HB := n3_; have BK465 := n4_; have GW465 := n5_; have GE465 := n6_; have NB464_465 := n7_; have NB465_464 := n8_; clear n0_ n1_ n2_ n3_ n4_ n5_ n6_ n7_ n8_; clear hb hbox hg))
 go_loopg [7] k (fun kq v7 w' => ∃ (x7_1 : Int) (x465000_1 : List (List Int)) (x465001_1 : List (S53)) (x465002_1 : Int) (x465003_1 : Bool) (x466002_1 : Int) (x466003_1 : Bool) (u465000 : Value) (u465001 : Value), v7 = .int .i64 x7_1 ∧ Aside0 (mapsheetslaw24_written.l0 kq l1 x7_1 x465000_1 x465001_1 x465002_1 x465003_1 = some (r1, r2, r3, r4, r5, r6)) ∧ Aside0 (kq ≤ k) ∧ Aside0 (Kd.V (Kd.slice 5 (Kd.int .u8)) 26 w' w.heap.size (fun k_ => ((P0_0_ k_ ∨ P0_1_ k_) ∨ w.heap.size ≤ k_) ∧ k_ ≠ gb464 ∧ k_ ≠ gb465) u465000 x465000_1) ∧ Aside0 (Kd.V k53 53 w' w.heap.size (fun k_ => ((P0_0_ k_ ∨ P0_1_ k_) ∨ w.heap.size ≤ k_) ∧ k_ ≠ gb464 ∧ k_ ≠ gb465) u465001 x465001_1) ∧ Aside0 (w'.heap[gb464]? = some (.cells #[u465000, u465001, .int .i64 x465002_1, .bool x465003_1] 25 (0, 0))) ∧ Aside0 (w'.heap[gb465]? = some (.cells #[(.slice none 0 0), (.slice none 0 0), .int .i64 x466002_1, .bool x466003_1] 25 (0, 0))) ∧ Aside0 (Below w.heap.size w w'))
 case atStart => exact ⟨(0), (l0_0), (l0_1), (a0_2), (a0_3), (0), (false), (.slice A0_0 l0_0.length c0_0), (.slice A0_1 l0_1.length c0_1), (by first | rfl | (simp; done) | (simp [*]; done)), H', ⟨Nat.le_refl _⟩, ⟨by (with_reducible repeat (first | apply Kd.V_alloc | apply Kd.V_drewN | apply Kd.V_drew)); exact Kd.V_mono HO0_0.out (fun _ hk => ⟨hk.1.1, ⟨hk.1.2, hk.2⟩⟩)⟩, ⟨by (with_reducible repeat (first | apply Kd.V_alloc | apply Kd.V_drewN | apply Kd.V_drew)); exact Kd.V_mono HO0_1.out (fun _ hk => ⟨hk.1.1, ⟨hk.1.2, hk.2⟩⟩)⟩, ⟨by (with_reducible repeat (first | refine blk_drewN ?_ _ | refine blk_drew ?_ | refine blk_alloc ?_ _)); exact BK464.out⟩, ⟨by (with_reducible repeat (first | refine blk_drewN ?_ _ | refine blk_drew ?_ | refine blk_alloc ?_ _)); exact BK465.out⟩, ⟨by repeat (first | (with_reducible first | exact HB.out | apply below_alloc | apply pw_below_drewN | apply below_drew1 | refine below_set ?_ GE464.out | refine below_set ?_ GE465.out) | exact HB.out)⟩⟩
 case round =>
  clear H'
  try clear c1
  try clear c2
  try clear p2
  obtain ⟨x7_1, x465000_1, x465001_1, x465002_1, x465003_1, x466002_1, x466003_1, u465000, u465001, rfl, HA, HK1, HO_465000, HO_465001, BK464, BK465, HB⟩ := hrel
  cases gk with
  | zero => exact absurd HA.out (by simp [mapsheetslaw24_written.l0])
  | succ k1 =>
   have H := HA.out
   clear HA
   simp only [mapsheetslaw24_written.l0] at H
   by_cases c5 : x7_1 < (l1.length : Int)
   ·rw [if_pos c5] at H
    have c5b0 : decide (x7_1 < (l1.length : Int)) = true := decide_eq_true c5
    clear c5
    by_cases c6 : 0 ≤ x7_1
    ·rw [if_pos c6] at H
     have c6b0 : decide (0 ≤ x7_1) = true := decide_eq_true c6
     clear c6
     replace H := Option.bind_eq_some_iff.mp H
     obtain ⟨t468, A70, H⟩ := H
     replace H : ((device_Write.f k1 x465000_1 x465001_1 x465002_1 x465003_1 ((rd_T55 l1 x7_1).f0) t468).bind fun bt471 => (if bt471.2.2.2.2 = 23 then (some (bt471.1, bt471.2.1, bt471.2.2.1, bt471.2.2.2.1, x7_1, bt471.2.2.2.2)) else (if bt471.2.2.2.2 = 0 then (mapsheetslaw24_written.l0 k1 l1 (wrap64 (x7_1 + 1)) bt471.1 bt471.2.1 bt471.2.2.1 bt471.2.2.2.1) else (mapsheetslaw24_written.l0 k1 l1 (wrap64 (x7_1 + 1)) x465000_1 x465001_1 x465002_1 x465003_1)))) = some (r1, r2, r3, r4, r5, r6) := H
     have A7 := Aside0.mk A70
     clear A70
     replace H := Option.bind_eq_some_iff.mp H
     obtain ⟨⟨t471, t474, t477, t478, t479⟩, A80, H⟩ := H
     replace H : (if t479 = 23 then (some (t471, t474, t477, t478, x7_1, t479)) else (if t479 = 0 then (mapsheetslaw24_written.l0 k1 l1 (wrap64 (x7_1 + 1)) t471 t474 t477 t478) else (mapsheetslaw24_written.l0 k1 l1 (wrap64 (x7_1 + 1)) x465000_1 x465001_1 x465002_1 x465003_1))) = some (r1, r2, r3, r4, r5, r6) := H
     have A8 := Aside0.mk A80
     clear A80
     by_cases c9 : t479 = 23
     ·rw [if_pos c9] at H
      have c9b0 : (t479 == 23) = true := beq_iff_eq.mpr c9
      have c9b1 : (t479 != 23) = false := bne_eq_false_iff_eq.mpr c9
      clear c9
      simp only [Option.some.injEq, Prod.mk.injEq] at H
      obtain ⟨rfl, rfl, rfl, rfl, rfl, rfl⟩ := H
      obtain ⟨Ao10, co10, eo10⟩ := Kd.V_slice HO_465000.out
      subst eo10
      obtain ⟨Ao11, co11, eo11⟩ := Kd.V_slice HO_465001.out
      subst eo11
      try go_wp2
      have n0_ := Aside0.mk (Kd.V_drew HO_465000.out)
      have n1_ := Aside0.mk (Kd.V_drew HO_465001.out)
      have n2_ := Aside0.mk (blk_drew BK464.out)
      have n3_ := Aside0.mk (blk_drew BK465.out)
      have n4_ := Aside0.mk (below_drew1 HB.out)
      clear HO_465000
      clear HO_465001
      clear BK464
      clear BK465
      clear HB
      have HO_465000 := n0_
      have HO_465001 := n1_
      have BK464 := n2_
      have BK465 := n3_
      have HB := n4_
      clear n0_ n1_ n2_ n3_ n4_
      have p466 : 0 ≤ (x7_1 : Int) := of_decide_eq_true (by first | (with_reducible assumption) | assumption)
      have q466 : x7_1 < (l1.length : Int) := of_decide_eq_true (by first | (with_reducible assumption) | assumption)
      obtain ⟨ad466, e466, hx466_0, hx466_1⟩ := at_T55 HR1.out x7_1 p466 q466
      have hw466_1 := hx466_1
      have hw466_0 := hx466_0
      cases e466
      replace hx466_0 := (HB.out.cell (World.block_lt_of_cell? w _ hx466_0)).trans hx466_0
      replace hx466_1 := (HB.out.cell (World.block_lt_of_cell? w _ hx466_1)).trans hx466_1
      replace p466 := eq_true p466
      replace q466 := eq_true q466
      have p467 : 0 ≤ (x7_1 : Int) := of_decide_eq_true (by first | (with_reducible assumption) | assumption)
      have q467 : x7_1 < (l1.length : Int) := of_decide_eq_true (by first | (with_reducible assumption) | assumption)
      obtain ⟨ad467, e467, hx467_0, hx467_1⟩ := at_T55 HR1.out x7_1 p467 q467
      have hw467_1 := hx467_1
      have hw467_0 := hx467_0
      obtain rfl : ad466 = ad467 := (by injection e467)
      replace hx467_0 := (HB.out.cell (World.block_lt_of_cell? w _ hx467_0)).trans hx467_0
      replace hx467_1 := (HB.out.cell (World.block_lt_of_cell? w _ hx467_1)).trans hx467_1
      replace p467 := eq_true p467
      replace q467 := eq_true q467
      refine start_ (n := 19) (S := fun w' => w'.cell? ⟨gb464, 0, none⟩ = some (.slice Ao10 x465000_1.length co10) ∧ w'.cell? ⟨gb464, 1, none⟩ = some (.slice Ao11 x465001_1.length co11) ∧ w'.cell? ⟨gb464, 2, none⟩ = some (.int .i64 x465002_1) ∧ w'.cell? ⟨gb464, 3, none⟩ = some (.bool x465003_1) ∧ w'.cell? (ad466.add ((x7_1).toNat * 2)) = some (.int .i64 ((rd_T55 l1 x7_1).f0)) ∧ w'.cell? ⟨(ad466.add ((x7_1).toNat * 2)).block, (ad466.add ((x7_1).toNat * 2)).off + 1, none⟩ = some (.int .u8 ((rd_T55 l1 x7_1).f1)) ∧ w'.cell? (ad466.add ((x7_1).toNat * 2)) = some (.int .i64 ((rd_T55 l1 x7_1).f0)) ∧ w'.cell? ⟨(ad466.add ((x7_1).toNat * 2)).block, (ad466.add ((x7_1).toNat * 2)).off + 1, none⟩ = some (.int .u8 ((rd_T55 l1 x7_1).f1))) (ds := []) #[F29,F29,F29,F29,F29,F29,F29,F29,F29,F29,F29,F29,F29,F29,F29,F29,F29,F29,F29] (by kernel_rfl) rfl rfl ⟨(blk_cell BK464.out 0).trans rfl, (blk_cell BK464.out 1).trans rfl, (blk_cell BK464.out 2).trans rfl, (blk_cell BK464.out 3).trans rfl, ((HB.out.cell (World.block_lt_of_cell? w _ hw466_0)).trans hw466_0), ((HB.out.cell (World.block_lt_of_cell? w _ hw466_1)).trans hw466_1), ((HB.out.cell (World.block_lt_of_cell? w _ hw467_0)).trans hw467_0), ((HB.out.cell (World.block_lt_of_cell? w _ hw467_1)).trans hw467_1)⟩ (fun hHeld => ?_); refine with_tabW mapsheetslaw24_written.tab4 mapsheetslaw24_written.bits4 (fun HT_ HW_ => ?_)
      generalize wr.drew = w12 at HO_465000 HO_465001 BK464 BK465 HB hx466_0 hx466_1 hx467_0 hx467_1 hHeld ⊢
      refine pure_ (i := 1) (N := some 18) (v := ?_) (a' := ?_) #[F29,T29,F29,F29,F29,F29,F29,F29,F29,F29,F29,F29,F29,F29,F29,F29,F29,F29,F29] rfl rfl (any_of HT_.out (by kernel_rfl)) (fun _ _ _ h => h) (Or.inl ⟨by rfl, ?_⟩) ?_ ?_
      rotate_left
      ·intro w'
       go_simp
       with_reducible rfl
      rotate_left
      ·simp only [Act.put, List.setIfInBounds_toArray, List.set_cons_zero, List.set_cons_succ, i64_w, i32_w]
       rfl
      refine pure_ (i := 2) (N := some 19) (v := ?_) (a' := ?_) #[F29,T29,T29,F29,F29,F29,F29,F29,F29,F29,F29,F29,F29,F29,F29,F29,F29,F29,F29] rfl rfl (any_of HT_.out (by kernel_rfl)) (fun _ _ _ h => h) (Or.inl ⟨by rfl, ?_⟩) ?_ ?_
      rotate_left
      ·intro w'
       go_simp
       with_reducible rfl
      rotate_left
      ·simp only [Act.put, List.setIfInBounds_toArray, List.set_cons_zero, List.set_cons_succ, i64_w, i32_w]
       rfl
      refine pure_ (i := 3) (N := some 20) (v := ?_) (a' := ?_) #[F29,T29,T29,T29,F29,F29,F29,F29,F29,F29,F29,F29,F29,F29,F29,F29,F29,F29,F29] rfl rfl (any_of HT_.out (by kernel_rfl)) (fun _ _ _ h => h) (Or.inl ⟨by rfl, ?_⟩) ?_ ?_
      rotate_left
      ·intro w'
       go_simp
       with_reducible rfl
      rotate_left
      ·simp only [Act.put, List.setIfInBounds_toArray, List.set_cons_zero, List.set_cons_succ, i64_w, i32_w]
       rfl
      refine pure_ (i := 4) (N := some 21) (v := ?_) (a' := ?_) #[F29,T29,T29,T29,T29,F29,F29,F29,F29,F29,F29,F29,F29,F29,F29,F29,F29,F29,F29] rfl rfl (any_of HT_.out (by kernel_rfl)) (fun _ _ _ h => h) (Or.inl ⟨by rfl, ?_⟩) ?_ ?_
      rotate_left
      ·intro w'
       go_simp
       with_reducible rfl
      rotate_left
      ·simp only [Act.put, List.setIfInBounds_toArray, List.set_cons_zero, List.set_cons_succ, i64_w, i32_w]
       rfl
      refine pure_ (i := 6) (N := some 23) (v := ?_) (a' := ?_) #[F29,T29,T29,T29,T29,F29,T29,F29,F29,F29,F29,F29,F29,F29,F29,F29,F29,F29,F29] rfl rfl (any_of HT_.out (by kernel_rfl)) (fun _ _ _ h => h) (Or.inl ⟨by rfl, ?_⟩) ?_ ?_
      rotate_left
      ·intro w'
       go_simp
       with_reducible rfl
      rotate_left
      ·simp only [Act.put, List.setIfInBounds_toArray, List.set_cons_zero, List.set_cons_succ, i64_w, i32_w]
       rfl
      refine pure_ (i := 7) (N := some 24) (v := ?_) (a' := ?_) #[F29,T29,T29,T29,T29,F29,T29,T29,F29,F29,F29,F29,F29,F29,F29,F29,F29,F29,F29] rfl rfl (any_of HT_.out (by kernel_rfl)) (fun _ _ _ h => h) (Or.inl ⟨by rfl, ?_⟩) ?_ ?_
      rotate_left
      ·intro w'
       go_simp
       with_reducible rfl
      rotate_left
      ·simp only [Act.put, List.setIfInBounds_toArray, List.set_cons_zero, List.set_cons_succ, i64_w, i32_w]
       rfl
      refine pure_ (i := 8) (N := some 25) (v := ?_) (a' := ?_) #[F29,T29,T29,T29,T29,F29,T29,T29,T29,F29,F29,F29,F29,F29,F29,F29,F29,F29,F29] rfl rfl (any_of HT_.out (by kernel_rfl)) (fun _ _ _ h => h) (Or.inl ⟨by rfl, ?_⟩) ?_ ?_
      rotate_left
      ·intro w'
       go_simp
       with_reducible rfl
      rotate_left
      ·simp only [Act.put, List.setIfInBounds_toArray, List.set_cons_zero, List.set_cons_succ, i64_w, i32_w]
       rfl
      refine pure_ (i := 9) (N := some 26) (v := ?_) (a' := ?_) #[F29,T29,T29,T29,T29,F29,T29,T29,T29,T29,F29,F29,F29,F29,F29,F29,F29,F29,F29] rfl rfl (any_of HT_.out (by kernel_rfl)) (fun _ _ _ h => h) (Or.inl ⟨by rfl, ?_⟩) ?_ ?_
      rotate_left
      ·intro w'
       go_simp
       with_reducible rfl
      rotate_left
      ·simp only [Act.put, List.setIfInBounds_toArray, List.set_cons_zero, List.set_cons_succ, i64_w, i32_w]
       rfl
      refine take_ (i := 0) (N := some 17) (v := ?_) (a' := ?_) #[T29,T29,T29,T29,T29,F29,T29,T29,T29,T29,F29,F29,F29,F29,F29,F29,F29,F29,F29] rfl rfl (take_ofW HT_.out HW_.out (by kernel_rfl)) (fun _ _ _ h => h) (Or.inl ⟨by rfl, ?_⟩) hHeld ?_ ?_
      rotate_left
      ·rintro w' ⟨s0, s1, s2, s3, s4, s5, s6, s7⟩
       go_simp
       with_reducible rfl
      rotate_left
      ·simp only [Act.put, List.setIfInBounds_toArray, List.set_cons_zero, List.set_cons_succ, i64_w, i32_w]
       rfl
      refine take_ (i := 5) (N := some 22) (v := ?_) (a' := ?_) #[T29,T29,T29,T29,T29,T29,T29,T29,T29,T29,F29,F29,F29,F29,F29,F29,F29,F29,F29] rfl rfl (take_ofW HT_.out HW_.out (by kernel_rfl)) (fun _ _ _ h => h) (Or.inl ⟨by rfl, ?_⟩) hHeld ?_ ?_
      rotate_left
      ·rintro w' ⟨s0, s1, s2, s3, s4, s5, s6, s7⟩
       go_simp
       with_reducible rfl
      rotate_left
      ·simp only [Act.put, List.setIfInBounds_toArray, List.set_cons_zero, List.set_cons_succ, i64_w, i32_w]
       rfl
      refine take_ (i := 10) (N := some 27) (v := ?_) (a' := ?_) #[T29,T29,T29,T29,T29,T29,T29,T29,T29,T29,T29,F29,F29,F29,F29,F29,F29,F29,F29] rfl rfl (take_ofW HT_.out HW_.out (by kernel_rfl)) (fun _ _ _ h => h) (Or.inl ⟨by rfl, ?_⟩) hHeld ?_ ?_
      rotate_left
      ·rintro w' ⟨s0, s1, s2, s3, s4, s5, s6, s7⟩
       go_simp
       with_reducible rfl
      rotate_left
      ·simp only [Act.put, List.setIfInBounds_toArray, List.set_cons_zero, List.set_cons_succ, i64_w, i32_w]
       rfl
      refine join_ (σ := Value × Value × Value × Nat) 2 #[T29,T29,T29,T29,T29,T29,T29,T29,T29,T29,T29,T29,T29,T29,T29,T29,T29,F29,F29] (fun s_ => [(28, s_.1), (29, .tuple #[.agg #[s_.2.1, s_.2.2.1, .int .i64 t477, .bool t478], .int .i64 t479]), (8, .pointer (some ⟨s_.2.2.2, 0, none⟩)), (16, .tuple #[.agg #[s_.2.1, s_.2.2.1, .int .i64 t477, .bool t478], .int .i64 t479]), (30, .agg #[s_.2.1, s_.2.2.1, .int .i64 t477, .bool t478]), (31, .int .i64 t479)]) (fun s_ w' => (w'.cell? ⟨gb464, 0, none⟩ = some (.slice Ao10 x465000_1.length co10) ∧ w'.cell? ⟨gb464, 1, none⟩ = some (.slice Ao11 x465001_1.length co11) ∧ w'.cell? ⟨gb464, 2, none⟩ = some (.int .i64 x465002_1) ∧ w'.cell? ⟨gb464, 3, none⟩ = some (.bool x465003_1) ∧ w'.cell? (ad466.add ((x7_1).toNat * 2)) = some (.int .i64 ((rd_T55 l1 x7_1).f0)) ∧ w'.cell? ⟨(ad466.add ((x7_1).toNat * 2)).block, (ad466.add ((x7_1).toNat * 2)).off + 1, none⟩ = some (.int .u8 ((rd_T55 l1 x7_1).f1)) ∧ w'.cell? (ad466.add ((x7_1).toNat * 2)) = some (.int .i64 ((rd_T55 l1 x7_1).f0)) ∧ w'.cell? ⟨(ad466.add ((x7_1).toNat * 2)).block, (ad466.add ((x7_1).toNat * 2)).off + 1, none⟩ = some (.int .u8 ((rd_T55 l1 x7_1).f1))) ∧ (Kd.R (Kd.int .u8) 5 w' w.heap.size (fun k_ => (w.heap.size ≤ k_)) s_.1 t468) ∧ (Kd.S (Kd.slice 5 (Kd.int .u8)) 26 w' w.heap.size (fun k_ => (w.heap.size ≤ k_) ∧ some k_ ≠ (s_.1 : Value).ownBlock) s_.2.1 t471) ∧ (Kd.S k53 53 w' w.heap.size (fun k_ => (w.heap.size ≤ k_) ∧ some k_ ≠ (s_.1 : Value).ownBlock) s_.2.2.1 t474) ∧ (Kd.V (Kd.slice 5 (Kd.int .u8)) 26 w' w.heap.size (fun k_ => ((P0_0_ k_ ∨ P0_1_ k_) ∨ w.heap.size ≤ k_) ∧ some k_ ≠ (s_.1 : Value).ownBlock ∧ some k_ ≠ (s_.2.1 : Value).ownBlock ∧ some k_ ≠ (s_.2.2.1 : Value).ownBlock ∧ k_ ≠ gb464 ∧ k_ ≠ gb465 ∧ k_ ≠ s_.2.2.2) (.slice Ao10 x465000_1.length co10) x465000_1) ∧ (Kd.V k53 53 w' w.heap.size (fun k_ => ((P0_0_ k_ ∨ P0_1_ k_) ∨ w.heap.size ≤ k_) ∧ some k_ ≠ (s_.1 : Value).ownBlock ∧ some k_ ≠ (s_.2.1 : Value).ownBlock ∧ some k_ ≠ (s_.2.2.1 : Value).ownBlock ∧ k_ ≠ gb464 ∧ k_ ≠ gb465 ∧ k_ ≠ s_.2.2.2) (.slice Ao11 x465001_1.length co11) x465001_1) ∧ (w'.heap[gb464]? = some (.cells #[.slice Ao10 x465000_1.length co10, .slice Ao11 x465001_1.length co11, .int .i64 x465002_1, .bool x465003_1] 25 (0, 0))) ∧ (w'.heap[gb465]? = some (.cells #[.slice none 0 0, .slice none 0 0, .int .i64 x466002_1, .bool x466003_1] 25 (0, 0))) ∧ (w'.heap[s_.2.2.2]? = some (.cells #[.slice none 0 0, .slice none 0 0, .int .i64 0, .bool false] 25 (0, 0))) ∧ (w.heap.size ≤ s_.2.2.2) ∧ (w.heap.size ≤ s_.2.2.2) ∧ (gb464 ≠ s_.2.2.2) ∧ (s_.2.2.2 ≠ gb464) ∧ (gb465 ≠ s_.2.2.2) ∧ (s_.2.2.2 ≠ gb465) ∧ (Below w.heap.size w w')) ?_ ?_
      rotate_left
      ·intro hCont
       refine two_ (i := 11) (j := 16) (Ni := some 28) (Nj := some 8) #[T29,T29,T29,T29,T29,T29,T29,T29,T29,T29,T29,T29,F29,F29,F29,F29,F29,F29,F29] #[T29,T29,T29,T29,T29,T29,T29,T29,T29,T29,T29,F29,F29,F29,F29,F29,T29,F29,F29] rfl rfl rfl rfl (two_of HT_.out (by kernel_rfl)) (by decide) (by decide) (fun K hK => ?_) (fun K hK => ?_)
       ·skip
        refine goes_ Try.func31 (by kernel_rfl) rfl #[.int .u8 ((rd_T55 l1 x7_1).f1)] (by rfl) rfl rfl (by (try simp only [List.map_toArray, List.map_cons, List.map_nil]); first | done | rfl | (simp only [List.length_drop, List.length_take]; rfl)) ?_
        with_reducible refine (mapsheetslaw24_block.calls k1 ((rd_T55 l1 x7_1).f1) t468 _ A7.out).mono ?_
        rintro e w13 ⟨v469, rfl, ho0, hb⟩
        refine ⟨_, rfl, ?_⟩
        have n0_ := Aside0.mk (Kd.V_elder' (by (with_reducible repeat (first | apply Kd.V_alloc | apply Kd.V_drewN | apply Kd.V_drew)); exact HO_465000.out) (Kd.R_base ho0) hb)
        have n1_ := Aside0.mk (Kd.V_elder' (by (with_reducible repeat (first | apply Kd.V_alloc | apply Kd.V_drewN | apply Kd.V_drew)); exact HO_465001.out) (Kd.R_base ho0) hb)
        have n2_ := Aside0.mk (Kd.R_lower (Kd.R_newM (M := fun k_ => (w.heap.size ≤ k_)) ho0 (below_size (by repeat (first | (with_reducible first | exact HB.out | apply below_alloc | apply pw_below_drewN | apply below_drew1 | refine below_set ?_ GE464.out | refine below_set ?_ GE465.out) | exact HB.out))) (fun k_ h_ => h_)) (below_size (by repeat (first | (with_reducible first | exact HB.out | apply below_alloc | apply pw_below_drewN | apply below_drew1 | refine below_set ?_ GE464.out | refine below_set ?_ GE465.out) | exact HB.out))))
        have n3_ := Aside0.mk (blk_below (g := gb464) (o := .cells #[.slice Ao10 x465000_1.length co10, .slice Ao11 x465001_1.length co11, .int .i64 x465002_1, .bool x465003_1] 25 (0, 0)) (by (with_reducible repeat (first | refine blk_drewN ?_ _ | refine blk_drew ?_ | refine blk_alloc ?_ _)); exact BK464.out) hb)
        have n4_ := Aside0.mk (blk_below (g := gb465) (o := .cells #[.slice none 0 0, .slice none 0 0, .int .i64 x466002_1, .bool x466003_1] 25 (0, 0)) (by (with_reducible repeat (first | refine blk_drewN ?_ _ | refine blk_drew ?_ | refine blk_alloc ?_ _)); exact BK465.out) hb)
        have n5_ := Aside0.mk (below_step (by repeat (first | (with_reducible first | exact HB.out | apply below_alloc | apply pw_below_drewN | apply below_drew1 | refine below_set ?_ GE464.out | refine below_set ?_ GE465.out) | exact HB.out)) hb)
        clear HO_465000
        clear HO_465001
        clear BK464
        clear BK465
        clear HB
        have HO_465000 := n0_
        have HO_465001 := n1_
        have HO470 := n2_
        have BK464 := n3_
        have BK465 := n4_
        have HB := n5_
        clear n0_ n1_ n2_ n3_ n4_ n5_
        (try clear hb)
        (try clear hb2)
        (try clear hk)
        (try clear hi)
        (try clear ho0)
        obtain ⟨Ao14, co14, eo14⟩ := Kd.R_slice HO470.out
        (first | subst eo14 | (injection eo14 with f1_ f2_ f3_; have f4_ := f1_.symm; have f5_ := f3_.symm; clear f1_ f2_ f3_; subst f4_; subst f5_))
        refine hK.out _ _ ⟨(blk_cell BK464.out 0).trans rfl, (blk_cell BK464.out 1).trans rfl, (blk_cell BK464.out 2).trans rfl, (blk_cell BK464.out 3).trans rfl, ((HB.out.cell (World.block_lt_of_cell? w _ hw466_0)).trans hw466_0), ((HB.out.cell (World.block_lt_of_cell? w _ hw466_1)).trans hw466_1), ((HB.out.cell (World.block_lt_of_cell? w _ hw467_0)).trans hw467_0), ((HB.out.cell (World.block_lt_of_cell? w _ hw467_1)).trans hw467_1)⟩ (fun hHeld => ?_)
        clear hK K
        refine norm_ (a' := ?_) ?_ ?_
        rotate_left
        ·show Act.put _ (some 28) _ = _
         simp only [Act.put, List.setIfInBounds_toArray, List.set_cons_zero, List.set_cons_succ, i64_w, i32_w]
         rfl
        refine two_ (i := 12) (j := 16) (Ni := some 29) (Nj := some 8) #[T29,T29,T29,T29,T29,T29,T29,T29,T29,T29,T29,T29,T29,F29,F29,F29,F29,F29,F29] #[T29,T29,T29,T29,T29,T29,T29,T29,T29,T29,T29,T29,F29,F29,F29,F29,T29,F29,F29] rfl rfl rfl rfl (two_of HT_.out (by kernel_rfl)) (by decide) (by decide) (fun K hK => ?_) (fun K hK => ?_)
        ·skip
         refine goes_ Try.func13 (by kernel_rfl) rfl #[.agg #[.slice Ao10 x465000_1.length co10, .slice Ao11 x465001_1.length co11, .int .i64 x465002_1, .bool x465003_1], .int .i64 ((rd_T55 l1 x7_1).f0), .slice Ao14 t468.length co14] (by rfl) rfl rfl (by (try simp only [List.map_toArray, List.map_cons, List.map_nil]); first | done | rfl | (simp only [List.length_drop, List.length_take]; rfl)) ?_
         with_reducible refine (device_Write.calls k1 _ _ x465000_1 _ _ x465001_1 x465002_1 x465003_1 ((rd_T55 l1 x7_1).f0) _ _ t468 t471 t474 t477 t478 t479 _ ?side1 ?side2 ?side3 ?side4 ?side5 ?side6 A8.out).mono ?_
         (case side1 => repeat (first | exact (Kd.V_reads' HO_465000.out).2.2 | (with_reducible refine Kd.C_alloc ?_ _) | (with_reducible refine Kd.C_drewN ?_ _) | (with_reducible refine Kd.C_drew ?_)))
         (case side2 => exact (Kd.V_reads' HO_465000.out).2.1)
         (case side3 => repeat (first | exact (Kd.V_reads' HO_465001.out).2.2 | (with_reducible refine Kd.C_alloc ?_ _) | (with_reducible refine Kd.C_drewN ?_ _) | (with_reducible refine Kd.C_drew ?_)))
         (case side4 => exact (Kd.V_reads' HO_465001.out).2.1)
         (case side5 => repeat (first | exact (Kd.R_reads' HO470.out).2.2 | (with_reducible refine Kd.C_alloc ?_ _) | (with_reducible refine Kd.C_drewN ?_ _) | (with_reducible refine Kd.C_drew ?_)))
         (case side6 => exact (Kd.R_reads' HO470.out).2.1)
         rintro e w15 ⟨v472, v475, rfl, ho0, ho1, hb⟩
         refine ⟨_, rfl, ?_⟩
         have n0_ := Aside0.mk (Kd.V_mono (Kd.V_told (Kd.V_told (Kd.V_old (by (with_reducible repeat (first | apply Kd.V_alloc | apply Kd.V_drewN | apply Kd.V_drew)); exact HO_465000.out) hb) (Kd.S_base ho0)) (Kd.S_base ho1)) (fun _ h_ => h_.1))
         have n1_ := Aside0.mk (Kd.V_mono (Kd.V_told (Kd.V_told (Kd.V_old (by (with_reducible repeat (first | apply Kd.V_alloc | apply Kd.V_drewN | apply Kd.V_drew)); exact HO_465001.out) hb) (Kd.S_base ho0)) (Kd.S_base ho1)) (fun _ h_ => h_.1))
         have n2_ := Aside0.mk (Kd.R_below (by (with_reducible repeat (first | apply Kd.R_alloc | apply Kd.R_drewN | apply Kd.R_drew)); exact HO470.out) hb)
         have n3_ := Aside0.mk (Kd.S_lower (Kd.S_new' (Kd.S_newM (M := fun k_ => (w.heap.size ≤ k_)) ho0 (below_size (by repeat (first | (with_reducible first | exact HB.out | apply below_alloc | apply pw_below_drewN | apply below_drew1 | refine below_set ?_ GE464.out | refine below_set ?_ GE465.out) | exact HB.out))) (fun k_ h_ => h_)) (Kd.R_lt (by (with_reducible repeat (first | apply Kd.R_alloc | apply Kd.R_drewN | apply Kd.R_drew)); exact HO470.out))) (below_size (by repeat (first | (with_reducible first | exact HB.out | apply below_alloc | apply pw_below_drewN | apply below_drew1 | refine below_set ?_ GE464.out | refine below_set ?_ GE465.out) | exact HB.out))))
         have n4_ := Aside0.mk (Kd.S_lower (Kd.S_new' (Kd.S_newM (M := fun k_ => (w.heap.size ≤ k_)) ho1 (below_size (by repeat (first | (with_reducible first | exact HB.out | apply below_alloc | apply pw_below_drewN | apply below_drew1 | refine below_set ?_ GE464.out | refine below_set ?_ GE465.out) | exact HB.out))) (fun k_ h_ => h_)) (Kd.R_lt (by (with_reducible repeat (first | apply Kd.R_alloc | apply Kd.R_drewN | apply Kd.R_drew)); exact HO470.out))) (below_size (by repeat (first | (with_reducible first | exact HB.out | apply below_alloc | apply pw_below_drewN | apply below_drew1 | refine below_set ?_ GE464.out | refine below_set ?_ GE465.out) | exact HB.out))))
         have n5_ := Aside0.mk (blk_below (g := gb464) (o := .cells #[.slice Ao10 x465000_1.length co10, .slice Ao11 x465001_1.length co11, .int .i64 x465002_1, .bool x465003_1] 25 (0, 0)) (by (with_reducible repeat (first | refine blk_drewN ?_ _ | refine blk_drew ?_ | refine blk_alloc ?_ _)); exact BK464.out) hb)
         have n6_ := Aside0.mk (blk_below (g := gb465) (o := .cells #[.slice none 0 0, .slice none 0 0, .int .i64 x466002_1, .bool x466003_1] 25 (0, 0)) (by (with_reducible repeat (first | refine blk_drewN ?_ _ | refine blk_drew ?_ | refine blk_alloc ?_ _)); exact BK465.out) hb)
         have n7_ := Aside0.mk (below_step (by repeat (first | (with_reducible first | exact HB.out | apply below_alloc | apply pw_below_drewN | apply below_drew1 | refine below_set ?_ GE464.out | refine below_set ?_ GE465.out) | exact HB.out)) hb)
         clear HO_465000
         clear HO_465001
         clear HO470
         clear BK464
         clear BK465
         clear HB
         have HO_465000 := n0_
         have HO_465001 := n1_
         have HO470 := n2_
         have HO473 := n3_
         have HO476 := n4_
         have BK464 := n5_
         have BK465 := n6_
         have HB := n7_
         clear n0_ n1_ n2_ n3_ n4_ n5_ n6_ n7_
         (try clear hb)
         (try clear hb2)
         (try clear hk)
         (try clear hi)
         (try clear ho0)
         (try clear ho1)
         refine hK.out _ _ ⟨(blk_cell BK464.out 0).trans rfl, (blk_cell BK464.out 1).trans rfl, (blk_cell BK464.out 2).trans rfl, (blk_cell BK464.out 3).trans rfl, ((HB.out.cell (World.block_lt_of_cell? w _ hw466_0)).trans hw466_0), ((HB.out.cell (World.block_lt_of_cell? w _ hw466_1)).trans hw466_1), ((HB.out.cell (World.block_lt_of_cell? w _ hw467_0)).trans hw467_0), ((HB.out.cell (World.block_lt_of_cell? w _ hw467_1)).trans hw467_1)⟩ (fun hHeld => ?_)
         clear hK K
         refine norm_ (a' := ?_) ?_ ?_
         rotate_left
         ·show Act.put _ (some 29) _ = _
          simp only [Act.put, List.setIfInBounds_toArray, List.set_cons_zero, List.set_cons_succ, i64_w, i32_w]
          rfl
         refine pure_ (i := 13) (N := some 16) (v := ?_) (a' := ?_) #[T29,T29,T29,T29,T29,T29,T29,T29,T29,T29,T29,T29,T29,T29,F29,F29,F29,F29,F29] rfl rfl (any_of HT_.out (by kernel_rfl)) (fun _ _ _ h => h) (Or.inl ⟨by rfl, ?_⟩) ?_ ?_
         rotate_left
         ·intro w'
          go_simp
          with_reducible rfl
         rotate_left
         ·simp only [Act.put, List.setIfInBounds_toArray, List.set_cons_zero, List.set_cons_succ, i64_w, i32_w]
          rfl
         refine pure_ (i := 14) (N := some 30) (v := ?_) (a' := ?_) #[T29,T29,T29,T29,T29,T29,T29,T29,T29,T29,T29,T29,T29,T29,T29,F29,F29,F29,F29] rfl rfl (any_of HT_.out (by kernel_rfl)) (fun _ _ _ h => h) (Or.inl ⟨by rfl, ?_⟩) ?_ ?_
         rotate_left
         ·intro w'
          go_simp
          with_reducible rfl
         rotate_left
         ·simp only [Act.put, List.setIfInBounds_toArray, List.set_cons_zero, List.set_cons_succ, i64_w, i32_w]
          rfl
         refine pure_ (i := 15) (N := some 31) (v := ?_) (a' := ?_) #[T29,T29,T29,T29,T29,T29,T29,T29,T29,T29,T29,T29,T29,T29,T29,T29,F29,F29,F29] rfl rfl (any_of HT_.out (by kernel_rfl)) (fun _ _ _ h => h) (Or.inl ⟨by rfl, ?_⟩) ?_ ?_
         rotate_left
         ·intro w'
          go_simp
          with_reducible rfl
         rotate_left
         ·simp only [Act.put, List.setIfInBounds_toArray, List.set_cons_zero, List.set_cons_succ, i64_w, i32_w]
          rfl
         refine one_ (i := 16) (N := some 8) #[T29,T29,T29,T29,T29,T29,T29,T29,T29,T29,T29,T29,T29,T29,T29,T29,T29,F29,F29] rfl rfl (one_of HT_.out (by kernel_rfl)) (by decide) (fun K hK => ?_)
         refine box_step ?hg (N := 8) ?hd (cs := #[.slice none 0 0, .slice none 0 0, .int .i64 0, .bool false]) (t := 25) ?hr ?_; (case hd => rfl); (case hg => rfl); (case hr => first | (go_simp; done) | (go_simp; rfl))
         intro gb480 hg w16 hbox hb
         have n0_ := Aside0.mk (Kd.V_below (Kd.V_elderB (by (with_reducible repeat (first | apply Kd.V_alloc | apply Kd.V_drewN | apply Kd.V_drew)); exact HO_465000.out) gb480 (Nat.le_of_eq hg.symm)) hb)
         have n1_ := Aside0.mk (Kd.V_below (Kd.V_elderB (by (with_reducible repeat (first | apply Kd.V_alloc | apply Kd.V_drewN | apply Kd.V_drew)); exact HO_465001.out) gb480 (Nat.le_of_eq hg.symm)) hb)
         have n2_ := Aside0.mk (Kd.R_below (by (with_reducible repeat (first | apply Kd.R_alloc | apply Kd.R_drewN | apply Kd.R_drew)); exact HO470.out) hb)
         have n3_ := Aside0.mk (Kd.S_below (by (with_reducible repeat (first | apply Kd.S_alloc | apply Kd.S_drewN | apply Kd.S_drew)); exact HO473.out) hb)
         have n4_ := Aside0.mk (Kd.S_below (by (with_reducible repeat (first | apply Kd.S_alloc | apply Kd.S_drewN | apply Kd.S_drew)); exact HO476.out) hb)
         have n5_ := Aside0.mk (blk_below (g := gb464) (o := .cells #[.slice Ao10 x465000_1.length co10, .slice Ao11 x465001_1.length co11, .int .i64 x465002_1, .bool x465003_1] 25 (0, 0)) (by (with_reducible repeat (first | refine blk_drewN ?_ _ | refine blk_drew ?_ | refine blk_alloc ?_ _)); exact BK464.out) hb)
         have n6_ := Aside0.mk (blk_below (g := gb465) (o := .cells #[.slice none 0 0, .slice none 0 0, .int .i64 x466002_1, .bool x466003_1] 25 (0, 0)) (by (with_reducible repeat (first | refine blk_drewN ?_ _ | refine blk_drew ?_ | refine blk_alloc ?_ _)); exact BK465.out) hb)
         have n7_ := Aside0.mk (below_step (by repeat (first | (with_reducible first | exact HB.out | apply below_alloc | apply pw_below_drewN | apply below_drew1 | refine below_set ?_ GE464.out | refine below_set ?_ GE465.out) | exact HB.out)) hb)
         have n8_ := Aside0.mk (hbox)
         have n9_ := Aside0.mk ((by rw [hg]; exact (below_size (by repeat (first | (with_reducible first | exact HB.out | apply below_alloc | apply pw_below_drewN | apply below_drew1 | refine below_set ?_ GE464.out | refine below_set ?_ GE465.out) | exact HB.out))) : w.heap.size ≤ gb480))
         have n10_ := Aside0.mk ((by rw [hg]; exact (below_size (by repeat (first | (with_reducible first | exact HB.out | apply below_alloc | apply pw_below_drewN | apply below_drew1 | refine below_set ?_ GE464.out | refine below_set ?_ GE465.out) | exact HB.out))) : w.heap.size ≤ gb480))
         have n11_ := Aside0.mk ((by rw [hg]; exact Nat.ne_of_lt (blk_lt (g := gb464) (o := .cells #[.slice Ao10 x465000_1.length co10, .slice Ao11 x465001_1.length co11, .int .i64 x465002_1, .bool x465003_1] 25 (0, 0)) (by (with_reducible repeat (first | refine blk_drewN ?_ _ | refine blk_drew ?_ | refine blk_alloc ?_ _)); exact BK464.out)) : gb464 ≠ gb480))
         have n12_ := Aside0.mk ((by rw [hg]; exact Nat.ne_of_gt (blk_lt (g := gb464) (o := .cells #[.slice Ao10 x465000_1.length co10, .slice Ao11 x465001_1.length co11, .int .i64 x465002_1, .bool x465003_1] 25 (0, 0)) (by (with_reducible repeat (first | refine blk_drewN ?_ _ | refine blk_drew ?_ | refine blk_alloc ?_ _)); exact BK464.out)) : gb480 ≠ gb464))
         have n13_ := Aside0.mk ((by rw [hg]; exact Nat.ne_of_lt (blk_lt (g := gb465) (o := .cells #[.slice none 0 0, .slice none 0 0, .int .i64 x466002_1, .bool x466003_1] 25 (0, 0)) (by (with_reducible repeat (first | refine blk_drewN ?_ _ | refine blk_drew ?_ | refine blk_alloc ?_ _)); exact BK465.out)) : gb465 ≠ gb480))
         have n14_ := Aside0.mk ((by rw [hg]; exact Nat.ne_of_gt (blk_lt (g := gb465) (o := .cells #[.slice none 0 0, .slice none 0 0, .int .i64 x466002_1, .bool x466003_1] 25 (0, 0)) (by (with_reducible repeat (first | refine blk_drewN ?_ _ | refine blk_drew ?_ | refine blk_alloc ?_ _)); exact BK465.out)) : gb480 ≠ gb465))
         clear HO_465000
         clear HO_465001
         clear HO470
         clear HO473
         clear HO476
         clear BK464
         clear BK465
         clear HB
         have HO_465000 := n0_
         have HO_465001 := n1_
         have HO470 := n2_
         have HO473 := n3_
         have HO476 := n4_
         have BK464 := n5_
         have BK465 := n6_
         have HB := n7_
         have BK480 := n8_
         have GW480 := n9_
         have GE480 := n10_
         have NB464_480 := n11_
         have NB480_464 := n12_
         have NB465_480 := n13_
         have NB480_465 := n14_
         clear n0_ n1_ n2_ n3_ n4_ n5_ n6_ n7_ n8_ n9_ n10_ n11_ n12_ n13_ n14_
         clear hb hbox hg
         refine hK.out _ _ ⟨(blk_cell BK464.out 0).trans rfl, (blk_cell BK464.out 1).trans rfl, (blk_cell BK464.out 2).trans rfl, (blk_cell BK464.out 3).trans rfl, ((HB.out.cell (World.block_lt_of_cell? w _ hw466_0)).trans hw466_0), ((HB.out.cell (World.block_lt_of_cell? w _ hw466_1)).trans hw466_1), ((HB.out.cell (World.block_lt_of_cell? w _ hw467_0)).trans hw467_0), ((HB.out.cell (World.block_lt_of_cell? w _ hw467_1)).trans hw467_1)⟩ (fun hHeld => ?_)
         clear hK K
         refine norm_ (a' := ?_) ?_ ?_
         rotate_left
         ·show Act.put _ (some 8) _ = _
          simp only [Act.put, List.setIfInBounds_toArray, List.set_cons_zero, List.set_cons_succ, i64_w, i32_w]
          rfl
         exact norm_ (by simp only [putAll, Act.put, List.setIfInBounds_toArray, List.set_cons_zero, List.set_cons_succ]) (hCont (.slice Ao14 t468.length co14, v472, v475, gb480) _ ⟨hHeld, (by (with_reducible repeat (first | apply Kd.R_alloc | apply Kd.R_drewN | apply Kd.R_drew)); exact Kd.R_mono HO470.out (fun _ hk => hk.1)), (by (with_reducible repeat (first | apply Kd.S_alloc | apply Kd.S_drewN | apply Kd.S_drew)); exact Kd.S_mono HO473.out (fun _ hk => ⟨hk.1.1, hk.2⟩)), (by (with_reducible repeat (first | apply Kd.S_alloc | apply Kd.S_drewN | apply Kd.S_drew)); exact Kd.S_mono HO476.out (fun _ hk => ⟨hk.1.1, hk.2⟩)), (by (with_reducible repeat (first | apply Kd.V_alloc | apply Kd.V_drewN | apply Kd.V_drew)); exact Kd.V_mono HO_465000.out (fun _ hk => ⟨hk.1.1.1.1.1, ⟨hk.1.1.1.2, ⟨hk.1.1.2, ⟨hk.1.2, ⟨hk.1.1.1.1.2.1, ⟨hk.1.1.1.1.2.2, hk.2⟩⟩⟩⟩⟩⟩)), (by (with_reducible repeat (first | apply Kd.V_alloc | apply Kd.V_drewN | apply Kd.V_drew)); exact Kd.V_mono HO_465001.out (fun _ hk => ⟨hk.1.1.1.1.1, ⟨hk.1.1.1.2, ⟨hk.1.1.2, ⟨hk.1.2, ⟨hk.1.1.1.1.2.1, ⟨hk.1.1.1.1.2.2, hk.2⟩⟩⟩⟩⟩⟩)), (by (with_reducible repeat (first | refine blk_drewN ?_ _ | refine blk_drew ?_ | refine blk_alloc ?_ _)); exact BK464.out), (by (with_reducible repeat (first | refine blk_drewN ?_ _ | refine blk_drew ?_ | refine blk_alloc ?_ _)); exact BK465.out), (by (with_reducible repeat (first | refine blk_drewN ?_ _ | refine blk_drew ?_ | refine blk_alloc ?_ _)); exact BK480.out), GW480.out, GE480.out, NB464_480.out, NB480_464.out, NB465_480.out, NB480_465.out, (by repeat (first | (with_reducible first | exact HB.out | apply below_alloc | apply pw_below_drewN | apply below_drew1 | refine below_set ?_ GE464.out | refine below_set ?_ GE465.out | refine below_set ?_ GE480.out) | exact HB.out))⟩)
        ·skip
         refine box_step ?hg (N := 8) ?hd (cs := #[.slice none 0 0, .slice none 0 0, .int .i64 0, .bool false]) (t := 25) ?hr ?_; (case hd => rfl); (case hg => rfl); (case hr => first | (go_simp; done) | (go_simp; rfl))
         intro gb480 hg w14 hbox hb
         have n0_ := Aside0.mk (Kd.V_below (Kd.V_elderB (by (with_reducible repeat (first | apply Kd.V_alloc | apply Kd.V_drewN | apply Kd.V_drew)); exact HO_465000.out) gb480 (Nat.le_of_eq hg.symm)) hb)
         have n1_ := Aside0.mk (Kd.V_below (Kd.V_elderB (by (with_reducible repeat (first | apply Kd.V_alloc | apply Kd.V_drewN | apply Kd.V_drew)); exact HO_465001.out) gb480 (Nat.le_of_eq hg.symm)) hb)
         have n2_ := Aside0.mk (Kd.R_below (by (with_reducible repeat (first | apply Kd.R_alloc | apply Kd.R_drewN | apply Kd.R_drew)); exact HO470.out) hb)
         have n3_ := Aside0.mk (blk_below (g := gb464) (o := .cells #[.slice Ao10 x465000_1.length co10, .slice Ao11 x465001_1.length co11, .int .i64 x465002_1, .bool x465003_1] 25 (0, 0)) (by (with_reducible repeat (first | refine blk_drewN ?_ _ | refine blk_drew ?_ | refine blk_alloc ?_ _)); exact BK464.out) hb)
         have n4_ := Aside0.mk (blk_below (g := gb465) (o := .cells #[.slice none 0 0, .slice none 0 0, .int .i64 x466002_1, .bool x466003_1] 25 (0, 0)) (by (with_reducible repeat (first | refine blk_drewN ?_ _ | refine blk_drew ?_ | refine blk_alloc ?_ _)); exact BK465.out) hb)
         have n5_ := Aside0.mk (below_step (by repeat (first | (with_reducible first | exact HB.out | apply below_alloc | apply pw_below_drewN | apply below_drew1 | refine below_set ?_ GE464.out | refine below_set ?_ GE465.out) | exact HB.out)) hb)
         have n6_ := Aside0.mk (hbox)
         have n7_ := Aside0.mk ((by rw [hg]; exact (below_size (by repeat (first | (with_reducible first | exact HB.out | apply below_alloc | apply pw_below_drewN | apply below_drew1 | refine below_set ?_ GE464.out | refine below_set ?_ GE465.out) | exact HB.out))) : w.heap.size ≤ gb480))
         have n8_ := Aside0.mk ((by rw [hg]; exact (below_size (by repeat (first | (with_reducible first | exact HB.out | apply below_alloc | apply pw_below_drewN | apply below_drew1 | refine below_set ?_ GE464.out | refine below_set ?_ GE465.out) | exact HB.out))) : w.heap.size ≤ gb480))
         have n9_ := Aside0.mk ((by rw [hg]; exact Nat.ne_of_lt (blk_lt (g := gb464) (o := .cells #[.slice Ao10 x465000_1.length co10, .slice Ao11 x465001_1.length co11, .int .i64 x465002_1, .bool x465003_1] 25 (0, 0)) (by (with_reducible repeat (first | refine blk_drewN ?_ _ | refine blk_drew ?_ | refine blk_alloc ?_ _)); exact BK464.out)) : gb464 ≠ gb480))
         have n10_ := Aside0.mk ((by rw [hg]; exact Nat.ne_of_gt (blk_lt (g := gb464) (o := .cells #[.slice Ao10 x465000_1.length co10, .slice Ao11 x465001_1.length co11, .int .i64 x465002_1, .bool x465003_1] 25 (0, 0)) (by (with_reducible repeat (first | refine blk_drewN ?_ _ | refine blk_drew ?_ | refine blk_alloc ?_ _)); exact BK464.out)) : gb480 ≠ gb464))
         have n11_ := Aside0.mk ((by rw [hg]; exact Nat.ne_of_lt (blk_lt (g := gb465) (o := .cells #[.slice none 0 0, .slice none 0 0, .int .i64 x466002_1, .bool x466003_1] 25 (0, 0)) (by (with_reducible repeat (first | refine blk_drewN ?_ _ | refine blk_drew ?_ | refine blk_alloc ?_ _)); exact BK465.out)) : gb465 ≠ gb480))
         have n12_ := Aside0.mk ((by rw [hg]; exact Nat.ne_of_gt (blk_lt (g := gb465) (o := .cells #[.slice none 0 0, .slice none 0 0, .int .i64 x466002_1, .bool x466003_1] 25 (0, 0)) (by (with_reducible repeat (first | refine blk_drewN ?_ _ | refine blk_drew ?_ | refine blk_alloc ?_ _)); exact BK465.out)) : gb480 ≠ gb465))
         clear HO_465000
         clear HO_465001
         clear HO470
         clear BK464
         clear BK465
         clear HB
         have HO_465000 := n0_
         have HO_465001 := n1_
         have HO470 := n2_
         have BK464 := n3_
         have BK465 := n4_
         have HB := n5_
         have BK480 := n6_
         have GW480 := n7_
         have GE480 := n8_
         have NB464_480 := n9_
         have NB480_464 := n10_
         have NB465_480 := n11_
         have NB480_465 := n12_
         clear n0_ n1_ n2_ n3_ n4_ n5_ n6_ n7_ n8_ n9_ n10_ n11_ n12_
         clear hb hbox hg
         obtain ⟨Ao15, co15, eo15⟩ := Kd.R_slice HO470.out
         (first | subst eo15 | (injection eo15 with f1_ f2_ f3_; have f4_ := f1_.symm; have f5_ := f3_.symm; clear f1_ f2_ f3_; subst f4_; subst f5_))
         refine hK.out _ _ ⟨(blk_cell BK464.out 0).trans rfl, (blk_cell BK464.out 1).trans rfl, (blk_cell BK464.out 2).trans rfl, (blk_cell BK464.out 3).trans rfl, ((HB.out.cell (World.block_lt_of_cell? w _ hw466_0)).trans hw466_0), ((HB.out.cell (World.block_lt_of_cell? w _ hw466_1)).trans hw466_1), ((HB.out.cell (World.block_lt_of_cell? w _ hw467_0)).trans hw467_0), ((HB.out.cell (World.block_lt_of_cell? w _ hw467_1)).trans hw467_1)⟩ (fun hHeld => ?_)
         clear hK K
         refine norm_ (a' := ?_) ?_ ?_
         rotate_left
         ·show Act.put _ (some 8) _ = _
          simp only [Act.put, List.setIfInBounds_toArray, List.set_cons_zero, List.set_cons_succ, i64_w, i32_w]
          rfl
         refine one_ (i := 12) (N := some 29) #[T29,T29,T29,T29,T29,T29,T29,T29,T29,T29,T29,T29,T29,F29,F29,F29,T29,F29,F29] rfl rfl (one_of HT_.out (by kernel_rfl)) (by decide) (fun K hK => ?_)
         refine goes_ Try.func13 (by kernel_rfl) rfl #[.agg #[.slice Ao10 x465000_1.length co10, .slice Ao11 x465001_1.length co11, .int .i64 x465002_1, .bool x465003_1], .int .i64 ((rd_T55 l1 x7_1).f0), .slice Ao15 t468.length co15] (by rfl) rfl rfl (by (try simp only [List.map_toArray, List.map_cons, List.map_nil]); first | done | rfl | (simp only [List.length_drop, List.length_take]; rfl)) ?_
         with_reducible refine (device_Write.calls k1 _ _ x465000_1 _ _ x465001_1 x465002_1 x465003_1 ((rd_T55 l1 x7_1).f0) _ _ t468 t471 t474 t477 t478 t479 _ ?side1 ?side2 ?side3 ?side4 ?side5 ?side6 A8.out).mono ?_
         (case side1 => repeat (first | exact (Kd.V_reads' HO_465000.out).2.2 | (with_reducible refine Kd.C_alloc ?_ _) | (with_reducible refine Kd.C_drewN ?_ _) | (with_reducible refine Kd.C_drew ?_)))
         (case side2 => exact (Kd.V_reads' HO_465000.out).2.1)
         (case side3 => repeat (first | exact (Kd.V_reads' HO_465001.out).2.2 | (with_reducible refine Kd.C_alloc ?_ _) | (with_reducible refine Kd.C_drewN ?_ _) | (with_reducible refine Kd.C_drew ?_)))
         (case side4 => exact (Kd.V_reads' HO_465001.out).2.1)
         (case side5 => repeat (first | exact (Kd.R_reads' HO470.out).2.2 | (with_reducible refine Kd.C_alloc ?_ _) | (with_reducible refine Kd.C_drewN ?_ _) | (with_reducible refine Kd.C_drew ?_)))
         (case side6 => exact (Kd.R_reads' HO470.out).2.1)
         rintro e w16 ⟨v472, v475, rfl, ho0, ho1, hb⟩
         refine ⟨_, rfl, ?_⟩
         have n0_ := Aside0.mk (Kd.V_mono (Kd.V_told (Kd.V_told (Kd.V_old (by (with_reducible repeat (first | apply Kd.V_alloc | apply Kd.V_drewN | apply Kd.V_drew)); exact HO_465000.out) hb) (Kd.S_base ho0)) (Kd.S_base ho1)) (fun _ h_ => h_.1))
         have n1_ := Aside0.mk (Kd.V_mono (Kd.V_told (Kd.V_told (Kd.V_old (by (with_reducible repeat (first | apply Kd.V_alloc | apply Kd.V_drewN | apply Kd.V_drew)); exact HO_465001.out) hb) (Kd.S_base ho0)) (Kd.S_base ho1)) (fun _ h_ => h_.1))
         have n2_ := Aside0.mk (Kd.R_below (by (with_reducible repeat (first | apply Kd.R_alloc | apply Kd.R_drewN | apply Kd.R_drew)); exact HO470.out) hb)
         have n3_ := Aside0.mk (Kd.S_lower (Kd.S_new' (Kd.S_newM (M := fun k_ => (w.heap.size ≤ k_)) ho0 (below_size (by repeat (first | (with_reducible first | exact HB.out | apply below_alloc | apply pw_below_drewN | apply below_drew1 | refine below_set ?_ GE464.out | refine below_set ?_ GE465.out | refine below_set ?_ GE480.out) | exact HB.out))) (fun k_ h_ => h_)) (Kd.R_lt (by (with_reducible repeat (first | apply Kd.R_alloc | apply Kd.R_drewN | apply Kd.R_drew)); exact HO470.out))) (below_size (by repeat (first | (with_reducible first | exact HB.out | apply below_alloc | apply pw_below_drewN | apply below_drew1 | refine below_set ?_ GE464.out | refine below_set ?_ GE465.out | refine below_set ?_ GE480.out) | exact HB.out))))
         have n4_ := Aside0.mk (Kd.S_lower (Kd.S_new' (Kd.S_newM (M := fun k_ => (w.heap.size ≤ k_)) ho1 (below_size (by repeat (first | (with_reducible first | exact HB.out | apply below_alloc | apply pw_below_drewN | apply below_drew1 | refine below_set ?_ GE464.out | refine below_set ?_ GE465.out | refine below_set ?_ GE480.out) | exact HB.out))) (fun k_ h_ => h_)) (Kd.R_lt (by (with_reducible repeat (first | apply Kd.R_alloc | apply Kd.R_drewN | apply Kd.R_drew)); exact HO470.out))) (below_size (by repeat (first | (with_reducible first | exact HB.out | apply below_alloc | apply pw_below_drewN | apply below_drew1 | refine below_set ?_ GE464.out | refine below_set ?_ GE465.out | refine below_set ?_ GE480.out) | exact HB.out))))
         have n5_ := Aside0.mk (blk_below (g := gb464) (o := .cells #[.slice Ao10 x465000_1.length co10, .slice Ao11 x465001_1.length co11, .int .i64 x465002_1, .bool x465003_1] 25 (0, 0)) (by (with_reducible repeat (first | refine blk_drewN ?_ _ | refine blk_drew ?_ | refine blk_alloc ?_ _)); exact BK464.out) hb)
         have n6_ := Aside0.mk (blk_below (g := gb465) (o := .cells #[.slice none 0 0, .slice none 0 0, .int .i64 x466002_1, .bool x466003_1] 25 (0, 0)) (by (with_reducible repeat (first | refine blk_drewN ?_ _ | refine blk_drew ?_ | refine blk_alloc ?_ _)); exact BK465.out) hb)
         have n7_ := Aside0.mk (blk_below (g := gb480) (o := .cells #[.slice none 0 0, .slice none 0 0, .int .i64 0, .bool false] 25 (0, 0)) (by (with_reducible repeat (first | refine blk_drewN ?_ _ | refine blk_drew ?_ | refine blk_alloc ?_ _)); exact BK480.out) hb)
         have n8_ := Aside0.mk (below_step (by repeat (first | (with_reducible first | exact HB.out | apply below_alloc | apply pw_below_drewN | apply below_drew1 | refine below_set ?_ GE464.out | refine below_set ?_ GE465.out | refine below_set ?_ GE480.out) | exact HB.out)) hb)
         clear HO_465000
         clear HO_465001
         clear HO470
         clear BK464
         clear BK465
         clear BK480
         clear HB
         have HO_465000 := n0_
         have HO_465001 := n1_
         have HO470 := n2_
         have HO473 := n3_
         have HO476 := n4_
         have BK464 := n5_
         have BK465 := n6_
         have BK480 := n7_
         have HB := n8_
         clear n0_ n1_ n2_ n3_ n4_ n5_ n6_ n7_ n8_
         (try clear hb)
         (try clear hb2)
         (try clear hk)
         (try clear hi)
         (try clear ho0)
         (try clear ho1)
         refine hK.out _ _ ⟨(blk_cell BK464.out 0).trans rfl, (blk_cell BK464.out 1).trans rfl, (blk_cell BK464.out 2).trans rfl, (blk_cell BK464.out 3).trans rfl, ((HB.out.cell (World.block_lt_of_cell? w _ hw466_0)).trans hw466_0), ((HB.out.cell (World.block_lt_of_cell? w _ hw466_1)).trans hw466_1), ((HB.out.cell (World.block_lt_of_cell? w _ hw467_0)).trans hw467_0), ((HB.out.cell (World.block_lt_of_cell? w _ hw467_1)).trans hw467_1)⟩ (fun hHeld => ?_)
         clear hK K
         refine norm_ (a' := ?_) ?_ ?_
         rotate_left
         ·show Act.put _ (some 29) _ = _
          simp only [Act.put, List.setIfInBounds_toArray, List.set_cons_zero, List.set_cons_succ, i64_w, i32_w]
          rfl
         refine pure_ (i := 13) (N := some 16) (v := ?_) (a' := ?_) #[T29,T29,T29,T29,T29,T29,T29,T29,T29,T29,T29,T29,T29,T29,F29,F29,T29,F29,F29] rfl rfl (any_of HT_.out (by kernel_rfl)) (fun _ _ _ h => h) (Or.inl ⟨by rfl, ?_⟩) ?_ ?_
         rotate_left
         ·intro w'
          go_simp
          with_reducible rfl
         rotate_left
         ·simp only [Act.put, List.setIfInBounds_toArray, List.set_cons_zero, List.set_cons_succ, i64_w, i32_w]
          rfl
         refine pure_ (i := 14) (N := some 30) (v := ?_) (a' := ?_) #[T29,T29,T29,T29,T29,T29,T29,T29,T29,T29,T29,T29,T29,T29,T29,F29,T29,F29,F29] rfl rfl (any_of HT_.out (by kernel_rfl)) (fun _ _ _ h => h) (Or.inl ⟨by rfl, ?_⟩) ?_ ?_
         rotate_left
         ·intro w'
          go_simp
          with_reducible rfl
         rotate_left
         ·simp only [Act.put, List.setIfInBounds_toArray, List.set_cons_zero, List.set_cons_succ, i64_w, i32_w]
          rfl
         refine pure_ (i := 15) (N := some 31) (v := ?_) (a' := ?_) #[T29,T29,T29,T29,T29,T29,T29,T29,T29,T29,T29,T29,T29,T29,T29,T29,T29,F29,F29] rfl rfl (any_of HT_.out (by kernel_rfl)) (fun _ _ _ h => h) (Or.inl ⟨by rfl, ?_⟩) ?_ ?_
         rotate_left
         ·intro w'
          go_simp
          with_reducible rfl
         rotate_left
         ·simp only [Act.put, List.setIfInBounds_toArray, List.set_cons_zero, List.set_cons_succ, i64_w, i32_w]
          rfl
         exact norm_ (by simp only [putAll, Act.put, List.setIfInBounds_toArray, List.set_cons_zero, List.set_cons_succ]) (hCont (.slice Ao15 t468.length co15, v472, v475, gb480) _ ⟨hHeld, (by (with_reducible repeat (first | apply Kd.R_alloc | apply Kd.R_drewN | apply Kd.R_drew)); exact Kd.R_mono HO470.out (fun _ hk => hk.1)), (by (with_reducible repeat (first | apply Kd.S_alloc | apply Kd.S_drewN | apply Kd.S_drew)); exact Kd.S_mono HO473.out (fun _ hk => ⟨hk.1.1, hk.2⟩)), (by (with_reducible repeat (first | apply Kd.S_alloc | apply Kd.S_drewN | apply Kd.S_drew)); exact Kd.S_mono HO476.out (fun _ hk => ⟨hk.1.1, hk.2⟩)), (by (with_reducible repeat (first | apply Kd.V_alloc | apply Kd.V_drewN | apply Kd.V_drew)); exact Kd.V_mono HO_465000.out (fun _ hk => ⟨hk.1.1.1.1.1, ⟨hk.1.1.1.2, ⟨hk.1.2, ⟨hk.2, ⟨hk.1.1.1.1.2.1, ⟨hk.1.1.1.1.2.2, hk.1.1.2⟩⟩⟩⟩⟩⟩)), (by (with_reducible repeat (first | apply Kd.V_alloc | apply Kd.V_drewN | apply Kd.V_drew)); exact Kd.V_mono HO_465001.out (fun _ hk => ⟨hk.1.1.1.1.1, ⟨hk.1.1.1.2, ⟨hk.1.2, ⟨hk.2, ⟨hk.1.1.1.1.2.1, ⟨hk.1.1.1.1.2.2, hk.1.1.2⟩⟩⟩⟩⟩⟩)), (by (with_reducible repeat (first | refine blk_drewN ?_ _ | refine blk_drew ?_ | refine blk_alloc ?_ _)); exact BK464.out), (by (with_reducible repeat (first | refine blk_drewN ?_ _ | refine blk_drew ?_ | refine blk_alloc ?_ _)); exact BK465.out), (by (with_reducible repeat (first | refine blk_drewN ?_ _ | refine blk_drew ?_ | refine blk_alloc ?_ _)); exact BK480.out), GW480.out, GE480.out, NB464_480.out, NB480_464.out, NB465_480.out, NB480_465.out, (by repeat (first | (with_reducible first | exact HB.out | apply below_alloc | apply pw_below_drewN | apply below_drew1 | refine below_set ?_ GE464.out | refine below_set ?_ GE465.out | refine below_set ?_ GE480.out) | exact HB.out))⟩)
       ·skip
        refine box_step ?hg (N := 8) ?hd (cs := #[.slice none 0 0, .slice none 0 0, .int .i64 0, .bool false]) (t := 25) ?hr ?_; (case hd => rfl); (case hg => rfl); (case hr => first | (go_simp; done) | (go_simp; rfl))
        intro gb480 hg w13 hbox hb
        have n0_ := Aside0.mk (Kd.V_below (Kd.V_elderB (by (with_reducible repeat (first | apply Kd.V_alloc | apply Kd.V_drewN | apply Kd.V_drew)); exact HO_465000.out) gb480 (Nat.le_of_eq hg.symm)) hb)
        have n1_ := Aside0.mk (Kd.V_below (Kd.V_elderB (by (with_reducible repeat (first | apply Kd.V_alloc | apply Kd.V_drewN | apply Kd.V_drew)); exact HO_465001.out) gb480 (Nat.le_of_eq hg.symm)) hb)
        have n2_ := Aside0.mk (blk_below (g := gb464) (o := .cells #[.slice Ao10 x465000_1.length co10, .slice Ao11 x465001_1.length co11, .int .i64 x465002_1, .bool x465003_1] 25 (0, 0)) (by (with_reducible repeat (first | refine blk_drewN ?_ _ | refine blk_drew ?_ | refine blk_alloc ?_ _)); exact BK464.out) hb)
        have n3_ := Aside0.mk (blk_below (g := gb465) (o := .cells #[.slice none 0 0, .slice none 0 0, .int .i64 x466002_1, .bool x466003_1] 25 (0, 0)) (by (with_reducible repeat (first | refine blk_drewN ?_ _ | refine blk_drew ?_ | refine blk_alloc ?_ _)); exact BK465.out) hb)
        have n4_ := Aside0.mk (below_step (by repeat (first | (with_reducible first | exact HB.out | apply below_alloc | apply pw_below_drewN | apply below_drew1 | refine below_set ?_ GE464.out | refine below_set ?_ GE465.out) | exact HB.out)) hb)
        have n5_ := Aside0.mk (hbox)
        have n6_ := Aside0.mk ((by rw [hg]; exact (below_size (by repeat (first | (with_reducible first | exact HB.out | apply below_alloc | apply pw_below_drewN | apply below_drew1 | refine below_set ?_ GE464.out | refine below_set ?_ GE465.out) | exact HB.out))) : w.heap.size ≤ gb480))
        have n7_ := Aside0.mk ((by rw [hg]; exact (below_size (by repeat (first | (with_reducible first | exact HB.out | apply below_alloc | apply pw_below_drewN | apply below_drew1 | refine below_set ?_ GE464.out | refine below_set ?_ GE465.out) | exact HB.out))) : w.heap.size ≤ gb480))
        have n8_ := Aside0.mk ((by rw [hg]; exact Nat.ne_of_lt (blk_lt (g := gb464) (o := .cells #[.slice Ao10 x465000_1.length co10, .slice Ao11 x465001_1.length co11, .int .i64 x465002_1, .bool x465003_1] 25 (0, 0)) (by (with_reducible repeat (first | refine blk_drewN ?_ _ | refine blk_drew ?_ | refine blk_alloc ?_ _)); exact BK464.out)) : gb464 ≠ gb480))
        have n9_ := Aside0.mk ((by rw [hg]; exact Nat.ne_of_gt (blk_lt (g := gb464) (o := .cells #[.slice Ao10 x465000_1.length co10, .slice Ao11 x465001_1.length co11, .int .i64 x465002_1, .bool x465003_1] 25 (0, 0)) (by (with_reducible repeat (first | refine blk_drewN ?_ _ | refine blk_drew ?_ | refine blk_alloc ?_ _)); exact BK464.out)) : gb480 ≠ gb464))
        have n10_ := Aside0.mk ((by rw [hg]; exact Nat.ne_of_lt (blk_lt (g := gb465) (o := .cells #[.slice none 0 0, .slice none 0 0, .int .i64 x466002_1, .bool x466003_1] 25 (0, 0)) (by (with_reducible repeat (first | refine blk_drewN ?_ _ | refine blk_drew ?_ | refine blk_alloc ?_ _)); exact BK465.out)) : gb465 ≠ gb480))
        have n11_ := Aside0.mk ((by rw [hg]; exact Nat.ne_of_gt (blk_lt (g := gb465) (o := .cells #[.slice none 0 0, .slice none 0 0, .int .i64 x466002_1, .bool x466003_1] 25 (0, 0)) (by (with_reducible repeat (first | refine blk_drewN ?_ _ | refine blk_drew ?_ | refine blk_alloc ?_ _)); exact BK465.out)) : gb480 ≠ gb465))
        clear HO_465000
        clear HO_465001
        clear BK464
        clear BK465
        clear HB
        have HO_465000 := n0_
        have HO_465001 := n1_
        have BK464 := n2_
        have BK465 := n3_
        have HB := n4_
        have BK480 := n5_
        have GW480 := n6_
        have GE480 := n7_
        have NB464_480 := n8_
        have NB480_464 := n9_
        have NB465_480 := n10_
        have NB480_465 := n11_
        clear n0_ n1_ n2_ n3_ n4_ n5_ n6_ n7_ n8_ n9_ n10_ n11_
        clear hb hbox hg
        refine hK.out _ _ ⟨(blk_cell BK464.out 0).trans rfl, (blk_cell BK464.out 1).trans rfl, (blk_cell BK464.out 2).trans rfl, (blk_cell BK464.out 3).trans rfl, ((HB.out.cell (World.block_lt_of_cell? w _ hw466_0)).trans hw466_0), ((HB.out.cell (World.block_lt_of_cell? w _ hw466_1)).trans hw466_1), ((HB.out.cell (World.block_lt_of_cell? w _ hw467_0)).trans hw467_0), ((HB.out.cell (World.block_lt_of_cell? w _ hw467_1)).trans hw467_1)⟩ (fun hHeld => ?_)
        clear hK K
        refine norm_ (a' := ?_) ?_ ?_
        rotate_left
        ·show Act.put _ (some 8) _ = _
         simp only [Act.put, List.setIfInBounds_toArray, List.set_cons_zero, List.set_cons_succ, i64_w, i32_w]
         rfl
        refine one_ (i := 11) (N := some 28) #[T29,T29,T29,T29,T29,T29,T29,T29,T29,T29,T29,T29,F29,F29,F29,F29,T29,F29,F29] rfl rfl (one_of HT_.out (by kernel_rfl)) (by decide) (fun K hK => ?_)
        refine goes_ Try.func31 (by kernel_rfl) rfl #[.int .u8 ((rd_T55 l1 x7_1).f1)] (by rfl) rfl rfl (by (try simp only [List.map_toArray, List.map_cons, List.map_nil]); first | done | rfl | (simp only [List.length_drop, List.length_take]; rfl)) ?_
        with_reducible refine (mapsheetslaw24_block.calls k1 ((rd_T55 l1 x7_1).f1) t468 _ A7.out).mono ?_
        rintro e w14 ⟨v469, rfl, ho0, hb⟩
        refine ⟨_, rfl, ?_⟩
        have n0_ := Aside0.mk (Kd.V_elder' (by (with_reducible repeat (first | apply Kd.V_alloc | apply Kd.V_drewN | apply Kd.V_drew)); exact HO_465000.out) (Kd.R_base ho0) hb)
        have n1_ := Aside0.mk (Kd.V_elder' (by (with_reducible repeat (first | apply Kd.V_alloc | apply Kd.V_drewN | apply Kd.V_drew)); exact HO_465001.out) (Kd.R_base ho0) hb)
        have n2_ := Aside0.mk (Kd.R_lower (Kd.R_newM (M := fun k_ => (w.heap.size ≤ k_)) ho0 (below_size (by repeat (first | (with_reducible first | exact HB.out | apply below_alloc | apply pw_below_drewN | apply below_drew1 | refine below_set ?_ GE464.out | refine below_set ?_ GE465.out | refine below_set ?_ GE480.out) | exact HB.out))) (fun k_ h_ => h_)) (below_size (by repeat (first | (with_reducible first | exact HB.out | apply below_alloc | apply pw_below_drewN | apply below_drew1 | refine below_set ?_ GE464.out | refine below_set ?_ GE465.out | refine below_set ?_ GE480.out) | exact HB.out))))
        have n3_ := Aside0.mk (blk_below (g := gb464) (o := .cells #[.slice Ao10 x465000_1.length co10, .slice Ao11 x465001_1.length co11, .int .i64 x465002_1, .bool x465003_1] 25 (0, 0)) (by (with_reducible repeat (first | refine blk_drewN ?_ _ | refine blk_drew ?_ | refine blk_alloc ?_ _)); exact BK464.out) hb)
        have n4_ := Aside0.mk (blk_below (g := gb465) (o := .cells #[.slice none 0 0, .slice none 0 0, .int .i64 x466002_1, .bool x466003_1] 25 (0, 0)) (by (with_reducible repeat (first | refine blk_drewN ?_ _ | refine blk_drew ?_ | refine blk_alloc ?_ _)); exact BK465.out) hb)
        have n5_ := Aside0.mk (blk_below (g := gb480) (o := .cells #[.slice none 0 0, .slice none 0 0, .int .i64 0, .bool false] 25 (0, 0)) (by (with_reducible repeat (first | refine blk_drewN ?_ _ | refine blk_drew ?_ | refine blk_alloc ?_ _)); exact BK480.out) hb)
        have n6_ := Aside0.mk (below_step (by repeat (first | (with_reducible first | exact HB.out | apply below_alloc | apply pw_below_drewN | apply below_drew1 | refine below_set ?_ GE464.out | refine below_set ?_ GE465.out | refine below_set ?_ GE480.out) | exact HB.out)) hb)
        clear HO_465000
        clear HO_465001
        clear BK464
        clear BK465
        clear BK480
        clear HB
        have HO_465000 := n0_
        have HO_465001 := n1_
        have HO470 := n2_
        have BK464 := n3_
        have BK465 := n4_
        have BK480 := n5_
        have HB := n6_
        clear n0_ n1_ n2_ n3_ n4_ n5_ n6_
        (try clear hb)
        (try clear hb2)
        (try clear hk)
        (try clear hi)
        (try clear ho0)
        obtain ⟨Ao15, co15, eo15⟩ := Kd.R_slice HO470.out
        (first | subst eo15 | (injection eo15 with f1_ f2_ f3_; have f4_ := f1_.symm; have f5_ := f3_.symm; clear f1_ f2_ f3_; subst f4_; subst f5_))
        refine hK.out _ _ ⟨(blk_cell BK464.out 0).trans rfl, (blk_cell BK464.out 1).trans rfl, (blk_cell BK464.out 2).trans rfl, (blk_cell BK464.out 3).trans rfl, ((HB.out.cell (World.block_lt_of_cell? w _ hw466_0)).trans hw466_0), ((HB.out.cell (World.block_lt_of_cell? w _ hw466_1)).trans hw466_1), ((HB.out.cell (World.block_lt_of_cell? w _ hw467_0)).trans hw467_0), ((HB.out.cell (World.block_lt_of_cell? w _ hw467_1)).trans hw467_1)⟩ (fun hHeld => ?_)
        clear hK K
        refine norm_ (a' := ?_) ?_ ?_
        rotate_left
        ·show Act.put _ (some 28) _ = _
         simp only [Act.put, List.setIfInBounds_toArray, List.set_cons_zero, List.set_cons_succ, i64_w, i32_w]
         rfl
        refine one_ (i := 12) (N := some 29) #[T29,T29,T29,T29,T29,T29,T29,T29,T29,T29,T29,T29,T29,F29,F29,F29,T29,F29,F29] rfl rfl (one_of HT_.out (by kernel_rfl)) (by decide) (fun K hK => ?_)
        refine goes_ Try.func13 (by kernel_rfl) rfl #[.agg #[.slice Ao10 x465000_1.length co10, .slice Ao11 x465001_1.length co11, .int .i64 x465002_1, .bool x465003_1], .int .i64 ((rd_T55 l1 x7_1).f0), .slice Ao15 t468.length co15] (by rfl) rfl rfl (by (try simp only [List.map_toArray, List.map_cons, List.map_nil]); first | done | rfl | (simp only [List.length_drop, List.length_take]; rfl)) ?_
        with_reducible refine (device_Write.calls k1 _ _ x465000_1 _ _ x465001_1 x465002_1 x465003_1 ((rd_T55 l1 x7_1).f0) _ _ t468 t471 t474 t477 t478 t479 _ ?side1 ?side2 ?side3 ?side4 ?side5 ?side6 A8.out).mono ?_
        (case side1 => repeat (first | exact (Kd.V_reads' HO_465000.out).2.2 | (with_reducible refine Kd.C_alloc ?_ _) | (with_reducible refine Kd.C_drewN ?_ _) | (with_reducible refine Kd.C_drew ?_)))
        (case side2 => exact (Kd.V_reads' HO_465000.out).2.1)
        (case side3 => repeat (first | exact (Kd.V_reads' HO_465001.out).2.2 | (with_reducible refine Kd.C_alloc ?_ _) | (with_reducible refine Kd.C_drewN ?_ _) | (with_reducible refine Kd.C_drew ?_)))
        (case side4 => exact (Kd.V_reads' HO_465001.out).2.1)
        (case side5 => repeat (first | exact (Kd.R_reads' HO470.out).2.2 | (with_reducible refine Kd.C_alloc ?_ _) | (with_reducible refine Kd.C_drewN ?_ _) | (with_reducible refine Kd.C_drew ?_)))
        (case side6 => exact (Kd.R_reads' HO470.out).2.1)
        rintro e w16 ⟨v472, v475, rfl, ho0, ho1, hb⟩
        refine ⟨_, rfl, ?_⟩
        have n0_ := Aside0.mk (Kd.V_mono (Kd.V_told (Kd.V_told (Kd.V_old (by (with_reducible repeat (first | apply Kd.V_alloc | apply Kd.V_drewN | apply Kd.V_drew)); exact HO_465000.out) hb) (Kd.S_base ho0)) (Kd.S_base ho1)) (fun _ h_ => h_.1))
        have n1_ := Aside0.mk (Kd.V_mono (Kd.V_told (Kd.V_told (Kd.V_old (by (with_reducible repeat (first | apply Kd.V_alloc | apply Kd.V_drewN | apply Kd.V_drew)); exact HO_465001.out) hb) (Kd.S_base ho0)) (Kd.S_base ho1)) (fun _ h_ => h_.1))
        have n2_ := Aside0.mk (Kd.R_below (by (with_reducible repeat (first | apply Kd.R_alloc | apply Kd.R_drewN | apply Kd.R_drew)); exact HO470.out) hb)
        have n3_ := Aside0.mk (Kd.S_lower (Kd.S_new' (Kd.S_newM (M := fun k_ => (w.heap.size ≤ k_)) ho0 (below_size (by repeat (first | (with_reducible first | exact HB.out | apply below_alloc | apply pw_below_drewN | apply below_drew1 | refine below_set ?_ GE464.out | refine below_set ?_ GE465.out | refine below_set ?_ GE480.out) | exact HB.out))) (fun k_ h_ => h_)) (Kd.R_lt (by (with_reducible repeat (first | apply Kd.R_alloc | apply Kd.R_drewN | apply Kd.R_drew)); exact HO470.out))) (below_size (by repeat (first | (with_reducible first | exact HB.out | apply below_alloc | apply pw_below_drewN | apply below_drew1 | refine below_set ?_ GE464.out | refine below_set ?_ GE465.out | refine below_set ?_ GE480.out) | exact HB.out))))
        have n4_ := Aside0.mk (Kd.S_lower (Kd.S_new' (Kd.S_newM (M := fun k_ => (w.heap.size ≤ k_)) ho1 (below_size (by repeat (first | (with_reducible first | exact HB.out | apply below_alloc | apply pw_below_drewN | apply below_drew1 | refine below_set ?_ GE464.out | refine below_set ?_ GE465.out | refine below_set ?_ GE480.out) | exact HB.out))) (fun k_ h_ => h_)) (Kd.R_lt (by (with_reducible repeat (first | apply Kd.R_alloc | apply Kd.R_drewN | apply Kd.R_drew)); exact HO470.out))) (below_size (by repeat (first | (with_reducible first | exact HB.out | apply below_alloc | apply pw_below_drewN | apply below_drew1 | refine below_set ?_ GE464.out | refine below_set ?_ GE465.out | refine below_set ?_ GE480.out) | exact HB.out))))
        have n5_ := Aside0.mk (blk_below (g := gb464) (o := .cells #[.slice Ao10 x465000_1.length co10, .slice Ao11 x465001_1.length co11, .int .i64 x465002_1, .bool x465003_1] 25 (0, 0)) (by (with_reducible repeat (first | refine blk_drewN ?_ _ | refine blk_drew ?_ | refine blk_alloc ?_ _)); exact BK464.out) hb)
        have n6_ := Aside0.mk (blk_below (g := gb465) (o := .cells #[.slice none 0 0, .slice none 0 0, .int .i64 x466002_1, .bool x466003_1] 25 (0, 0)) (by (with_reducible repeat (first | refine blk_drewN ?_ _ | refine blk_drew ?_ | refine blk_alloc ?_ _)); exact BK465.out) hb)
        have n7_ := Aside0.mk (blk_below (g := gb480) (o := .cells #[.slice none 0 0, .slice none 0 0, .int .i64 0, .bool false] 25 (0, 0)) (by (with_reducible repeat (first | refine blk_drewN ?_ _ | refine blk_drew ?_ | refine blk_alloc ?_ _)); exact BK480.out) hb)
        have n8_ := Aside0.mk (below_step (by repeat (first | (with_reducible first | exact HB.out | apply below_alloc | apply pw_below_drewN | apply below_drew1 | refine below_set ?_ GE464.out | refine below_set ?_ GE465.out | refine below_set ?_ GE480.out) | exact HB.out)) hb)
        clear HO_465000
        clear HO_465001
        clear HO470
        clear BK464
        clear BK465
        clear BK480
        clear HB
        have HO_465000 := n0_
        have HO_465001 := n1_
        have HO470 := n2_
        have HO473 := n3_
        have HO476 := n4_
        have BK464 := n5_
        have BK465 := n6_
        have BK480 := n7_
        have HB := n8_
        clear n0_ n1_ n2_ n3_ n4_ n5_ n6_ n7_ n8_
        (try clear hb)
        (try clear hb2)
        (try clear hk)
        (try clear hi)
        (try clear ho0)
        (try clear ho1)
        refine hK.out _ _ ⟨(blk_cell BK464.out 0).trans rfl, (blk_cell BK464.out 1).trans rfl, (blk_cell BK464.out 2).trans rfl, (blk_cell BK464.out 3).trans rfl, ((HB.out.cell (World.block_lt_of_cell? w _ hw466_0)).trans hw466_0), ((HB.out.cell (World.block_lt_of_cell? w _ hw466_1)).trans hw466_1), ((HB.out.cell (World.block_lt_of_cell? w _ hw467_0)).trans hw467_0), ((HB.out.cell (World.block_lt_of_cell? w _ hw467_1)).trans hw467_1)⟩ (fun hHeld => ?_)
        clear hK K
        refine norm_ (a' := ?_) ?_ ?_
        rotate_left
        ·show Act.put _ (some 29) _ = _
         simp only [Act.put, List.setIfInBounds_toArray, List.set_cons_zero, List.set_cons_succ, i64_w, i32_w]
         rfl
        refine pure_ (i := 13) (N := some 16) (v := ?_) (a' := ?_) #[T29,T29,T29,T29,T29,T29,T29,T29,T29,T29,T29,T29,T29,T29,F29,F29,T29,F29,F29] rfl rfl (any_of HT_.out (by kernel_rfl)) (fun _ _ _ h => h) (Or.inl ⟨by rfl, ?_⟩) ?_ ?_
        rotate_left
        ·intro w'
         go_simp
         with_reducible rfl
        rotate_left
        ·simp only [Act.put, List.setIfInBounds_toArray, List.set_cons_zero, List.set_cons_succ, i64_w, i32_w]
         rfl
        refine pure_ (i := 14) (N := some 30) (v := ?_) (a' := ?_) #[T29,T29,T29,T29,T29,T29,T29,T29,T29,T29,T29,T29,T29,T29,T29,F29,T29,F29,F29] rfl rfl (any_of HT_.out (by kernel_rfl)) (fun _ _ _ h => h) (Or.inl ⟨by rfl, ?_⟩) ?_ ?_
        rotate_left
        ·intro w'
         go_simp
         with_reducible rfl
        rotate_left
        ·simp only [Act.put, List.setIfInBounds_toArray, List.set_cons_zero, List.set_cons_succ, i64_w, i32_w]
         rfl
        refine pure_ (i := 15) (N := some 31) (v := ?_) (a' := ?_) #[T29,T29,T29,T29,T29,T29,T29,T29,T29,T29,T29,T29,T29,T29,T29,T29,T29,F29,F29] rfl rfl (any_of HT_.out (by kernel_rfl)) (fun _ _ _ h => h) (Or.inl ⟨by rfl, ?_⟩) ?_ ?_
        rotate_left
        ·intro w'
         go_simp
         with_reducible rfl
        rotate_left
        ·simp only [Act.put, List.setIfInBounds_toArray, List.set_cons_zero, List.set_cons_succ, i64_w, i32_w]
         rfl
        exact norm_ (by simp only [putAll, Act.put, List.setIfInBounds_toArray, List.set_cons_zero, List.set_cons_succ]) (hCont (.slice Ao15 t468.length co15, v472, v475, gb480) _ ⟨hHeld, (by (with_reducible repeat (first | apply Kd.R_alloc | apply Kd.R_drewN | apply Kd.R_drew)); exact Kd.R_mono HO470.out (fun _ hk => hk.1)), (by (with_reducible repeat (first | apply Kd.S_alloc | apply Kd.S_drewN | apply Kd.S_drew)); exact Kd.S_mono HO473.out (fun _ hk => ⟨hk.1.1, hk.2⟩)), (by (with_reducible repeat (first | apply Kd.S_alloc | apply Kd.S_drewN | apply Kd.S_drew)); exact Kd.S_mono HO476.out (fun _ hk => ⟨hk.1.1, hk.2⟩)), (by (with_reducible repeat (first | apply Kd.V_alloc | apply Kd.V_drewN | apply Kd.V_drew)); exact Kd.V_mono HO_465000.out (fun _ hk => ⟨hk.1.1.1.1.1, ⟨hk.1.1.2, ⟨hk.1.2, ⟨hk.2, ⟨hk.1.1.1.1.2.1, ⟨hk.1.1.1.1.2.2, hk.1.1.1.2⟩⟩⟩⟩⟩⟩)), (by (with_reducible repeat (first | apply Kd.V_alloc | apply Kd.V_drewN | apply Kd.V_drew)); exact Kd.V_mono HO_465001.out (fun _ hk => ⟨hk.1.1.1.1.1, ⟨hk.1.1.2, ⟨hk.1.2, ⟨hk.2, ⟨hk.1.1.1.1.2.1, ⟨hk.1.1.1.1.2.2, hk.1.1.1.2⟩⟩⟩⟩⟩⟩)), (by (with_reducible repeat (first | refine blk_drewN ?_ _ | refine blk_drew ?_ | refine blk_alloc ?_ _)); exact BK464.out), (by (with_reducible repeat (first | refine blk_drewN ?_ _ | refine blk_drew ?_ | refine blk_alloc ?_ _)); exact BK465.out), (by (with_reducible repeat (first | refine blk_drewN ?_ _ | refine blk_drew ?_ | refine blk_alloc ?_ _)); exact BK480.out), GW480.out, GE480.out, NB464_480.out, NB480_464.out, NB465_480.out, NB480_465.out, (by repeat (first | (with_reducible first | exact HB.out | apply below_alloc | apply pw_below_drewN | apply below_drew1 | refine below_set ?_ GE464.out | refine below_set ?_ GE465.out | refine below_set ?_ GE480.out) | exact HB.out))⟩)
      rintro ⟨v469, v472, v475, gb480⟩ w17 ⟨hS_, h0_, h1_, h2_, h3_, h4_, h5_, h6_, h7_, h8_, h9_, h10_, h11_, h12_, h13_, h14_⟩
      have n0_ : Aside0 (Kd.R (Kd.int .u8) 5 w17 w.heap.size (fun k_ => (w.heap.size ≤ k_)) v469 t468) := ⟨h0_⟩
      have n1_ : Aside0 (Kd.S (Kd.slice 5 (Kd.int .u8)) 26 w17 w.heap.size (fun k_ => (w.heap.size ≤ k_) ∧ some k_ ≠ (v469 : Value).ownBlock) v472 t471) := ⟨h1_⟩
      have n2_ : Aside0 (Kd.S k53 53 w17 w.heap.size (fun k_ => (w.heap.size ≤ k_) ∧ some k_ ≠ (v469 : Value).ownBlock) v475 t474) := ⟨h2_⟩
      have n3_ : Aside0 (Kd.V (Kd.slice 5 (Kd.int .u8)) 26 w17 w.heap.size (fun k_ => ((P0_0_ k_ ∨ P0_1_ k_) ∨ w.heap.size ≤ k_) ∧ some k_ ≠ (v469 : Value).ownBlock ∧ some k_ ≠ (v472 : Value).ownBlock ∧ some k_ ≠ (v475 : Value).ownBlock ∧ k_ ≠ gb464 ∧ k_ ≠ gb465 ∧ k_ ≠ gb480) (.slice Ao10 x465000_1.length co10) x465000_1) := ⟨h3_⟩
      have n4_ : Aside0 (Kd.V k53 53 w17 w.heap.size (fun k_ => ((P0_0_ k_ ∨ P0_1_ k_) ∨ w.heap.size ≤ k_) ∧ some k_ ≠ (v469 : Value).ownBlock ∧ some k_ ≠ (v472 : Value).ownBlock ∧ some k_ ≠ (v475 : Value).ownBlock ∧ k_ ≠ gb464 ∧ k_ ≠ gb465 ∧ k_ ≠ gb480) (.slice Ao11 x465001_1.length co11) x465001_1) := ⟨h4_⟩
      have n5_ : Aside0 (w17.heap[gb464]? = some (.cells #[.slice Ao10 x465000_1.length co10, .slice Ao11 x465001_1.length co11, .int .i64 x465002_1, .bool x465003_1] 25 (0, 0))) := ⟨h5_⟩
      have n6_ : Aside0 (w17.heap[gb465]? = some (.cells #[.slice none 0 0, .slice none 0 0, .int .i64 x466002_1, .bool x466003_1] 25 (0, 0))) := ⟨h6_⟩
      have n7_ : Aside0 (w17.heap[gb480]? = some (.cells #[.slice none 0 0, .slice none 0 0, .int .i64 0, .bool false] 25 (0, 0))) := ⟨h7_⟩
      have n8_ : Aside0 (w.heap.size ≤ gb480) := ⟨h8_⟩
      have n9_ : Aside0 (w.heap.size ≤ gb480) := ⟨h9_⟩
      have n10_ : Aside0 (gb464 ≠ gb480) := ⟨h10_⟩
      have n11_ : Aside0 (gb480 ≠ gb464) := ⟨h11_⟩
      have n12_ : Aside0 (gb465 ≠ gb480) := ⟨h12_⟩
      have n13_ : Aside0 (gb480 ≠ gb465) := ⟨h13_⟩
      have n14_ : Aside0 (Below w.heap.size w w17) := ⟨h14_⟩
      clear HO_465000
      clear HO_465001
      clear BK464
      clear BK465
      clear HB
      clear h0_ h1_ h2_ h3_ h4_ h5_ h6_ h7_ h8_ h9_ h10_ h11_ h12_ h13_ h14_
      have HO470 := n0_
      have HO473 := n1_
      have HO476 := n2_
      have HO_465000 := n3_
      have HO_465001 := n4_
      have BK464 := n5_
      have BK465 := n6_
      have BK480 := n7_
      have GW480 := n8_
      have GE480 := n9_
      have NB464_480 := n10_
      have NB480_464 := n11_
      have NB465_480 := n12_
      have NB480_465 := n13_
      have HB := n14_
      clear n0_ n1_ n2_ n3_ n4_ n5_ n6_ n7_ n8_ n9_ n10_ n11_ n12_ n13_ n14_
      have hHeld : w17.cell? ⟨gb464, 0, none⟩ = some (.slice Ao10 x465000_1.length co10) ∧ w17.cell? ⟨gb464, 1, none⟩ = some (.slice Ao11 x465001_1.length co11) ∧ w17.cell? ⟨gb464, 2, none⟩ = some (.int .i64 x465002_1) ∧ w17.cell? ⟨gb464, 3, none⟩ = some (.bool x465003_1) ∧ w17.cell? (ad466.add ((x7_1).toNat * 2)) = some (.int .i64 ((rd_T55 l1 x7_1).f0)) ∧ w17.cell? ⟨(ad466.add ((x7_1).toNat * 2)).block, (ad466.add ((x7_1).toNat * 2)).off + 1, none⟩ = some (.int .u8 ((rd_T55 l1 x7_1).f1)) ∧ w17.cell? (ad466.add ((x7_1).toNat * 2)) = some (.int .i64 ((rd_T55 l1 x7_1).f0)) ∧ w17.cell? ⟨(ad466.add ((x7_1).toNat * 2)).block, (ad466.add ((x7_1).toNat * 2)).off + 1, none⟩ = some (.int .u8 ((rd_T55 l1 x7_1).f1)) := hS_
      obtain ⟨Ao18, co18, eo18⟩ := Kd.S_slice HO473.out
      (first | subst eo18 | (injection eo18 with f1_ f2_ f3_; have f4_ := f1_.symm; have f5_ := f3_.symm; clear f1_ f2_ f3_; subst f4_; subst f5_))
      obtain ⟨Ao20, co20, eo20⟩ := Kd.S_slice HO476.out
      (first | subst eo20 | (injection eo20 with f1_ f2_ f3_; have f4_ := f1_.symm; have f5_ := f3_.symm; clear f1_ f2_ f3_; subst f4_; subst f5_))
      refine norm_ (a' := ?_) ?_ ?_
      rotate_left
      ·simp only [putAll, Act.put, List.setIfInBounds_toArray, List.set_cons_zero, List.set_cons_succ]
       rfl
      refine one_ (i := 17) (N := none) #[T29,T29,T29,T29,T29,T29,T29,T29,T29,T29,T29,T29,T29,T29,T29,T29,T29,T29,F29] rfl rfl (one_of HT_.out (by kernel_rfl)) (by decide) (fun K hK => ?_)
      have hs19 : w17.cell? ⟨gb480, 0, none⟩ = some (.slice none 0 0) := (blk_cell BK480.out 0).trans rfl
      have hfs19 := blk_frozen BK480.out 0
      have hns19_0 := NB464_480.out
      have hns19_1 := NB465_480.out
      have hms19_0 := NB480_464.out
      have hms19_1 := NB480_465.out
      have hs21 : w17.cell? ⟨gb480, 1, none⟩ = some (.slice none 0 0) := (blk_cell BK480.out 1).trans rfl
      have hfs21 := blk_frozen BK480.out 1
      have hns21_0 := NB464_480.out
      have hns21_1 := NB465_480.out
      have hms21_0 := NB480_464.out
      have hms21_1 := NB480_465.out
      have hs22 : w17.cell? ⟨gb480, 2, none⟩ = some (.int .i64 0) := (blk_cell BK480.out 2).trans rfl
      have hfs22 := blk_frozen BK480.out 2
      have hns22_0 := NB464_480.out
      have hns22_1 := NB465_480.out
      have hms22_0 := NB480_464.out
      have hms22_1 := NB480_465.out
      have hs23 : w17.cell? ⟨gb480, 3, none⟩ = some (.bool false) := (blk_cell BK480.out 3).trans rfl
      have hfs23 := blk_frozen BK480.out 3
      have hns23_0 := NB464_480.out
      have hns23_1 := NB465_480.out
      have hms23_0 := NB480_464.out
      have hms23_1 := NB480_465.out
      refine skip_ (w1 := ?_) (by rfl) rfl ?_ ?_
      rotate_left
      ·go_simp
       rfl
      refine hK.out _ _ ⟨((cell_far (p := ⟨gb480, _, none⟩) NB464_480.out _).trans (((cell_far (p := ⟨gb480, _, none⟩) NB464_480.out _).trans (((cell_far (p := ⟨gb480, _, none⟩) NB464_480.out _).trans (((cell_far (p := ⟨gb480, _, none⟩) NB464_480.out _).trans (hHeld.1)))))))), ((cell_far (p := ⟨gb480, _, none⟩) NB464_480.out _).trans (((cell_far (p := ⟨gb480, _, none⟩) NB464_480.out _).trans (((cell_far (p := ⟨gb480, _, none⟩) NB464_480.out _).trans (((cell_far (p := ⟨gb480, _, none⟩) NB464_480.out _).trans (hHeld.2.1)))))))), ((cell_far (p := ⟨gb480, _, none⟩) NB464_480.out _).trans (((cell_far (p := ⟨gb480, _, none⟩) NB464_480.out _).trans (((cell_far (p := ⟨gb480, _, none⟩) NB464_480.out _).trans (((cell_far (p := ⟨gb480, _, none⟩) NB464_480.out _).trans (hHeld.2.2.1)))))))), ((cell_far (p := ⟨gb480, _, none⟩) NB464_480.out _).trans (((cell_far (p := ⟨gb480, _, none⟩) NB464_480.out _).trans (((cell_far (p := ⟨gb480, _, none⟩) NB464_480.out _).trans (((cell_far (p := ⟨gb480, _, none⟩) NB464_480.out _).trans (hHeld.2.2.2.1)))))))), ((cell_far (p := ⟨gb480, _, none⟩) (by first | exact Nat.ne_of_lt (Nat.lt_of_lt_of_le (by have := World.block_lt_of_cell? _ _ hw466_0; first | rwa [add_block] at this | exact this) GW480.out) | (rw [add_block]; exact Nat.ne_of_lt (Nat.lt_of_lt_of_le (by have := World.block_lt_of_cell? _ _ hw466_0; first | rwa [add_block] at this | exact this) GW480.out)) | (show (Addr.add _ _).block ≠ _; rw [add_block]; exact Nat.ne_of_lt (Nat.lt_of_lt_of_le (by have := World.block_lt_of_cell? _ _ hw466_0; first | rwa [add_block] at this | exact this) GW480.out)) | (dsimp only; exact Nat.ne_of_lt (Nat.lt_of_lt_of_le (by have := World.block_lt_of_cell? _ _ hw466_0; first | rwa [add_block] at this | exact this) GW480.out))) _).trans (((cell_far (p := ⟨gb480, _, none⟩) (by first | exact Nat.ne_of_lt (Nat.lt_of_lt_of_le (by have := World.block_lt_of_cell? _ _ hw466_0; first | rwa [add_block] at this | exact this) GW480.out) | (rw [add_block]; exact Nat.ne_of_lt (Nat.lt_of_lt_of_le (by have := World.block_lt_of_cell? _ _ hw466_0; first | rwa [add_block] at this | exact this) GW480.out)) | (show (Addr.add _ _).block ≠ _; rw [add_block]; exact Nat.ne_of_lt (Nat.lt_of_lt_of_le (by have := World.block_lt_of_cell? _ _ hw466_0; first | rwa [add_block] at this | exact this) GW480.out)) | (dsimp only; exact Nat.ne_of_lt (Nat.lt_of_lt_of_le (by have := World.block_lt_of_cell? _ _ hw466_0; first | rwa [add_block] at this | exact this) GW480.out))) _).trans (((cell_far (p := ⟨gb480, _, none⟩) (by first | exact Nat.ne_of_lt (Nat.lt_of_lt_of_le (by have := World.block_lt_of_cell? _ _ hw466_0; first | rwa [add_block] at this | exact this) GW480.out) | (rw [add_block]; exact Nat.ne_of_lt (Nat.lt_of_lt_of_le (by have := World.block_lt_of_cell? _ _ hw466_0; first | rwa [add_block] at this | exact this) GW480.out)) | (show (Addr.add _ _).block ≠ _; rw [add_block]; exact Nat.ne_of_lt (Nat.lt_of_lt_of_le (by have := World.block_lt_of_cell? _ _ hw466_0; first | rwa [add_block] at this | exact this) GW480.out)) | (dsimp only; exact Nat.ne_of_lt (Nat.lt_of_lt_of_le (by have := World.block_lt_of_cell? _ _ hw466_0; first | rwa [add_block] at this | exact this) GW480.out))) _).trans (((cell_far (p := ⟨gb480, _, none⟩) (by first | exact Nat.ne_of_lt (Nat.lt_of_lt_of_le (by have := World.block_lt_of_cell? _ _ hw466_0; first | rwa [add_block] at this | exact this) GW480.out) | (rw [add_block]; exact Nat.ne_of_lt (Nat.lt_of_lt_of_le (by have := World.block_lt_of_cell? _ _ hw466_0; first | rwa [add_block] at this | exact this) GW480.out)) | (show (Addr.add _ _).block ≠ _; rw [add_block]; exact Nat.ne_of_lt (Nat.lt_of_lt_of_le (by have := World.block_lt_of_cell? _ _ hw466_0; first | rwa [add_block] at this | exact this) GW480.out)) | (dsimp only; exact Nat.ne_of_lt (Nat.lt_of_lt_of_le (by have := World.block_lt_of_cell? _ _ hw466_0; first | rwa [add_block] at this | exact this) GW480.out))) _).trans (hHeld.2.2.2.2.1)))))))), ((cell_far (p := ⟨gb480, _, none⟩) (by first | exact Nat.ne_of_lt (Nat.lt_of_lt_of_le (by have := World.block_lt_of_cell? _ _ hw466_1; first | rwa [add_block] at this | exact this) GW480.out) | (rw [add_block]; exact Nat.ne_of_lt (Nat.lt_of_lt_of_le (by have := World.block_lt_of_cell? _ _ hw466_1; first | rwa [add_block] at this | exact this) GW480.out)) | (show (Addr.add _ _).block ≠ _; rw [add_block]; exact Nat.ne_of_lt (Nat.lt_of_lt_of_le (by have := World.block_lt_of_cell? _ _ hw466_1; first | rwa [add_block] at this | exact this) GW480.out)) | (dsimp only; exact Nat.ne_of_lt (Nat.lt_of_lt_of_le (by have := World.block_lt_of_cell? _ _ hw466_1; first | rwa [add_block] at this | exact this) GW480.out))) _).trans (((cell_far (p := ⟨gb480, _, none⟩) (by first | exact Nat.ne_of_lt (Nat.lt_of_lt_of_le (by have := World.block_lt_of_cell? _ _ hw466_1; first | rwa [add_block] at this | exact this) GW480.out) | (rw [add_block]; exact Nat.ne_of_lt (Nat.lt_of_lt_of_le (by have := World.block_lt_of_cell? _ _ hw466_1; first | rwa [add_block] at this | exact this) GW480.out)) | (show (Addr.add _ _).block ≠ _; rw [add_block]; exact Nat.ne_of_lt (Nat.lt_of_lt_of_le (by have := World.block_lt_of_cell? _ _ hw466_1; first | rwa [add_block] at this | exact this) GW480.out)) | (dsimp only; exact Nat.ne_of_lt (Nat.lt_of_lt_of_le (by have := World.block_lt_of_cell? _ _ hw466_1; first | rwa [add_block] at this | exact this) GW480.out))) _).trans (((cell_far (p := ⟨gb480, _, none⟩) (by first | exact Nat.ne_of_lt (Nat.lt_of_lt_of_le (by have := World.block_lt_of_cell? _ _ hw466_1; first | rwa [add_block] at this | exact this) GW480.out) | (rw [add_block]; exact Nat.ne_of_lt (Nat.lt_of_lt_of_le (by have := World.block_lt_of_cell? _ _ hw466_1; first | rwa [add_block] at this | exact this) GW480.out)) | (show (Addr.add _ _).block ≠ _; rw [add_block]; exact Nat.ne_of_lt (Nat.lt_of_lt_of_le (by have := World.block_lt_of_cell? _ _ hw466_1; first | rwa [add_block] at this | exact this) GW480.out)) | (dsimp only; exact Nat.ne_of_lt (Nat.lt_of_lt_of_le (by have := World.block_lt_of_cell? _ _ hw466_1; first | rwa [add_block] at this | exact this) GW480.out))) _).trans (((cell_far (p := ⟨gb480, _, none⟩) (by first | exact Nat.ne_of_lt (Nat.lt_of_lt_of_le (by have := World.block_lt_of_cell? _ _ hw466_1; first | rwa [add_block] at this | exact this) GW480.out) | (rw [add_block]; exact Nat.ne_of_lt (Nat.lt_of_lt_of_le (by have := World.block_lt_of_cell? _ _ hw466_1; first | rwa [add_block] at this | exact this) GW480.out)) | (show (Addr.add _ _).block ≠ _; rw [add_block]; exact Nat.ne_of_lt (Nat.lt_of_lt_of_le (by have := World.block_lt_of_cell? _ _ hw466_1; first | rwa [add_block] at this | exact this) GW480.out)) | (dsimp only; exact Nat.ne_of_lt (Nat.lt_of_lt_of_le (by have := World.block_lt_of_cell? _ _ hw466_1; first | rwa [add_block] at this | exact this) GW480.out))) _).trans (hHeld.2.2.2.2.2.1)))))))), ((cell_far (p := ⟨gb480, _, none⟩) (by first | exact Nat.ne_of_lt (Nat.lt_of_lt_of_le (by have := World.block_lt_of_cell? _ _ hw467_0; first | rwa [add_block] at this | exact this) GW480.out) | (rw [add_block]; exact Nat.ne_of_lt (Nat.lt_of_lt_of_le (by have := World.block_lt_of_cell? _ _ hw467_0; first | rwa [add_block] at this | exact this) GW480.out)) | (show (Addr.add _ _).block ≠ _; rw [add_block]; exact Nat.ne_of_lt (Nat.lt_of_lt_of_le (by have := World.block_lt_of_cell? _ _ hw467_0; first | rwa [add_block] at this | exact this) GW480.out)) | (dsimp only; exact Nat.ne_of_lt (Nat.lt_of_lt_of_le (by have := World.block_lt_of_cell? _ _ hw467_0; first | rwa [add_block] at this | exact this) GW480.out))) _).trans (((cell_far (p := ⟨gb480, _, none⟩) (by first | exact Nat.ne_of_lt (Nat.lt_of_lt_of_le (by have := World.block_lt_of_cell? _ _ hw467_0; first | rwa [add_block] at this | exact this) GW480.out) | (rw [add_block]; exact Nat.ne_of_lt (Nat.lt_of_lt_of_le (by have := World.block_lt_of_cell? _ _ hw467_0; first | rwa [add_block] at this | exact this) GW480.out)) | (show (Addr.add _ _).block ≠ _; rw [add_block]; exact Nat.ne_of_lt (Nat.lt_of_lt_of_le (by have := World.block_lt_of_cell? _ _ hw467_0; first | rwa [add_block] at this | exact this) GW480.out)) | (dsimp only; exact Nat.ne_of_lt (Nat.lt_of_lt_of_le (by have := World.block_lt_of_cell? _ _ hw467_0; first | rwa [add_block] at this | exact this) GW480.out))) _).trans (((cell_far (p := ⟨gb480, _, none⟩) (by first | exact Nat.ne_of_lt (Nat.lt_of_lt_of_le (by have := World.block_lt_of_cell? _ _ hw467_0; first | rwa [add_block] at this | exact this) GW480.out) | (rw [add_block]; exact Nat.ne_of_lt (Nat.lt_of_lt_of_le (by have := World.block_lt_of_cell? _ _ hw467_0; first | rwa [add_block] at this | exact this) GW480.out)) | (show (Addr.add _ _).block ≠ _; rw [add_block]; exact Nat.ne_of_lt (Nat.lt_of_lt_of_le (by have := World.block_lt_of_cell? _ _ hw467_0; first | rwa [add_block] at this | exact this) GW480.out)) | (dsimp only; exact Nat.ne_of_lt (Nat.lt_of_lt_of_le (by have := World.block_lt_of_cell? _ _ hw467_0; first | rwa [add_block] at this | exact this) GW480.out))) _).trans (((cell_far (p := ⟨gb480, _, none⟩) (by first | exact Nat.ne_of_lt (Nat.lt_of_lt_of_le (by have := World.block_lt_of_cell? _ _ hw467_0; first | rwa [add_block] at this | exact this) GW480.out) | (rw [add_block]; exact Nat.ne_of_lt (Nat.lt_of_lt_of_le (by have := World.block_lt_of_cell? _ _ hw467_0; first | rwa [add_block] at this | exact this) GW480.out)) | (show (Addr.add _ _).block ≠ _; rw [add_block]; exact Nat.ne_of_lt (Nat.lt_of_lt_of_le (by have := World.block_lt_of_cell? _ _ hw467_0; first | rwa [add_block] at this | exact this) GW480.out)) | (dsimp only; exact Nat.ne_of_lt (Nat.lt_of_lt_of_le (by have := World.block_lt_of_cell? _ _ hw467_0; first | rwa [add_block] at this | exact this) GW480.out))) _).trans (hHeld.2.2.2.2.2.2.1)))))))), ((cell_far (p := ⟨gb480, _, none⟩) (by first | exact Nat.ne_of_lt (Nat.lt_of_lt_of_le (by have := World.block_lt_of_cell? _ _ hw467_1; first | rwa [add_block] at this | exact this) GW480.out) | (rw [add_block]; exact Nat.ne_of_lt (Nat.lt_of_lt_of_le (by have := World.block_lt_of_cell? _ _ hw467_1; first | rwa [add_block] at this | exact this) GW480.out)) | (show (Addr.add _ _).block ≠ _; rw [add_block]; exact Nat.ne_of_lt (Nat.lt_of_lt_of_le (by have := World.block_lt_of_cell? _ _ hw467_1; first | rwa [add_block] at this | exact this) GW480.out)) | (dsimp only; exact Nat.ne_of_lt (Nat.lt_of_lt_of_le (by have := World.block_lt_of_cell? _ _ hw467_1; first | rwa [add_block] at this | exact this) GW480.out))) _).trans (((cell_far (p := ⟨gb480, _, none⟩) (by first | exact Nat.ne_of_lt (Nat.lt_of_lt_of_le (by have := World.block_lt_of_cell? _ _ hw467_1; first | rwa [add_block] at this | exact this) GW480.out) | (rw [add_block]; exact Nat.ne_of_lt (Nat.lt_of_lt_of_le (by have := World.block_lt_of_cell? _ _ hw467_1; first | rwa [add_block] at this | exact this) GW480.out)) | (show (Addr.add _ _).block ≠ _; rw [add_block]; exact Nat.ne_of_lt (Nat.lt_of_lt_of_le (by have := World.block_lt_of_cell? _ _ hw467_1; first | rwa [add_block] at this | exact this) GW480.out)) | (dsimp only; exact Nat.ne_of_lt (Nat.lt_of_lt_of_le (by have := World.block_lt_of_cell? _ _ hw467_1; first | rwa [add_block] at this | exact this) GW480.out))) _).trans (((cell_far (p := ⟨gb480, _, none⟩) (by first | exact Nat.ne_of_lt (Nat.lt_of_lt_of_le (by have := World.block_lt_of_cell? _ _ hw467_1; first | rwa [add_block] at this | exact this) GW480.out) | (rw [add_block]; exact Nat.ne_of_lt (Nat.lt_of_lt_of_le (by have := World.block_lt_of_cell? _ _ hw467_1; first | rwa [add_block] at this | exact this) GW480.out)) | (show (Addr.add _ _).block ≠ _; rw [add_block]; exact Nat.ne_of_lt (Nat.lt_of_lt_of_le (by have := World.block_lt_of_cell? _ _ hw467_1; first | rwa [add_block] at this | exact this) GW480.out)) | (dsimp only; exact Nat.ne_of_lt (Nat.lt_of_lt_of_le (by have := World.block_lt_of_cell? _ _ hw467_1; first | rwa [add_block] at this | exact this) GW480.out))) _).trans (((cell_far (p := ⟨gb480, _, none⟩) (by first | exact Nat.ne_of_lt (Nat.lt_of_lt_of_le (by have := World.block_lt_of_cell? _ _ hw467_1; first | rwa [add_block] at this | exact this) GW480.out) | (rw [add_block]; exact Nat.ne_of_lt (Nat.lt_of_lt_of_le (by have := World.block_lt_of_cell? _ _ hw467_1; first | rwa [add_block] at this | exact this) GW480.out)) | (show (Addr.add _ _).block ≠ _; rw [add_block]; exact Nat.ne_of_lt (Nat.lt_of_lt_of_le (by have := World.block_lt_of_cell? _ _ hw467_1; first | rwa [add_block] at this | exact this) GW480.out)) | (dsimp only; exact Nat.ne_of_lt (Nat.lt_of_lt_of_le (by have := World.block_lt_of_cell? _ _ hw467_1; first | rwa [add_block] at this | exact this) GW480.out))) _).trans (hHeld.2.2.2.2.2.2.2))))))))⟩ (fun hHeld => ?_)
      clear hK K
      refine pure_ (i := 18) (N := some 9) (v := ?_) (a' := ?_) #[T29,T29,T29,T29,T29,T29,T29,T29,T29,T29,T29,T29,T29,T29,T29,T29,T29,T29,T29] rfl rfl (any_of HT_.out (by kernel_rfl)) (fun _ _ _ h => h) (Or.inl ⟨by rfl, ?_⟩) ?_ ?_
      rotate_left
      ·intro w'
       go_simp
       with_reducible rfl
      rotate_left
      ·simp only [Act.put, List.setIfInBounds_toArray, List.set_cons_zero, List.set_cons_succ, i64_w, i32_w]
       rfl
      refine done_ (done_of HT_.out (by kernel_rfl)) ?_
      have hnb24 := NB480_464.out
      have hnc24 := NB464_480.out
      have hnb25 := NB480_465.out
      have hnc25 := NB465_480.out
      have hcz26_0 : w17.cell? ⟨gb480, 0, none⟩ = some (.slice none 0 0) := (blk_cell BK480.out 0).trans rfl
      have hcz26_1 : w17.cell? ⟨gb480, 1, none⟩ = some (.slice none 0 0) := (blk_cell BK480.out 1).trans rfl
      have hcz26_2 : w17.cell? ⟨gb480, 2, none⟩ = some (.int .i64 0) := (blk_cell BK480.out 2).trans rfl
      have hcz26_3 : w17.cell? ⟨gb480, 3, none⟩ = some (.bool false) := (blk_cell BK480.out 3).trans rfl
      have hfz26_0 := blk_frozen BK480.out 0
      have hfz26_1 := blk_frozen BK480.out 1
      have hfz26_2 := blk_frozen BK480.out 2
      have hfz26_3 := blk_frozen BK480.out 3
      have hnb27 := NB465_464.out
      have hnc27 := NB464_465.out
      have hcz28_0 : w17.cell? ⟨gb465, 0, none⟩ = some (.slice none 0 0) := (blk_cell BK465.out 0).trans rfl
      have hcz28_1 : w17.cell? ⟨gb465, 1, none⟩ = some (.slice none 0 0) := (blk_cell BK465.out 1).trans rfl
      have hcz28_2 : w17.cell? ⟨gb465, 2, none⟩ = some (.int .i64 x466002_1) := (blk_cell BK465.out 2).trans rfl
      have hcz28_3 : w17.cell? ⟨gb465, 3, none⟩ = some (.bool x466003_1) := (blk_cell BK465.out 3).trans rfl
      have hfz28_0 := blk_frozen BK465.out 0
      have hfz28_1 := blk_frozen BK465.out 1
      have hfz28_2 := blk_frozen BK465.out 2
      have hfz28_3 := blk_frozen BK465.out 3
      try go_wp2
      refine bodyPost_ret (results_ctt rfl _ _ gb465 25 #[.slice Ao18 t471.length co18, .slice Ao20 t474.length co20, .int .i64 t477, .bool t478] (0, 0) _ rfl (by (with_reducible repeat (first | refine blk_drewN ?_ _ | refine blk_drew ?_ | refine blk_alloc ?_ _)); refine blk_put (cs := #[.slice Ao18 t471.length co18, .slice Ao20 t474.length co20, .int .i64 t477, .bool x466003_1]) ?_ 3 _ rfl; (with_reducible repeat (first | refine blk_drewN ?_ _ | refine blk_drew ?_ | refine blk_alloc ?_ _)); refine blk_put (cs := #[.slice Ao18 t471.length co18, .slice Ao20 t474.length co20, .int .i64 x466002_1, .bool x466003_1]) ?_ 2 _ rfl; (with_reducible repeat (first | refine blk_drewN ?_ _ | refine blk_drew ?_ | refine blk_alloc ?_ _)); refine blk_put (cs := #[.slice Ao18 t471.length co18, .slice none 0 0, .int .i64 x466002_1, .bool x466003_1]) ?_ 1 _ rfl; (with_reducible repeat (first | refine blk_drewN ?_ _ | refine blk_drew ?_ | refine blk_alloc ?_ _)); refine blk_put (cs := #[.slice none 0 0, .slice none 0 0, .int .i64 x466002_1, .bool x466003_1]) ?_ 0 _ rfl; (with_reducible repeat (first | refine blk_drewN ?_ _ | refine blk_drew ?_ | refine blk_alloc ?_ _)); refine blk_far ?_ NB465_480.out _; (with_reducible repeat (first | refine blk_drewN ?_ _ | refine blk_drew ?_ | refine blk_alloc ?_ _)); refine blk_far ?_ NB465_480.out _; (with_reducible repeat (first | refine blk_drewN ?_ _ | refine blk_drew ?_ | refine blk_alloc ?_ _)); refine blk_far ?_ NB465_480.out _; (with_reducible repeat (first | refine blk_drewN ?_ _ | refine blk_drew ?_ | refine blk_alloc ?_ _)); refine blk_far ?_ NB465_480.out _; (with_reducible repeat (first | refine blk_drewN ?_ _ | refine blk_drew ?_ | refine blk_alloc ?_ _)); exact BK465.out) Try.underlying25 rfl (by kernel_rfl)) rfl ?_
      exact ⟨_, _, by first | rfl | (simp [errW_none, errW_some] <;> rfl) | (simp [*, errW_none, errW_some] <;> rfl), Kd.V_mono (Kd.S_V (by (with_reducible repeat (first | apply Kd.S_alloc | apply Kd.S_drewN | apply Kd.S_drew)); exact (Kd.S_far (p := ⟨gb465, 3, none⟩) (Kd.S_far (p := ⟨gb465, 2, none⟩) (Kd.S_far (p := ⟨gb465, 1, none⟩) (Kd.S_far (p := ⟨gb465, 0, none⟩) (Kd.S_far (p := ⟨gb480, 3, none⟩) (Kd.S_far (p := ⟨gb480, 2, none⟩) (Kd.S_far (p := ⟨gb480, 1, none⟩) (Kd.S_far (p := ⟨gb480, 0, none⟩) (Kd.S_types (Kd.S_types HO473.out BK480.out (by decide)) BK465.out (by decide)) (fun _ hk => hk.1.2) (.slice Ao18 t471.length co18)) (fun _ hk => hk.1.2) (.slice Ao20 t474.length co20)) (fun _ hk => hk.1.2) (.int .i64 t477)) (fun _ hk => hk.1.2) (.bool t478)) (fun _ hk => hk.2) (.slice Ao18 t471.length co18)) (fun _ hk => hk.2) (.slice Ao20 t474.length co20)) (fun _ hk => hk.2) (.int .i64 t477)) (fun _ hk => hk.2) (.bool t478)))) (fun k_ hk_ => by have hk := hk_.1.1.1; first | exact ⟨(.inr (hk.1)), hk.2⟩ | exact (.inr (hk))), Kd.V_mono (Kd.S_V (by (with_reducible repeat (first | apply Kd.S_alloc | apply Kd.S_drewN | apply Kd.S_drew)); exact (Kd.S_far (p := ⟨gb465, 3, none⟩) (Kd.S_far (p := ⟨gb465, 2, none⟩) (Kd.S_far (p := ⟨gb465, 1, none⟩) (Kd.S_far (p := ⟨gb465, 0, none⟩) (Kd.S_far (p := ⟨gb480, 3, none⟩) (Kd.S_far (p := ⟨gb480, 2, none⟩) (Kd.S_far (p := ⟨gb480, 1, none⟩) (Kd.S_far (p := ⟨gb480, 0, none⟩) (Kd.S_types (Kd.S_types HO476.out BK480.out (by decide)) BK465.out (by decide)) (fun _ hk => hk.1.2) (.slice Ao18 t471.length co18)) (fun _ hk => hk.1.2) (.slice Ao20 t474.length co20)) (fun _ hk => hk.1.2) (.int .i64 t477)) (fun _ hk => hk.1.2) (.bool t478)) (fun _ hk => hk.2) (.slice Ao18 t471.length co18)) (fun _ hk => hk.2) (.slice Ao20 t474.length co20)) (fun _ hk => hk.2) (.int .i64 t477)) (fun _ hk => hk.2) (.bool t478)))) (fun k_ hk_ => by have hk := hk_.1.1.1; first | exact ⟨(.inr (hk.1)), hk.2⟩ | exact (.inr (hk))), by repeat (first | (with_reducible first | exact HB.out | apply below_alloc | apply pw_below_drewN | apply below_drew1 | refine below_set ?_ GE464.out | refine below_set ?_ GE465.out | refine below_set ?_ GE480.out) | exact HB.out)⟩
     ·rw [if_neg c9] at H
      have c9b0 : (t479 == 23) = false := beq_eq_false_iff_ne.mpr c9
      have c9b1 : (t479 != 23) = true := bne_iff_ne.mpr c9
      by_cases c29 : t479 = 0
      ·rw [if_pos c29] at H
       have c29b0 : (t479 == 0) = true := beq_iff_eq.mpr c29
       have c29b1 : (t479 != 0) = false := bne_eq_false_iff_eq.mpr c29
       clear c29
       have H' := Aside0.mk H
       clear H
       obtain ⟨Ao30, co30, eo30⟩ := Kd.V_slice HO_465000.out
       subst eo30
       obtain ⟨Ao31, co31, eo31⟩ := Kd.V_slice HO_465001.out
       subst eo31
       try go_wp2
       have n0_ := Aside0.mk (Kd.V_drew HO_465000.out)
       have n1_ := Aside0.mk (Kd.V_drew HO_465001.out)
       have n2_ := Aside0.mk (blk_drew BK464.out)
       have n3_ := Aside0.mk (blk_drew BK465.out)
       have n4_ := Aside0.mk (below_drew1 HB.out)
       clear HO_465000
       clear HO_465001
       clear BK464
       clear BK465
       clear HB
       have HO_465000 := n0_
       have HO_465001 := n1_
       have BK464 := n2_
       have BK465 := n3_
       have HB := n4_
       clear n0_ n1_ n2_ n3_ n4_
       have p466 : 0 ≤ (x7_1 : Int) := of_decide_eq_true (by first | (with_reducible assumption) | assumption)
       have q466 : x7_1 < (l1.length : Int) := of_decide_eq_true (by first | (with_reducible assumption) | assumption)
       obtain ⟨ad466, e466, hx466_0, hx466_1⟩ := at_T55 HR1.out x7_1 p466 q466
       have hw466_1 := hx466_1
       have hw466_0 := hx466_0
       cases e466
       replace hx466_0 := (HB.out.cell (World.block_lt_of_cell? w _ hx466_0)).trans hx466_0
       replace hx466_1 := (HB.out.cell (World.block_lt_of_cell? w _ hx466_1)).trans hx466_1
       replace p466 := eq_true p466
       replace q466 := eq_true q466
       have p467 : 0 ≤ (x7_1 : Int) := of_decide_eq_true (by first | (with_reducible assumption) | assumption)
       have q467 : x7_1 < (l1.length : Int) := of_decide_eq_true (by first | (with_reducible assumption) | assumption)
       obtain ⟨ad467, e467, hx467_0, hx467_1⟩ := at_T55 HR1.out x7_1 p467 q467
       have hw467_1 := hx467_1
       have hw467_0 := hx467_0
       obtain rfl : ad466 = ad467 := (by injection e467)
       replace hx467_0 := (HB.out.cell (World.block_lt_of_cell? w _ hx467_0)).trans hx467_0
       replace hx467_1 := (HB.out.cell (World.block_lt_of_cell? w _ hx467_1)).trans hx467_1
       replace p467 := eq_true p467
       replace q467 := eq_true q467
       refine start_ (n := 19) (S := fun w' => w'.cell? ⟨gb464, 0, none⟩ = some (.slice Ao30 x465000_1.length co30) ∧ w'.cell? ⟨gb464, 1, none⟩ = some (.slice Ao31 x465001_1.length co31) ∧ w'.cell? ⟨gb464, 2, none⟩ = some (.int .i64 x465002_1) ∧ w'.cell? ⟨gb464, 3, none⟩ = some (.bool x465003_1) ∧ w'.cell? (ad466.add ((x7_1).toNat * 2)) = some (.int .i64 ((rd_T55 l1 x7_1).f0)) ∧ w'.cell? ⟨(ad466.add ((x7_1).toNat * 2)).block, (ad466.add ((x7_1).toNat * 2)).off + 1, none⟩ = some (.int .u8 ((rd_T55 l1 x7_1).f1)) ∧ w'.cell? (ad466.add ((x7_1).toNat * 2)) = some (.int .i64 ((rd_T55 l1 x7_1).f0)) ∧ w'.cell? ⟨(ad466.add ((x7_1).toNat * 2)).block, (ad466.add ((x7_1).toNat * 2)).off + 1, none⟩ = some (.int .u8 ((rd_T55 l1 x7_1).f1))) (ds := []) #[F29,F29,F29,F29,F29,F29,F29,F29,F29,F29,F29,F29,F29,F29,F29,F29,F29,F29,F29] (by kernel_rfl) rfl rfl ⟨(blk_cell BK464.out 0).trans rfl, (blk_cell BK464.out 1).trans rfl, (blk_cell BK464.out 2).trans rfl, (blk_cell BK464.out 3).trans rfl, ((HB.out.cell (World.block_lt_of_cell? w _ hw466_0)).trans hw466_0), ((HB.out.cell (World.block_lt_of_cell? w _ hw466_1)).trans hw466_1), ((HB.out.cell (World.block_lt_of_cell? w _ hw467_0)).trans hw467_0), ((HB.out.cell (World.block_lt_of_cell? w _ hw467_1)).trans hw467_1)⟩ (fun hHeld => ?_); refine with_tabW mapsheetslaw24_written.tab4 mapsheetslaw24_written.bits4 (fun HT_ HW_ => ?_)
       generalize wr.drew = w32 at HO_465000 HO_465001 BK464 BK465 HB hx466_0 hx466_1 hx467_0 hx467_1 hHeld ⊢
       refine pure_ (i := 1) (N := some 18) (v := ?_) (a' := ?_) #[F29,T29,F29,F29,F29,F29,F29,F29,F29,F29,F29,F29,F29,F29,F29,F29,F29,F29,F29] rfl rfl (any_of HT_.out (by kernel_rfl)) (fun _ _ _ h => h) (Or.inl ⟨by rfl, ?_⟩) ?_ ?_
       rotate_left
       ·intro w'
        go_simp
        with_reducible rfl
       rotate_left
       ·simp only [Act.put, List.setIfInBounds_toArray, List.set_cons_zero, List.set_cons_succ, i64_w, i32_w]
        rfl
       refine pure_ (i := 2) (N := some 19) (v := ?_) (a' := ?_) #[F29,T29,T29,F29,F29,F29,F29,F29,F29,F29,F29,F29,F29,F29,F29,F29,F29,F29,F29] rfl rfl (any_of HT_.out (by kernel_rfl)) (fun _ _ _ h => h) (Or.inl ⟨by rfl, ?_⟩) ?_ ?_
       rotate_left
       ·intro w'
        go_simp
        with_reducible rfl
       rotate_left
       ·simp only [Act.put, List.setIfInBounds_toArray, List.set_cons_zero, List.set_cons_succ, i64_w, i32_w]
        rfl
       refine pure_ (i := 3) (N := some 20) (v := ?_) (a' := ?_) #[F29,T29,T29,T29,F29,F29,F29,F29,F29,F29,F29,F29,F29,F29,F29,F29,F29,F29,F29] rfl rfl (any_of HT_.out (by kernel_rfl)) (fun _ _ _ h => h) (Or.inl ⟨by rfl, ?_⟩) ?_ ?_
       rotate_left
       ·intro w'
        go_simp
        with_reducible rfl
       rotate_left
       ·simp only [Act.put, List.setIfInBounds_toArray, List.set_cons_zero, List.set_cons_succ, i64_w, i32_w]
        rfl
       refine pure_ (i := 4) (N := some 21) (v := ?_) (a' := ?_) #[F29,T29,T29,T29,T29,F29,F29,F29,F29,F29,F29,F29,F29,F29,F29,F29,F29,F29,F29] rfl rfl (any_of HT_.out (by kernel_rfl)) (fun _ _ _ h => h) (Or.inl ⟨by rfl, ?_⟩) ?_ ?_
       rotate_left
       ·intro w'
        go_simp
        with_reducible rfl
       rotate_left
       ·simp only [Act.put, List.setIfInBounds_toArray, List.set_cons_zero, List.set_cons_succ, i64_w, i32_w]
        rfl
       refine pure_ (i := 6) (N := some 23) (v := ?_) (a' := ?_) #[F29,T29,T29,T29,T29,F29,T29,F29,F29,F29,F29,F29,F29,F29,F29,F29,F29,F29,F29] rfl rfl (any_of HT_.out (by kernel_rfl)) (fun _ _ _ h => h) (Or.inl ⟨by rfl, ?_⟩) ?_ ?_
       rotate_left
       ·intro w'
        go_simp
        with_reducible rfl
       rotate_left
       ·simp only [Act.put, List.setIfInBounds_toArray, List.set_cons_zero, List.set_cons_succ, i64_w, i32_w]
        rfl
       refine pure_ (i := 7) (N := some 24) (v := ?_) (a' := ?_) #[F29,T29,T29,T29,T29,F29,T29,T29,F29,F29,F29,F29,F29,F29,F29,F29,F29,F29,F29] rfl rfl (any_of HT_.out (by kernel_rfl)) (fun _ _ _ h => h) (Or.inl ⟨by rfl, ?_⟩) ?_ ?_
       rotate_left
       ·intro w'
        go_simp
        with_reducible rfl
       rotate_left
       ·simp only [Act.put, List.setIfInBounds_toArray, List.set_cons_zero, List.set_cons_succ, i64_w, i32_w]
        rfl
       refine pure_ (i := 8) (N := some 25) (v := ?_) (a' := ?_) #[F29,T29,T29,T29,T29,F29,T29,T29,T29,F29,F29,F29,F29,F29,F29,F29,F29,F29,F29] rfl rfl (any_of HT_.out (by kernel_rfl)) (fun _ _ _ h => h) (Or.inl ⟨by rfl, ?_⟩) ?_ ?_
       rotate_left
       ·intro w'
        go_simp
        with_reducible rfl
       rotate_left
       ·simp only [Act.put, List.setIfInBounds_toArray, List.set_cons_zero, List.set_cons_succ, i64_w, i32_w]
        rfl
       refine pure_ (i := 9) (N := some 26) (v := ?_) (a' := ?_) #[F29,T29,T29,T29,T29,F29,T29,T29,T29,T29,F29,F29,F29,F29,F29,F29,F29,F29,F29] rfl rfl (any_of HT_.out (by kernel_rfl)) (fun _ _ _ h => h) (Or.inl ⟨by rfl, ?_⟩) ?_ ?_
       rotate_left
       ·intro w'
        go_simp
        with_reducible rfl
       rotate_left
       ·simp only [Act.put, List.setIfInBounds_toArray, List.set_cons_zero, List.set_cons_succ, i64_w, i32_w]
        rfl
       refine take_ (i := 0) (N := some 17) (v := ?_) (a' := ?_) #[T29,T29,T29,T29,T29,F29,T29,T29,T29,T29,F29,F29,F29,F29,F29,F29,F29,F29,F29] rfl rfl (take_ofW HT_.out HW_.out (by kernel_rfl)) (fun _ _ _ h => h) (Or.inl ⟨by rfl, ?_⟩) hHeld ?_ ?_
       rotate_left
       ·rintro w' ⟨s0, s1, s2, s3, s4, s5, s6, s7⟩
        go_simp
        with_reducible rfl
       rotate_left
       ·simp only [Act.put, List.setIfInBounds_toArray, List.set_cons_zero, List.set_cons_succ, i64_w, i32_w]
        rfl
       refine take_ (i := 5) (N := some 22) (v := ?_) (a' := ?_) #[T29,T29,T29,T29,T29,T29,T29,T29,T29,T29,F29,F29,F29,F29,F29,F29,F29,F29,F29] rfl rfl (take_ofW HT_.out HW_.out (by kernel_rfl)) (fun _ _ _ h => h) (Or.inl ⟨by rfl, ?_⟩) hHeld ?_ ?_
       rotate_left
       ·rintro w' ⟨s0, s1, s2, s3, s4, s5, s6, s7⟩
        go_simp
        with_reducible rfl
       rotate_left
       ·simp only [Act.put, List.setIfInBounds_toArray, List.set_cons_zero, List.set_cons_succ, i64_w, i32_w]
        rfl
       refine take_ (i := 10) (N := some 27) (v := ?_) (a' := ?_) #[T29,T29,T29,T29,T29,T29,T29,T29,T29,T29,T29,F29,F29,F29,F29,F29,F29,F29,F29] rfl rfl (take_ofW HT_.out HW_.out (by kernel_rfl)) (fun _ _ _ h => h) (Or.inl ⟨by rfl, ?_⟩) hHeld ?_ ?_
       rotate_left
       ·rintro w' ⟨s0, s1, s2, s3, s4, s5, s6, s7⟩
        go_simp
        with_reducible rfl
       rotate_left
       ·simp only [Act.put, List.setIfInBounds_toArray, List.set_cons_zero, List.set_cons_succ, i64_w, i32_w]
        rfl
       refine join_ (σ := Value × Value × Value × Nat) 2 #[T29,T29,T29,T29,T29,T29,T29,T29,T29,T29,T29,T29,T29,T29,T29,T29,T29,F29,F29] (fun s_ => [(28, s_.1), (29, .tuple #[.agg #[s_.2.1, s_.2.2.1, .int .i64 t477, .bool t478], .int .i64 t479]), (8, .pointer (some ⟨s_.2.2.2, 0, none⟩)), (16, .tuple #[.agg #[s_.2.1, s_.2.2.1, .int .i64 t477, .bool t478], .int .i64 t479]), (30, .agg #[s_.2.1, s_.2.2.1, .int .i64 t477, .bool t478]), (31, .int .i64 t479)]) (fun s_ w' => (w'.cell? ⟨gb464, 0, none⟩ = some (.slice Ao30 x465000_1.length co30) ∧ w'.cell? ⟨gb464, 1, none⟩ = some (.slice Ao31 x465001_1.length co31) ∧ w'.cell? ⟨gb464, 2, none⟩ = some (.int .i64 x465002_1) ∧ w'.cell? ⟨gb464, 3, none⟩ = some (.bool x465003_1) ∧ w'.cell? (ad466.add ((x7_1).toNat * 2)) = some (.int .i64 ((rd_T55 l1 x7_1).f0)) ∧ w'.cell? ⟨(ad466.add ((x7_1).toNat * 2)).block, (ad466.add ((x7_1).toNat * 2)).off + 1, none⟩ = some (.int .u8 ((rd_T55 l1 x7_1).f1)) ∧ w'.cell? (ad466.add ((x7_1).toNat * 2)) = some (.int .i64 ((rd_T55 l1 x7_1).f0)) ∧ w'.cell? ⟨(ad466.add ((x7_1).toNat * 2)).block, (ad466.add ((x7_1).toNat * 2)).off + 1, none⟩ = some (.int .u8 ((rd_T55 l1 x7_1).f1))) ∧ (Kd.R (Kd.int .u8) 5 w' w.heap.size (fun k_ => (w.heap.size ≤ k_)) s_.1 t468) ∧ (Kd.S (Kd.slice 5 (Kd.int .u8)) 26 w' w.heap.size (fun k_ => (w.heap.size ≤ k_) ∧ some k_ ≠ (s_.1 : Value).ownBlock) s_.2.1 t471) ∧ (Kd.S k53 53 w' w.heap.size (fun k_ => (w.heap.size ≤ k_) ∧ some k_ ≠ (s_.1 : Value).ownBlock) s_.2.2.1 t474) ∧ (Kd.V (Kd.slice 5 (Kd.int .u8)) 26 w' w.heap.size (fun k_ => ((P0_0_ k_ ∨ P0_1_ k_) ∨ w.heap.size ≤ k_) ∧ some k_ ≠ (s_.1 : Value).ownBlock ∧ some k_ ≠ (s_.2.1 : Value).ownBlock ∧ some k_ ≠ (s_.2.2.1 : Value).ownBlock ∧ k_ ≠ gb464 ∧ k_ ≠ gb465 ∧ k_ ≠ s_.2.2.2) (.slice Ao30 x465000_1.length co30) x465000_1) ∧ (Kd.V k53 53 w' w.heap.size (fun k_ => ((P0_0_ k_ ∨ P0_1_ k_) ∨ w.heap.size ≤ k_) ∧ some k_ ≠ (s_.1 : Value).ownBlock ∧ some k_ ≠ (s_.2.1 : Value).ownBlock ∧ some k_ ≠ (s_.2.2.1 : Value).ownBlock ∧ k_ ≠ gb464 ∧ k_ ≠ gb465 ∧ k_ ≠ s_.2.2.2) (.slice Ao31 x465001_1.length co31) x465001_1) ∧ (w'.heap[gb464]? = some (.cells #[.slice Ao30 x465000_1.length co30, .slice Ao31 x465001_1.length co31, .int .i64 x465002_1, .bool x465003_1] 25 (0, 0))) ∧ (w'.heap[gb465]? = some (.cells #[.slice none 0 0, .slice none 0 0, .int .i64 x466002_1, .bool x466003_1] 25 (0, 0))) ∧ (w'.heap[s_.2.2.2]? = some (.cells #[.slice none 0 0, .slice none 0 0, .int .i64 0, .bool false] 25 (0, 0))) ∧ (w.heap.size ≤ s_.2.2.2) ∧ (w.heap.size ≤ s_.2.2.2) ∧ (gb464 ≠ s_.2.2.2) ∧ (s_.2.2.2 ≠ gb464) ∧ (gb465 ≠ s_.2.2.2) ∧ (s_.2.2.2 ≠ gb465) ∧ (Below w.heap.size w w')) ?_ ?_
       rotate_left
       ·intro hCont
        refine two_ (i := 11) (j := 16) (Ni := some 28) (Nj := some 8) #[T29,T29,T29,T29,T29,T29,T29,T29,T29,T29,T29,T29,F29,F29,F29,F29,F29,F29,F29] #[T29,T29,T29,T29,T29,T29,T29,T29,T29,T29,T29,F29,F29,F29,F29,F29,T29,F29,F29] rfl rfl rfl rfl (two_of HT_.out (by kernel_rfl)) (by decide) (by decide) (fun K hK => ?_) (fun K hK => ?_)
        ·skip
         refine goes_ Try.func31 (by kernel_rfl) rfl #[.int .u8 ((rd_T55 l1 x7_1).f1)] (by rfl) rfl rfl (by (try simp only [List.map_toArray, List.map_cons, List.map_nil]); first | done | rfl | (simp only [List.length_drop, List.length_take]; rfl)) ?_
         with_reducible refine (mapsheetslaw24_block.calls k1 ((rd_T55 l1 x7_1).f1) t468 _ A7.out).mono ?_
         rintro e w33 ⟨v469, rfl, ho0, hb⟩
         refine ⟨_, rfl, ?_⟩
         have n0_ := Aside0.mk (Kd.V_elder' (by (with_reducible repeat (first | apply Kd.V_alloc | apply Kd.V_drewN | apply Kd.V_drew)); exact HO_465000.out) (Kd.R_base ho0) hb)
         have n1_ := Aside0.mk (Kd.V_elder' (by (with_reducible repeat (first | apply Kd.V_alloc | apply Kd.V_drewN | apply Kd.V_drew)); exact HO_465001.out) (Kd.R_base ho0) hb)
         have n2_ := Aside0.mk (Kd.R_lower (Kd.R_newM (M := fun k_ => (w.heap.size ≤ k_)) ho0 (below_size (by repeat (first | (with_reducible first | exact HB.out | apply below_alloc | apply pw_below_drewN | apply below_drew1 | refine below_set ?_ GE464.out | refine below_set ?_ GE465.out) | exact HB.out))) (fun k_ h_ => h_)) (below_size (by repeat (first | (with_reducible first | exact HB.out | apply below_alloc | apply pw_below_drewN | apply below_drew1 | refine below_set ?_ GE464.out | refine below_set ?_ GE465.out) | exact HB.out))))
         have n3_ := Aside0.mk (blk_below (g := gb464) (o := .cells #[.slice Ao30 x465000_1.length co30, .slice Ao31 x465001_1.length co31, .int .i64 x465002_1, .bool x465003_1] 25 (0, 0)) (by (with_reducible repeat (first | refine blk_drewN ?_ _ | refine blk_drew ?_ | refine blk_alloc ?_ _)); exact BK464.out) hb)
         have n4_ := Aside0.mk (blk_below (g := gb465) (o := .cells #[.slice none 0 0, .slice none 0 0, .int .i64 x466002_1, .bool x466003_1] 25 (0, 0)) (by (with_reducible repeat (first | refine blk_drewN ?_ _ | refine blk_drew ?_ | refine blk_alloc ?_ _)); exact BK465.out) hb)
         have n5_ := Aside0.mk (below_step (by repeat (first | (with_reducible first | exact HB.out | apply below_alloc | apply pw_below_drewN | apply below_drew1 | refine below_set ?_ GE464.out | refine below_set ?_ GE465.out) | exact HB.out)) hb)
         clear HO_465000
         clear HO_465001
         clear BK464
         clear BK465
         clear HB
         have HO_465000 := n0_
         have HO_465001 := n1_
         have HO470 := n2_
         have BK464 := n3_
         have BK465 := n4_
         have HB := n5_
         clear n0_ n1_ n2_ n3_ n4_ n5_
         (try clear hb)
         (try clear hb2)
         (try clear hk)
         (try clear hi)
         (try clear ho0)
         obtain ⟨Ao34, co34, eo34⟩ := Kd.R_slice HO470.out
         (first | subst eo34 | (injection eo34 with f1_ f2_ f3_; have f4_ := f1_.symm; have f5_ := f3_.symm; clear f1_ f2_ f3_; subst f4_; subst f5_))
         refine hK.out _ _ ⟨(blk_cell BK464.out 0).trans rfl, (blk_cell BK464.out 1).trans rfl, (blk_cell BK464.out 2).trans rfl, (blk_cell BK464.out 3).trans rfl, ((HB.out.cell (World.block_lt_of_cell? w _ hw466_0)).trans hw466_0), ((HB.out.cell (World.block_lt_of_cell? w _ hw466_1)).trans hw466_1), ((HB.out.cell (World.block_lt_of_cell? w _ hw467_0)).trans hw467_0), ((HB.out.cell (World.block_lt_of_cell? w _ hw467_1)).trans hw467_1)⟩ (fun hHeld => ?_)
         clear hK K
         refine norm_ (a' := ?_) ?_ ?_
         rotate_left
         ·show Act.put _ (some 28) _ = _
          simp only [Act.put, List.setIfInBounds_toArray, List.set_cons_zero, List.set_cons_succ, i64_w, i32_w]
          rfl
         refine two_ (i := 12) (j := 16) (Ni := some 29) (Nj := some 8) #[T29,T29,T29,T29,T29,T29,T29,T29,T29,T29,T29,T29,T29,F29,F29,F29,F29,F29,F29] #[T29,T29,T29,T29,T29,T29,T29,T29,T29,T29,T29,T29,F29,F29,F29,F29,T29,F29,F29] rfl rfl rfl rfl (two_of HT_.out (by kernel_rfl)) (by decide) (by decide) (fun K hK => ?_) (fun K hK => ?_)
         ·skip
          refine goes_ Try.func13 (by kernel_rfl) rfl #[.agg #[.slice Ao30 x465000_1.length co30, .slice Ao31 x465001_1.length co31, .int .i64 x465002_1, .bool x465003_1], .int .i64 ((rd_T55 l1 x7_1).f0), .slice Ao34 t468.length co34] (by rfl) rfl rfl (by (try simp only [List.map_toArray, List.map_cons, List.map_nil]); first | done | rfl | (simp only [List.length_drop, List.length_take]; rfl)) ?_
          with_reducible refine (device_Write.calls k1 _ _ x465000_1 _ _ x465001_1 x465002_1 x465003_1 ((rd_T55 l1 x7_1).f0) _ _ t468 t471 t474 t477 t478 t479 _ ?side1 ?side2 ?side3 ?side4 ?side5 ?side6 A8.out).mono ?_
          (case side1 => repeat (first | exact (Kd.V_reads' HO_465000.out).2.2 | (with_reducible refine Kd.C_alloc ?_ _) | (with_reducible refine Kd.C_drewN ?_ _) | (with_reducible refine Kd.C_drew ?_)))
          (case side2 => exact (Kd.V_reads' HO_465000.out).2.1)
          (case side3 => repeat (first | exact (Kd.V_reads' HO_465001.out).2.2 | (with_reducible refine Kd.C_alloc ?_ _) | (with_reducible refine Kd.C_drewN ?_ _) | (with_reducible refine Kd.C_drew ?_)))
          (case side4 => exact (Kd.V_reads' HO_465001.out).2.1)
          (case side5 => repeat (first | exact (Kd.R_reads' HO470.out).2.2 | (with_reducible refine Kd.C_alloc ?_ _) | (with_reducible refine Kd.C_drewN ?_ _) | (with_reducible refine Kd.C_drew ?_)))
          (case side6 => exact (Kd.R_reads' HO470.out).2.1)
          rintro e w35 ⟨v472, v475, rfl, ho0, ho1, hb⟩
          refine ⟨_, rfl, ?_⟩
          have n0_ := Aside0.mk (Kd.V_mono (Kd.V_told (Kd.V_told (Kd.V_old (by (with_reducible repeat (first | apply Kd.V_alloc | apply Kd.V_drewN | apply Kd.V_drew)); exact HO_465000.out) hb) (Kd.S_base ho0)) (Kd.S_base ho1)) (fun _ h_ => h_.1))
          have n1_ := Aside0.mk (Kd.V_mono (Kd.V_told (Kd.V_told (Kd.V_old (by (with_reducible repeat (first | apply Kd.V_alloc | apply Kd.V_drewN | apply Kd.V_drew)); exact HO_465001.out) hb) (Kd.S_base ho0)) (Kd.S_base ho1)) (fun _ h_ => h_.1))
          have n2_ := Aside0.mk (Kd.R_below (by (with_reducible repeat (first | apply Kd.R_alloc | apply Kd.R_drewN | apply Kd.R_drew)); exact HO470.out) hb)
          have n3_ := Aside0.mk (Kd.S_lower (Kd.S_new' (Kd.S_newM (M := fun k_ => (w.heap.size ≤ k_)) ho0 (below_size (by repeat (first | (with_reducible first | exact HB.out | apply below_alloc | apply pw_below_drewN | apply below_drew1 | refine below_set ?_ GE464.out | refine below_set ?_ GE465.out) | exact HB.out))) (fun k_ h_ => h_)) (Kd.R_lt (by (with_reducible repeat (first | apply Kd.R_alloc | apply Kd.R_drewN | apply Kd.R_drew)); exact HO470.out))) (below_size (by repeat (first | (with_reducible first | exact HB.out | apply below_alloc | apply pw_below_drewN | apply below_drew1 | refine below_set ?_ GE464.out | refine below_set ?_ GE465.out) | exact HB.out))))
          have n4_ := Aside0.mk (Kd.S_lower (Kd.S_new' (Kd.S_newM (M := fun k_ => (w.heap.size ≤ k_)) ho1 (below_size (by repeat (first | (with_reducible first | exact HB.out | apply below_alloc | apply pw_below_drewN | apply below_drew1 | refine below_set ?_ GE464.out | refine below_set ?_ GE465.out) | exact HB.out))) (fun k_ h_ => h_)) (Kd.R_lt (by (with_reducible repeat (first | apply Kd.R_alloc | apply Kd.R_drewN | apply Kd.R_drew)); exact HO470.out))) (below_size (by repeat (first | (with_reducible first | exact HB.out | apply below_alloc | apply pw_below_drewN | apply below_drew1 | refine below_set ?_ GE464.out | refine below_set ?_ GE465.out) | exact HB.out))))
          have n5_ := Aside0.mk (blk_below (g := gb464) (o := .cells #[.slice Ao30 x465000_1.length co30, .slice Ao31 x465001_1.length co31, .int .i64 x465002_1, .bool x465003_1] 25 (0, 0)) (by (with_reducible repeat (first | refine blk_drewN ?_ _ | refine blk_drew ?_ | refine blk_alloc ?_ _)); exact BK464.out) hb)
          have n6_ := Aside0.mk (blk_below (g := gb465) (o := .cells #[.slice none 0 0, .slice none 0 0, .int .i64 x466002_1, .bool x466003_1] 25 (0, 0)) (by (with_reducible repeat (first | refine blk_drewN ?_ _ | refine blk_drew ?_ | refine blk_alloc ?_ _)); exact BK465.out) hb)
          have n7_ := Aside0.mk (below_step (by repeat (first | (with_reducible first | exact HB.out | apply below_alloc | apply pw_below_drewN | apply below_drew1 | refine below_set ?_ GE464.out | refine below_set ?_ GE465.out) | exact HB.out)) hb)
          clear HO_465000
          clear HO_465001
          clear HO470
          clear BK464
          clear BK465
          clear HB
          have HO_465000 := n0_
          have HO_465001 := n1_
          have HO470 := n2_
          have HO473 := n3_
          have HO476 := n4_
          have BK464 := n5_
          have BK465 := n6_
          have HB := n7_
          clear n0_ n1_ n2_ n3_ n4_ n5_ n6_ n7_
          (try clear hb)
          (try clear hb2)
          (try clear hk)
          (try clear hi)
          (try clear ho0)
          (try clear ho1)
          refine hK.out _ _ ⟨(blk_cell BK464.out 0).trans rfl, (blk_cell BK464.out 1).trans rfl, (blk_cell BK464.out 2).trans rfl, (blk_cell BK464.out 3).trans rfl, ((HB.out.cell (World.block_lt_of_cell? w _ hw466_0)).trans hw466_0), ((HB.out.cell (World.block_lt_of_cell? w _ hw466_1)).trans hw466_1), ((HB.out.cell (World.block_lt_of_cell? w _ hw467_0)).trans hw467_0), ((HB.out.cell (World.block_lt_of_cell? w _ hw467_1)).trans hw467_1)⟩ (fun hHeld => ?_)
          clear hK K
          refine norm_ (a' := ?_) ?_ ?_
          rotate_left
          ·show Act.put _ (some 29) _ = _
           simp only [Act.put, List.setIfInBounds_toArray, List.set_cons_zero, List.set_cons_succ, i64_w, i32_w]
           rfl
          refine pure_ (i := 13) (N := some 16) (v := ?_) (a' := ?_) #[T29,T29,T29,T29,T29,T29,T29,T29,T29,T29,T29,T29,T29,T29,F29,F29,F29,F29,F29] rfl rfl (any_of HT_.out (by kernel_rfl)) (fun _ _ _ h => h) (Or.inl ⟨by rfl, ?_⟩) ?_ ?_
          rotate_left
          ·intro w'
           go_simp
           with_reducible rfl
          rotate_left
          ·simp only [Act.put, List.setIfInBounds_toArray, List.set_cons_zero, List.set_cons_succ, i64_w, i32_w]
           rfl
          refine pure_ (i := 14) (N := some 30) (v := ?_) (a' := ?_) #[T29,T29,T29,T29,T29,T29,T29,T29,T29,T29,T29,T29,T29,T29,T29,F29,F29,F29,F29] rfl rfl (any_of HT_.out (by kernel_rfl)) (fun _ _ _ h => h) (Or.inl ⟨by rfl, ?_⟩) ?_ ?_
          rotate_left
          ·intro w'
           go_simp
           with_reducible rfl
          rotate_left
          ·simp only [Act.put, List.setIfInBounds_toArray, List.set_cons_zero, List.set_cons_succ, i64_w, i32_w]
           rfl
          refine pure_ (i := 15) (N := some 31) (v := ?_) (a' := ?_) #[T29,T29,T29,T29,T29,T29,T29,T29,T29,T29,T29,T29,T29,T29,T29,T29,F29,F29,F29] rfl rfl (any_of HT_.out (by kernel_rfl)) (fun _ _ _ h => h) (Or.inl ⟨by rfl, ?_⟩) ?_ ?_
          rotate_left
          ·intro w'
           go_simp
           with_reducible rfl
          rotate_left
          ·simp only [Act.put, List.setIfInBounds_toArray, List.set_cons_zero, List.set_cons_succ, i64_w, i32_w]
           rfl
          refine one_ (i := 16) (N := some 8) #[T29,T29,T29,T29,T29,T29,T29,T29,T29,T29,T29,T29,T29,T29,T29,T29,T29,F29,F29] rfl rfl (one_of HT_.out (by kernel_rfl)) (by decide) (fun K hK => ?_)
          refine box_step ?hg (N := 8) ?hd (cs := #[.slice none 0 0, .slice none 0 0, .int .i64 0, .bool false]) (t := 25) ?hr ?_; (case hd => rfl); (case hg => rfl); (case hr => first | (go_simp; done) | (go_simp; rfl))
          intro gb480 hg w36 hbox hb
          have n0_ := Aside0.mk (Kd.V_below (Kd.V_elderB (by (with_reducible repeat (first | apply Kd.V_alloc | apply Kd.V_drewN | apply Kd.V_drew)); exact HO_465000.out) gb480 (Nat.le_of_eq hg.symm)) hb)
          have n1_ := Aside0.mk (Kd.V_below (Kd.V_elderB (by (with_reducible repeat (first | apply Kd.V_alloc | apply Kd.V_drewN | apply Kd.V_drew)); exact HO_465001.out) gb480 (Nat.le_of_eq hg.symm)) hb)
          have n2_ := Aside0.mk (Kd.R_below (by (with_reducible repeat (first | apply Kd.R_alloc | apply Kd.R_drewN | apply Kd.R_drew)); exact HO470.out) hb)
          have n3_ := Aside0.mk (Kd.S_below (by (with_reducible repeat (first | apply Kd.S_alloc | apply Kd.S_drewN | apply Kd.S_drew)); exact HO473.out) hb)
          have n4_ := Aside0.mk (Kd.S_below (by (with_reducible repeat (first | apply Kd.S_alloc | apply Kd.S_drewN | apply Kd.S_drew)); exact HO476.out) hb)
          have n5_ := Aside0.mk (blk_below (g := gb464) (o := .cells #[.slice Ao30 x465000_1.length co30, .slice Ao31 x465001_1.length co31, .int .i64 x465002_1, .bool x465003_1] 25 (0, 0)) (by (with_reducible repeat (first | refine blk_drewN ?_ _ | refine blk_drew ?_ | refine blk_alloc ?_ _)); exact BK464.out) hb)
          have n6_ := Aside0.mk (blk_below (g := gb465) (o := .cells #[.slice none 0 0, .slice none 0 0, .int .i64 x466002_1, .bool x466003_1] 25 (0, 0)) (by (with_reducible repeat (first | refine blk_drewN ?_ _ | refine blk_drew ?_ | refine blk_alloc ?_ _)); exact BK465.out) hb)
          have n7_ := Aside0.mk (below_step (by repeat (first | (with_reducible first | exact HB.out | apply below_alloc | apply pw_below_drewN | apply below_drew1 | refine below_set ?_ GE464.out | refine below_set ?_ GE465.out) | exact HB.out)) hb)
          have n8_ := Aside0.mk (hbox)
          have n9_ := Aside0.mk ((by rw [hg]; exact (below_size (by repeat (first | (with_reducible first | exact HB.out | apply below_alloc | apply pw_below_drewN | apply below_drew1 | refine below_set ?_ GE464.out | refine below_set ?_ GE465.out) | exact HB.out))) : w.heap.size ≤ gb480))
          have n10_ := Aside0.mk ((by rw [hg]; exact (below_size (by repeat (first | (with_reducible first | exact HB.out | apply below_alloc | apply pw_below_drewN | apply below_drew1 | refine below_set ?_ GE464.out | refine below_set ?_ GE465.out) | exact HB.out))) : w.heap.size ≤ gb480))
          have n11_ := Aside0.mk ((by rw [hg]; exact Nat.ne_of_lt (blk_lt (g := gb464) (o := .cells #[.slice Ao30 x465000_1.length co30, .slice Ao31 x465001_1.length co31, .int .i64 x465002_1, .bool x465003_1] 25 (0, 0)) (by (with_reducible repeat (first | refine blk_drewN ?_ _ | refine blk_drew ?_ | refine blk_alloc ?_ _)); exact BK464.out)) : gb464 ≠ gb480))
          have n12_ := Aside0.mk ((by rw [hg]; exact Nat.ne_of_gt (blk_lt (g := gb464) (o := .cells #[.slice Ao30 x465000_1.length co30, .slice Ao31 x465001_1.length co31, .int .i64 x465002_1, .bool x465003_1] 25 (0, 0)) (by (with_reducible repeat (first | refine blk_drewN ?_ _ | refine blk_drew ?_ | refine blk_alloc ?_ _)); exact BK464.out)) : gb480 ≠ gb464))
          have n13_ := Aside0.mk ((by rw [hg]; exact Nat.ne_of_lt (blk_lt (g := gb465) (o := .cells #[.slice none 0 0, .slice none 0 0, .int .i64 x466002_1, .bool x466003_1] 25 (0, 0)) (by (with_reducible repeat (first | refine blk_drewN ?_ _ | refine blk_drew ?_ | refine blk_alloc ?_ _)); exact BK465.out)) : gb465 ≠ gb480))
          have n14_ := Aside0.mk ((by rw [hg]; exact Nat.ne_of_gt (blk_lt (g := gb465) (o := .cells #[.slice none 0 0, .slice none 0 0, .int .i64 x466002_1, .bool x466003_1] 25 (0, 0)) (by (with_reducible repeat (first | refine blk_drewN ?_ _ | refine blk_drew ?_ | refine blk_alloc ?_ _)); exact BK465.out)) : gb480 ≠ gb465))
          clear HO_465000
          clear HO_465001
          clear HO470
          clear HO473
          clear HO476
          clear BK464
          clear BK465
          clear HB
          have HO_465000 := n0_
          have HO_465001 := n1_
          have HO470 := n2_
          have HO473 := n3_
          have HO476 := n4_
          have BK464 := n5_
          have BK465 := n6_
          have HB := n7_
          have BK480 := n8_
          have GW480 := n9_
          have GE480 := n10_
          have NB464_480 := n11_
          have NB480_464 := n12_
          have NB465_480 := n13_
          have NB480_465 := n14_
          clear n0_ n1_ n2_ n3_ n4_ n5_ n6_ n7_ n8_ n9_ n10_ n11_ n12_ n13_ n14_
          clear hb hbox hg
          refine hK.out _ _ ⟨(blk_cell BK464.out 0).trans rfl, (blk_cell BK464.out 1).trans rfl, (blk_cell BK464.out 2).trans rfl, (blk_cell BK464.out 3).trans rfl, ((HB.out.cell (World.block_lt_of_cell? w _ hw466_0)).trans hw466_0), ((HB.out.cell (World.block_lt_of_cell? w _ hw466_1)).trans hw466_1), ((HB.out.cell (World.block_lt_of_cell? w _ hw467_0)).trans hw467_0), ((HB.out.cell (World.block_lt_of_cell? w _ hw467_1)).trans hw467_1)⟩ (fun hHeld => ?_)
          clear hK K
          refine norm_ (a' := ?_) ?_ ?_
          rotate_left
          ·show Act.put _ (some 8) _ = _
           simp only [Act.put, List.setIfInBounds_toArray, List.set_cons_zero, List.set_cons_succ, i64_w, i32_w]
           rfl
          exact norm_ (by simp only [putAll, Act.put, List.setIfInBounds_toArray, List.set_cons_zero, List.set_cons_succ]) (hCont (.slice Ao34 t468.length co34, v472, v475, gb480) _ ⟨hHeld, (by (with_reducible repeat (first | apply Kd.R_alloc | apply Kd.R_drewN | apply Kd.R_drew)); exact Kd.R_mono HO470.out (fun _ hk => hk.1)), (by (with_reducible repeat (first | apply Kd.S_alloc | apply Kd.S_drewN | apply Kd.S_drew)); exact Kd.S_mono HO473.out (fun _ hk => ⟨hk.1.1, hk.2⟩)), (by (with_reducible repeat (first | apply Kd.S_alloc | apply Kd.S_drewN | apply Kd.S_drew)); exact Kd.S_mono HO476.out (fun _ hk => ⟨hk.1.1, hk.2⟩)), (by (with_reducible repeat (first | apply Kd.V_alloc | apply Kd.V_drewN | apply Kd.V_drew)); exact Kd.V_mono HO_465000.out (fun _ hk => ⟨hk.1.1.1.1.1, ⟨hk.1.1.1.2, ⟨hk.1.1.2, ⟨hk.1.2, ⟨hk.1.1.1.1.2.1, ⟨hk.1.1.1.1.2.2, hk.2⟩⟩⟩⟩⟩⟩)), (by (with_reducible repeat (first | apply Kd.V_alloc | apply Kd.V_drewN | apply Kd.V_drew)); exact Kd.V_mono HO_465001.out (fun _ hk => ⟨hk.1.1.1.1.1, ⟨hk.1.1.1.2, ⟨hk.1.1.2, ⟨hk.1.2, ⟨hk.1.1.1.1.2.1, ⟨hk.1.1.1.1.2.2, hk.2⟩⟩⟩⟩⟩⟩)), (by (with_reducible repeat (first | refine blk_drewN ?_ _ | refine blk_drew ?_ | refine blk_alloc ?_ _)); exact BK464.out), (by (with_reducible repeat (first | refine blk_drewN ?_ _ | refine blk_drew ?_ | refine blk_alloc ?_ _)); exact BK465.out), (by (with_reducible repeat (first | refine blk_drewN ?_ _ | refine blk_drew ?_ | refine blk_alloc ?_ _)); exact BK480.out), GW480.out, GE480.out, NB464_480.out, NB480_464.out, NB465_480.out, NB480_465.out, (by repeat (first | (with_reducible first | exact HB.out | apply below_alloc | apply pw_below_drewN | apply below_drew1 | refine below_set ?_ GE464.out | refine below_set ?_ GE465.out | refine below_set ?_ GE480.out) | exact HB.out))⟩)
         ·skip
          refine box_step ?hg (N := 8) ?hd (cs := #[.slice none 0 0, .slice none 0 0, .int .i64 0, .bool false]) (t := 25) ?hr ?_; (case hd => rfl); (case hg => rfl); (case hr => first | (go_simp; done) | (go_simp; rfl))
          intro gb480 hg w34 hbox hb
          have n0_ := Aside0.mk (Kd.V_below (Kd.V_elderB (by (with_reducible repeat (first | apply Kd.V_alloc | apply Kd.V_drewN | apply Kd.V_drew)); exact HO_465000.out) gb480 (Nat.le_of_eq hg.symm)) hb)
          have n1_ := Aside0.mk (Kd.V_below (Kd.V_elderB (by (with_reducible repeat (first | apply Kd.V_alloc | apply Kd.V_drewN | apply Kd.V_drew)); exact HO_465001.out) gb480 (Nat.le_of_eq hg.symm)) hb)
          have n2_ := Aside0.mk (Kd.R_below (by (with_reducible repeat (first | apply Kd.R_alloc | apply Kd.R_drewN | apply Kd.R_drew)); exact HO470.out) hb)
          have n3_ := Aside0.mk (blk_below (g := gb464) (o := .cells #[.slice Ao30 x465000_1.length co30, .slice Ao31 x465001_1.length co31, .int .i64 x465002_1, .bool x465003_1] 25 (0, 0)) (by (with_reducible repeat (first | refine blk_drewN ?_ _ | refine blk_drew ?_ | refine blk_alloc ?_ _)); exact BK464.out) hb)
          have n4_ := Aside0.mk (blk_below (g := gb465) (o := .cells #[.slice none 0 0, .slice none 0 0, .int .i64 x466002_1, .bool x466003_1] 25 (0, 0)) (by (with_reducible repeat (first | refine blk_drewN ?_ _ | refine blk_drew ?_ | refine blk_alloc ?_ _)); exact BK465.out) hb)
          have n5_ := Aside0.mk (below_step (by repeat (first | (with_reducible first | exact HB.out | apply below_alloc | apply pw_below_drewN | apply below_drew1 | refine below_set ?_ GE464.out | refine below_set ?_ GE465.out) | exact HB.out)) hb)
          have n6_ := Aside0.mk (hbox)
          have n7_ := Aside0.mk ((by rw [hg]; exact (below_size (by repeat (first | (with_reducible first | exact HB.out | apply below_alloc | apply pw_below_drewN | apply below_drew1 | refine below_set ?_ GE464.out | refine below_set ?_ GE465.out) | exact HB.out))) : w.heap.size ≤ gb480))
          have n8_ := Aside0.mk ((by rw [hg]; exact (below_size (by repeat (first | (with_reducible first | exact HB.out | apply below_alloc | apply pw_below_drewN | apply below_drew1 | refine below_set ?_ GE464.out | refine below_set ?_ GE465.out) | exact HB.out))) : w.heap.size ≤ gb480))
          have n9_ := Aside0.mk ((by rw [hg]; exact Nat.ne_of_lt (blk_lt (g := gb464) (o := .cells #[.slice Ao30 x465000_1.length co30, .slice Ao31 x465001_1.length co31, .int .i64 x465002_1, .bool x465003_1] 25 (0, 0)) (by (with_reducible repeat (first | refine blk_drewN ?_ _ | refine blk_drew ?_ | refine blk_alloc ?_ _)); exact BK464.out)) : gb464 ≠ gb480))
          have n10_ := Aside0.mk ((by rw [hg]; exact Nat.ne_of_gt (blk_lt (g := gb464) (o := .cells #[.slice Ao30 x465000_1.length co30, .slice Ao31 x465001_1.length co31, .int .i64 x465002_1, .bool x465003_1] 25 (0, 0)) (by (with_reducible repeat (first | refine blk_drewN ?_ _ | refine blk_drew ?_ | refine blk_alloc ?_ _)); exact BK464.out)) : gb480 ≠ gb464))
          have n11_ := Aside0.mk ((by rw [hg]; exact Nat.ne_of_lt (blk_lt (g := gb465) (o := .cells #[.slice none 0 0, .slice none 0 0, .int .i64 x466002_1, .bool x466003_1] 25 (0, 0)) (by (with_reducible repeat (first | refine blk_drewN ?_ _ | refine blk_drew ?_ | refine blk_alloc ?_ _)); exact BK465.out)) : gb465 ≠ gb480))
          have n12_ := Aside0.mk ((by rw [hg]; exact Nat.ne_of_gt (blk_lt (g := gb465) (o := .cells #[.slice none 0 0, .slice none 0 0, .int .i64 x466002_1, .bool x466003_1] 25 (0, 0)) (by (with_reducible repeat (first | refine blk_drewN ?_ _ | refine blk_drew ?_ | refine blk_alloc ?_ _)); exact BK465.out)) : gb480 ≠ gb465))
          clear HO_465000
          clear HO_465001
          clear HO470
          clear BK464
          clear BK465
          clear HB
          have HO_465000 := n0_
          have HO_465001 := n1_
          have HO470 := n2_
          have BK464 := n3_
          have BK465 := n4_
          have HB := n5_
          have BK480 := n6_
          have GW480 := n7_
          have GE480 := n8_
          have NB464_480 := n9_
          have NB480_464 := n10_
          have NB465_480 := n11_
          have NB480_465 := n12_
          clear n0_ n1_ n2_ n3_ n4_ n5_ n6_ n7_ n8_ n9_ n10_ n11_ n12_
          clear hb hbox hg
          obtain ⟨Ao35, co35, eo35⟩ := Kd.R_slice HO470.out
          (first | subst eo35 | (injection eo35 with f1_ f2_ f3_; have f4_ := f1_.symm; have f5_ := f3_.symm; clear f1_ f2_ f3_; subst f4_; subst f5_))
          refine hK.out _ _ ⟨(blk_cell BK464.out 0).trans rfl, (blk_cell BK464.out 1).trans rfl, (blk_cell BK464.out 2).trans rfl, (blk_cell BK464.out 3).trans rfl, ((HB.out.cell (World.block_lt_of_cell? w _ hw466_0)).trans hw466_0), ((HB.out.cell (World.block_lt_of_cell? w _ hw466_1)).trans hw466_1), ((HB.out.cell (World.block_lt_of_cell? w _ hw467_0)).trans hw467_0), ((HB.out.cell (World.block_lt_of_cell? w _ hw467_1)).trans hw467_1)⟩ (fun hHeld => ?_)
          clear hK K
          refine norm_ (a' := ?_) ?_ ?_
          rotate_left
          ·show Act.put _ (some 8) _ = _
           simp only [Act.put, List.setIfInBounds_toArray, List.set_cons_zero, List.set_cons_succ, i64_w, i32_w]
           rfl
          refine one_ (i := 12) (N := some 29) #[T29,T29,T29,T29,T29,T29,T29,T29,T29,T29,T29,T29,T29,F29,F29,F29,T29,F29,F29] rfl rfl (one_of HT_.out (by kernel_rfl)) (by decide) (fun K hK => ?_)
          refine goes_ Try.func13 (by kernel_rfl) rfl #[.agg #[.slice Ao30 x465000_1.length co30, .slice Ao31 x465001_1.length co31, .int .i64 x465002_1, .bool x465003_1], .int .i64 ((rd_T55 l1 x7_1).f0), .slice Ao35 t468.length co35] (by rfl) rfl rfl (by (try simp only [List.map_toArray, List.map_cons, List.map_nil]); first | done | rfl | (simp only [List.length_drop, List.length_take]; rfl)) ?_
          with_reducible refine (device_Write.calls k1 _ _ x465000_1 _ _ x465001_1 x465002_1 x465003_1 ((rd_T55 l1 x7_1).f0) _ _ t468 t471 t474 t477 t478 t479 _ ?side1 ?side2 ?side3 ?side4 ?side5 ?side6 A8.out).mono ?_
          (case side1 => repeat (first | exact (Kd.V_reads' HO_465000.out).2.2 | (with_reducible refine Kd.C_alloc ?_ _) | (with_reducible refine Kd.C_drewN ?_ _) | (with_reducible refine Kd.C_drew ?_)))
          (case side2 => exact (Kd.V_reads' HO_465000.out).2.1)
          (case side3 => repeat (first | exact (Kd.V_reads' HO_465001.out).2.2 | (with_reducible refine Kd.C_alloc ?_ _) | (with_reducible refine Kd.C_drewN ?_ _) | (with_reducible refine Kd.C_drew ?_)))
          (case side4 => exact (Kd.V_reads' HO_465001.out).2.1)
          (case side5 => repeat (first | exact (Kd.R_reads' HO470.out).2.2 | (with_reducible refine Kd.C_alloc ?_ _) | (with_reducible refine Kd.C_drewN ?_ _) | (with_reducible refine Kd.C_drew ?_)))
          (case side6 => exact (Kd.R_reads' HO470.out).2.1)
          rintro e w36 ⟨v472, v475, rfl, ho0, ho1, hb⟩
          refine ⟨_, rfl, ?_⟩
          have n0_ := Aside0.mk (Kd.V_mono (Kd.V_told (Kd.V_told (Kd.V_old (by (with_reducible repeat (first | apply Kd.V_alloc | apply Kd.V_drewN | apply Kd.V_drew)); exact HO_465000.out) hb) (Kd.S_base ho0)) (Kd.S_base ho1)) (fun _ h_ => h_.1))
          have n1_ := Aside0.mk (Kd.V_mono (Kd.V_told (Kd.V_told (Kd.V_old (by (with_reducible repeat (first | apply Kd.V_alloc | apply Kd.V_drewN | apply Kd.V_drew)); exact HO_465001.out) hb) (Kd.S_base ho0)) (Kd.S_base ho1)) (fun _ h_ => h_.1))
          have n2_ := Aside0.mk (Kd.R_below (by (with_reducible repeat (first | apply Kd.R_alloc | apply Kd.R_drewN | apply Kd.R_drew)); exact HO470.out) hb)
          have n3_ := Aside0.mk (Kd.S_lower (Kd.S_new' (Kd.S_newM (M := fun k_ => (w.heap.size ≤ k_)) ho0 (below_size (by repeat (first | (with_reducible first | exact HB.out | apply below_alloc | apply pw_below_drewN | apply below_drew1 | refine below_set ?_ GE464.out | refine below_set ?_ GE465.out | refine below_set ?_ GE480.out) | exact HB.out))) (fun k_ h_ => h_)) (Kd.R_lt (by (with_reducible repeat (first | apply Kd.R_alloc | apply Kd.R_drewN | apply Kd.R_drew)); exact HO470.out))) (below_size (by repeat (first | (with_reducible first | exact HB.out | apply below_alloc | apply pw_below_drewN | apply below_drew1 | refine below_set ?_ GE464.out | refine below_set ?_ GE465.out | refine below_set ?_ GE480.out) | exact HB.out))))
          have n4_ := Aside0.mk (Kd.S_lower (Kd.S_new' (Kd.S_newM (M := fun k_ => (w.heap.size ≤ k_)) ho1 (below_size (by repeat (first | (with_reducible first | exact HB.out | apply below_alloc | apply pw_below_drewN | apply below_drew1 | refine below_set ?_ GE464.out | refine below_set ?_ GE465.out | refine below_set ?_ GE480.out) | exact HB.out))) (fun k_ h_ => h_)) (Kd.R_lt (by (with_reducible repeat (first | apply Kd.R_alloc | apply Kd.R_drewN | apply Kd.R_drew)); exact HO470.out))) (below_size (by repeat (first | (with_reducible first | exact HB.out | apply below_alloc | apply pw_below_drewN | apply below_drew1 | refine below_set ?_ GE464.out | refine below_set ?_ GE465.out | refine below_set ?_ GE480.out) | exact HB.out))))
          have n5_ := Aside0.mk (blk_below (g := gb464) (o := .cells #[.slice Ao30 x465000_1.length co30, .slice Ao31 x465001_1.length co31, .int .i64 x465002_1, .bool x465003_1] 25 (0, 0)) (by (with_reducible repeat (first | refine blk_drewN ?_ _ | refine blk_drew ?_ | refine blk_alloc ?_ _)); exact BK464.out) hb)
          have n6_ := Aside0.mk (blk_below (g := gb465) (o := .cells #[.slice none 0 0, .slice none 0 0, .int .i64 x466002_1, .bool x466003_1] 25 (0, 0)) (by (with_reducible repeat (first | refine blk_drewN ?_ _ | refine blk_drew ?_ | refine blk_alloc ?_ _)); exact BK465.out) hb)
          have n7_ := Aside0.mk (blk_below (g := gb480) (o := .cells #[.slice none 0 0, .slice none 0 0, .int .i64 0, .bool false] 25 (0, 0)) (by (with_reducible repeat (first | refine blk_drewN ?_ _ | refine blk_drew ?_ | refine blk_alloc ?_ _)); exact BK480.out) hb)
          have n8_ := Aside0.mk (below_step (by repeat (first | (with_reducible first | exact HB.out | apply below_alloc | apply pw_below_drewN | apply below_drew1 | refine below_set ?_ GE464.out | refine below_set ?_ GE465.out | refine below_set ?_ GE480.out) | exact HB.out)) hb)
          clear HO_465000
          clear HO_465001
          clear HO470
          clear BK464
          clear BK465
          clear BK480
          clear HB
          have HO_465000 := n0_
          have HO_465001 := n1_
          have HO470 := n2_
          have HO473 := n3_
          have HO476 := n4_
          have BK464 := n5_
          have BK465 := n6_
          have BK480 := n7_
          have HB := n8_
          clear n0_ n1_ n2_ n3_ n4_ n5_ n6_ n7_ n8_
          (try clear hb)
          (try clear hb2)
          (try clear hk)
          (try clear hi)
          (try clear ho0)
          (try clear ho1)
          refine hK.out _ _ ⟨(blk_cell BK464.out 0).trans rfl, (blk_cell BK464.out 1).trans rfl, (blk_cell BK464.out 2).trans rfl, (blk_cell BK464.out 3).trans rfl, ((HB.out.cell (World.block_lt_of_cell? w _ hw466_0)).trans hw466_0), ((HB.out.cell (World.block_lt_of_cell? w _ hw466_1)).trans hw466_1), ((HB.out.cell (World.block_lt_of_cell? w _ hw467_0)).trans hw467_0), ((HB.out.cell (World.block_lt_of_cell? w _ hw467_1)).trans hw467_1)⟩ (fun hHeld => ?_)
          clear hK K
          refine norm_ (a' := ?_) ?_ ?_
          rotate_left
          ·show Act.put _ (some 29) _ = _
           simp only [Act.put, List.setIfInBounds_toArray, List.set_cons_zero, List.set_cons_succ, i64_w, i32_w]
           rfl
          refine pure_ (i := 13) (N := some 16) (v := ?_) (a' := ?_) #[T29,T29,T29,T29,T29,T29,T29,T29,T29,T29,T29,T29,T29,T29,F29,F29,T29,F29,F29] rfl rfl (any_of HT_.out (by kernel_rfl)) (fun _ _ _ h => h) (Or.inl ⟨by rfl, ?_⟩) ?_ ?_
          rotate_left
          ·intro w'
           go_simp
           with_reducible rfl
          rotate_left
          ·simp only [Act.put, List.setIfInBounds_toArray, List.set_cons_zero, List.set_cons_succ, i64_w, i32_w]
           rfl
          refine pure_ (i := 14) (N := some 30) (v := ?_) (a' := ?_) #[T29,T29,T29,T29,T29,T29,T29,T29,T29,T29,T29,T29,T29,T29,T29,F29,T29,F29,F29] rfl rfl (any_of HT_.out (by kernel_rfl)) (fun _ _ _ h => h) (Or.inl ⟨by rfl, ?_⟩) ?_ ?_
          rotate_left
          ·intro w'
           go_simp
           with_reducible rfl
          rotate_left
          ·simp only [Act.put, List.setIfInBounds_toArray, List.set_cons_zero, List.set_cons_succ, i64_w, i32_w]
           rfl
          refine pure_ (i := 15) (N := some 31) (v := ?_) (a' := ?_) #[T29,T29,T29,T29,T29,T29,T29,T29,T29,T29,T29,T29,T29,T29,T29,T29,T29,F29,F29] rfl rfl (any_of HT_.out (by kernel_rfl)) (fun _ _ _ h => h) (Or.inl ⟨by rfl, ?_⟩) ?_ ?_
          rotate_left
          ·intro w'
           go_simp
           with_reducible rfl
          rotate_left
          ·simp only [Act.put, List.setIfInBounds_toArray, List.set_cons_zero, List.set_cons_succ, i64_w, i32_w]
           rfl
          exact norm_ (by simp only [putAll, Act.put, List.setIfInBounds_toArray, List.set_cons_zero, List.set_cons_succ]) (hCont (.slice Ao35 t468.length co35, v472, v475, gb480) _ ⟨hHeld, (by (with_reducible repeat (first | apply Kd.R_alloc | apply Kd.R_drewN | apply Kd.R_drew)); exact Kd.R_mono HO470.out (fun _ hk => hk.1)), (by (with_reducible repeat (first | apply Kd.S_alloc | apply Kd.S_drewN | apply Kd.S_drew)); exact Kd.S_mono HO473.out (fun _ hk => ⟨hk.1.1, hk.2⟩)), (by (with_reducible repeat (first | apply Kd.S_alloc | apply Kd.S_drewN | apply Kd.S_drew)); exact Kd.S_mono HO476.out (fun _ hk => ⟨hk.1.1, hk.2⟩)), (by (with_reducible repeat (first | apply Kd.V_alloc | apply Kd.V_drewN | apply Kd.V_drew)); exact Kd.V_mono HO_465000.out (fun _ hk => ⟨hk.1.1.1.1.1, ⟨hk.1.1.1.2, ⟨hk.1.2, ⟨hk.2, ⟨hk.1.1.1.1.2.1, ⟨hk.1.1.1.1.2.2, hk.1.1.2⟩⟩⟩⟩⟩⟩)), (by (with_reducible repeat (first | apply Kd.V_alloc | apply Kd.V_drewN | apply Kd.V_drew)); exact Kd.V_mono HO_465001.out (fun _ hk => ⟨hk.1.1.1.1.1, ⟨hk.1.1.1.2, ⟨hk.1.2, ⟨hk.2, ⟨hk.1.1.1.1.2.1, ⟨hk.1.1.1.1.2.2, hk.1.1.2⟩⟩⟩⟩⟩⟩)), (by (with_reducible repeat (first | refine blk_drewN ?_ _ | refine blk_drew ?_ | refine blk_alloc ?_ _)); exact BK464.out), (by (with_reducible repeat (first | refine blk_drewN ?_ _ | refine blk_drew ?_ | refine blk_alloc ?_ _)); exact BK465.out), (by (with_reducible repeat (first | refine blk_drewN ?_ _ | refine blk_drew ?_ | refine blk_alloc ?_ _)); exact BK480.out), GW480.out, GE480.out, NB464_480.out, NB480_464.out, NB465_480.out, NB480_465.out, (by repeat (first | (with_reducible first | exact HB.out | apply below_alloc | apply pw_below_drewN | apply below_drew1 | refine below_set ?_ GE464.out | refine below_set ?_ GE465.out | refine below_set ?_ GE480.out) | exact HB.out))⟩)
        ·skip
         refine box_step ?hg (N := 8) ?hd (cs := #[.slice none 0 0, .slice none 0 0, .int .i64 0, .bool false]) (t := 25) ?hr ?_; (case hd => rfl); (case hg => rfl); (case hr => first | (go_simp; done) | (go_simp; rfl))
         intro gb480 hg w33 hbox hb
         have n0_ := Aside0.mk (Kd.V_below (Kd.V_elderB (by (with_reducible repeat (first | apply Kd.V_alloc | apply Kd.V_drewN | apply Kd.V_drew)); exact HO_465000.out) gb480 (Nat.le_of_eq hg.symm)) hb)
         have n1_ := Aside0.mk (Kd.V_below (Kd.V_elderB (by (with_reducible repeat (first | apply Kd.V_alloc | apply Kd.V_drewN | apply Kd.V_drew)); exact HO_465001.out) gb480 (Nat.le_of_eq hg.symm)) hb)
         have n2_ := Aside0.mk (blk_below (g := gb464) (o := .cells #[.slice Ao30 x465000_1.length co30, .slice Ao31 x465001_1.length co31, .int .i64 x465002_1, .bool x465003_1] 25 (0, 0)) (by (with_reducible repeat (first | refine blk_drewN ?_ _ | refine blk_drew ?_ | refine blk_alloc ?_ _)); exact BK464.out) hb)
         have n3_ := Aside0.mk (blk_below (g := gb465) (o := .cells #[.slice none 0 0, .slice none 0 0, .int .i64 x466002_1, .bool x466003_1] 25 (0, 0)) (by (with_reducible repeat (first | refine blk_drewN ?_ _ | refine blk_drew ?_ | refine blk_alloc ?_ _)); exact BK465.out) hb)
         have n4_ := Aside0.mk (below_step (by repeat (first | (with_reducible first | exact HB.out | apply below_alloc | apply pw_below_drewN | apply below_drew1 | refine below_set ?_ GE464.out | refine below_set ?_ GE465.out) | exact HB.out)) hb)
         have n5_ := Aside0.mk (hbox)
         have n6_ := Aside0.mk ((by rw [hg]; exact (below_size (by repeat (first | (with_reducible first | exact HB.out | apply below_alloc | apply pw_below_drewN | apply below_drew1 | refine below_set ?_ GE464.out | refine below_set ?_ GE465.out) | exact HB.out))) : w.heap.size ≤ gb480))
         have n7_ := Aside0.mk ((by rw [hg]; exact (below_size (by repeat (first | (with_reducible first | exact HB.out | apply below_alloc | apply pw_below_drewN | apply below_drew1 | refine below_set ?_ GE464.out | refine below_set ?_ GE465.out) | exact HB.out))) : w.heap.size ≤ gb480))
         have n8_ := Aside0.mk ((by rw [hg]; exact Nat.ne_of_lt (blk_lt (g := gb464) (o := .cells #[.slice Ao30 x465000_1.length co30, .slice Ao31 x465001_1.length co31, .int .i64 x465002_1, .bool x465003_1] 25 (0, 0)) (by (with_reducible repeat (first | refine blk_drewN ?_ _ | refine blk_drew ?_ | refine blk_alloc ?_ _)); exact BK464.out)) : gb464 ≠ gb480))
         have n9_ := Aside0.mk ((by rw [hg]; exact Nat.ne_of_gt (blk_lt (g := gb464) (o := .cells #[.slice Ao30 x465000_1.length co30, .slice Ao31 x465001_1.length co31, .int .i64 x465002_1, .bool x465003_1] 25 (0, 0)) (by (with_reducible repeat (first | refine blk_drewN ?_ _ | refine blk_drew ?_ | refine blk_alloc ?_ _)); exact BK464.out)) : gb480 ≠ gb464))
         have n10_ := Aside0.mk ((by rw [hg]; exact Nat.ne_of_lt (blk_lt (g := gb465) (o := .cells #[.slice none 0 0, .slice none 0 0, .int .i64 x466002_1, .bool x466003_1] 25 (0, 0)) (by (with_reducible repeat (first | refine blk_drewN ?_ _ | refine blk_drew ?_ | refine blk_alloc ?_ _)); exact BK465.out)) : gb465 ≠ gb480))
         have n11_ := Aside0.mk ((by rw [hg]; exact Nat.ne_of_gt (blk_lt (g := gb465) (o := .cells #[.slice none 0 0, .slice none 0 0, .int .i64 x466002_1, .bool x466003_1] 25 (0, 0)) (by (with_reducible repeat (first | refine blk_drewN ?_ _ | refine blk_drew ?_ | refine blk_alloc ?_ _)); exact BK465.out)) : gb480 ≠ gb465))
         clear HO_465000
         clear HO_465001
         clear BK464
         clear BK465
         clear HB
         have HO_465000 := n0_
         have HO_465001 := n1_
         have BK464 := n2_
         have BK465 := n3_
         have HB := n4_
         have BK480 := n5_
         have GW480 := n6_
         have GE480 := n7_
         have NB464_480 := n8_
         have NB480_464 := n9_
         have NB465_480 := n10_
         have NB480_465 := n11_
         clear n0_ n1_ n2_ n3_ n4_ n5_ n6_ n7_ n8_ n9_ n10_ n11_
         clear hb hbox hg
         refine hK.out _ _ ⟨(blk_cell BK464.out 0).trans rfl, (blk_cell BK464.out 1).trans rfl, (blk_cell BK464.out 2).trans rfl, (blk_cell BK464.out 3).trans rfl, ((HB.out.cell (World.block_lt_of_cell? w _ hw466_0)).trans hw466_0), ((HB.out.cell (World.block_lt_of_cell? w _ hw466_1)).trans hw466_1), ((HB.out.cell (World.block_lt_of_cell? w _ hw467_0)).trans hw467_0), ((HB.out.cell (World.block_lt_of_cell? w _ hw467_1)).trans hw467_1)⟩ (fun hHeld => ?_)
         clear hK K
         refine norm_ (a' := ?_) ?_ ?_
         rotate_left
         ·show Act.put _ (some 8) _ = _
          simp only [Act.put, List.setIfInBounds_toArray, List.set_cons_zero, List.set_cons_succ, i64_w, i32_w]
          rfl
         refine one_ (i := 11) (N := some 28) #[T29,T29,T29,T29,T29,T29,T29,T29,T29,T29,T29,T29,F29,F29,F29,F29,T29,F29,F29] rfl rfl (one_of HT_.out (by kernel_rfl)) (by decide) (fun K hK => ?_)
         refine goes_ Try.func31 (by kernel_rfl) rfl #[.int .u8 ((rd_T55 l1 x7_1).f1)] (by rfl) rfl rfl (by (try simp only [List.map_toArray, List.map_cons, List.map_nil]); first | done | rfl | (simp only [List.length_drop, List.length_take]; rfl)) ?_
         with_reducible refine (mapsheetslaw24_block.calls k1 ((rd_T55 l1 x7_1).f1) t468 _ A7.out).mono ?_
         rintro e w34 ⟨v469, rfl, ho0, hb⟩
         refine ⟨_, rfl, ?_⟩
         have n0_ := Aside0.mk (Kd.V_elder' (by (with_reducible repeat (first | apply Kd.V_alloc | apply Kd.V_drewN | apply Kd.V_drew)); exact HO_465000.out) (Kd.R_base ho0) hb)
         have n1_ := Aside0.mk (Kd.V_elder' (by (with_reducible repeat (first | apply Kd.V_alloc | apply Kd.V_drewN | apply Kd.V_drew)); exact HO_465001.out) (Kd.R_base ho0) hb)
         have n2_ := Aside0.mk (Kd.R_lower (Kd.R_newM (M := fun k_ => (w.heap.size ≤ k_)) ho0 (below_size (by repeat (first | (with_reducible first | exact HB.out | apply below_alloc | apply pw_below_drewN | apply below_drew1 | refine below_set ?_ GE464.out | refine below_set ?_ GE465.out | refine below_set ?_ GE480.out) | exact HB.out))) (fun k_ h_ => h_)) (below_size (by repeat (first | (with_reducible first | exact HB.out | apply below_alloc | apply pw_below_drewN | apply below_drew1 | refine below_set ?_ GE464.out | refine below_set ?_ GE465.out | refine below_set ?_ GE480.out) | exact HB.out))))
         have n3_ := Aside0.mk (blk_below (g := gb464) (o := .cells #[.slice Ao30 x465000_1.length co30, .slice Ao31 x465001_1.length co31, .int .i64 x465002_1, .bool x465003_1] 25 (0, 0)) (by (with_reducible repeat (first | refine blk_drewN ?_ _ | refine blk_drew ?_ | refine blk_alloc ?_ _)); exact BK464.out) hb)
         have n4_ := Aside0.mk (blk_below (g := gb465) (o := .cells #[.slice none 0 0, .slice none 0 0, .int .i64 x466002_1, .bool x466003_1] 25 (0, 0)) (by (with_reducible repeat (first | refine blk_drewN ?_ _ | refine blk_drew ?_ | refine blk_alloc ?_ _)); exact BK465.out) hb)
         have n5_ := Aside0.mk (blk_below (g := gb480) (o := .cells #[.slice none 0 0, .slice none 0 0, .int .i64 0, .bool false] 25 (0, 0)) (by (with_reducible repeat (first | refine blk_drewN ?_ _ | refine blk_drew ?_ | refine blk_alloc ?_ _)); exact BK480.out) hb)
         have n6_ := Aside0.mk (below_step (by repeat (first | (with_reducible first | exact HB.out | apply below_alloc | apply pw_below_drewN | apply below_drew1 | refine below_set ?_ GE464.out | refine below_set ?_ GE465.out | refine below_set ?_ GE480.out) | exact HB.out)) hb)
         clear HO_465000
         clear HO_465001
         clear BK464
         clear BK465
         clear BK480
         clear HB
         have HO_465000 := n0_
         have HO_465001 := n1_
         have HO470 := n2_
         have BK464 := n3_
         have BK465 := n4_
         have BK480 := n5_
         have HB := n6_
         clear n0_ n1_ n2_ n3_ n4_ n5_ n6_
         (try clear hb)
         (try clear hb2)
         (try clear hk)
         (try clear hi)
         (try clear ho0)
         obtain ⟨Ao35, co35, eo35⟩ := Kd.R_slice HO470.out
         (first | subst eo35 | (injection eo35 with f1_ f2_ f3_; have f4_ := f1_.symm; have f5_ := f3_.symm; clear f1_ f2_ f3_; subst f4_; subst f5_))
         refine hK.out _ _ ⟨(blk_cell BK464.out 0).trans rfl, (blk_cell BK464.out 1).trans rfl, (blk_cell BK464.out 2).trans rfl, (blk_cell BK464.out 3).trans rfl, ((HB.out.cell (World.block_lt_of_cell? w _ hw466_0)).trans hw466_0), ((HB.out.cell (World.block_lt_of_cell? w _ hw466_1)).trans hw466_1), ((HB.out.cell (World.block_lt_of_cell? w _ hw467_0)).trans hw467_0), ((HB.out.cell (World.block_lt_of_cell? w _ hw467_1)).trans hw467_1)⟩ (fun hHeld => ?_)
         clear hK K
         refine norm_ (a' := ?_) ?_ ?_
         rotate_left
         ·show Act.put _ (some 28) _ = _
          simp only [Act.put, List.setIfInBounds_toArray, List.set_cons_zero, List.set_cons_succ, i64_w, i32_w]
          rfl
         refine one_ (i := 12) (N := some 29) #[T29,T29,T29,T29,T29,T29,T29,T29,T29,T29,T29,T29,T29,F29,F29,F29,T29,F29,F29] rfl rfl (one_of HT_.out (by kernel_rfl)) (by decide) (fun K hK => ?_)
         refine goes_ Try.func13 (by kernel_rfl) rfl #[.agg #[.slice Ao30 x465000_1.length co30, .slice Ao31 x465001_1.length co31, .int .i64 x465002_1, .bool x465003_1], .int .i64 ((rd_T55 l1 x7_1).f0), .slice Ao35 t468.length co35] (by rfl) rfl rfl (by (try simp only [List.map_toArray, List.map_cons, List.map_nil]); first | done | rfl | (simp only [List.length_drop, List.length_take]; rfl)) ?_
         with_reducible refine (device_Write.calls k1 _ _ x465000_1 _ _ x465001_1 x465002_1 x465003_1 ((rd_T55 l1 x7_1).f0) _ _ t468 t471 t474 t477 t478 t479 _ ?side1 ?side2 ?side3 ?side4 ?side5 ?side6 A8.out).mono ?_
         (case side1 => repeat (first | exact (Kd.V_reads' HO_465000.out).2.2 | (with_reducible refine Kd.C_alloc ?_ _) | (with_reducible refine Kd.C_drewN ?_ _) | (with_reducible refine Kd.C_drew ?_)))
         (case side2 => exact (Kd.V_reads' HO_465000.out).2.1)
         (case side3 => repeat (first | exact (Kd.V_reads' HO_465001.out).2.2 | (with_reducible refine Kd.C_alloc ?_ _) | (with_reducible refine Kd.C_drewN ?_ _) | (with_reducible refine Kd.C_drew ?_)))
         (case side4 => exact (Kd.V_reads' HO_465001.out).2.1)
         (case side5 => repeat (first | exact (Kd.R_reads' HO470.out).2.2 | (with_reducible refine Kd.C_alloc ?_ _) | (with_reducible refine Kd.C_drewN ?_ _) | (with_reducible refine Kd.C_drew ?_)))
         (case side6 => exact (Kd.R_reads' HO470.out).2.1)
         rintro e w36 ⟨v472, v475, rfl, ho0, ho1, hb⟩
         refine ⟨_, rfl, ?_⟩
         have n0_ := Aside0.mk (Kd.V_mono (Kd.V_told (Kd.V_told (Kd.V_old (by (with_reducible repeat (first | apply Kd.V_alloc | apply Kd.V_drewN | apply Kd.V_drew)); exact HO_465000.out) hb) (Kd.S_base ho0)) (Kd.S_base ho1)) (fun _ h_ => h_.1))
         have n1_ := Aside0.mk (Kd.V_mono (Kd.V_told (Kd.V_told (Kd.V_old (by (with_reducible repeat (first | apply Kd.V_alloc | apply Kd.V_drewN | apply Kd.V_drew)); exact HO_465001.out) hb) (Kd.S_base ho0)) (Kd.S_base ho1)) (fun _ h_ => h_.1))
         have n2_ := Aside0.mk (Kd.R_below (by (with_reducible repeat (first | apply Kd.R_alloc | apply Kd.R_drewN | apply Kd.R_drew)); exact HO470.out) hb)
         have n3_ := Aside0.mk (Kd.S_lower (Kd.S_new' (Kd.S_newM (M := fun k_ => (w.heap.size ≤ k_)) ho0 (below_size (by repeat (first | (with_reducible first | exact HB.out | apply below_alloc | apply pw_below_drewN | apply below_drew1 | refine below_set ?_ GE464.out | refine below_set ?_ GE465.out | refine below_set ?_ GE480.out) | exact HB.out))) (fun k_ h_ => h_)) (Kd.R_lt (by (with_reducible repeat (first | apply Kd.R_alloc | apply Kd.R_drewN | apply Kd.R_drew)); exact HO470.out))) (below_size (by repeat (first | (with_reducible first | exact HB.out | apply below_alloc | apply pw_below_drewN | apply below_drew1 | refine below_set ?_ GE464.out | refine below_set ?_ GE465.out | refine below_set ?_ GE480.out) | exact HB.out))))
         have n4_ := Aside0.mk (Kd.S_lower (Kd.S_new' (Kd.S_newM (M := fun k_ => (w.heap.size ≤ k_)) ho1 (below_size (by repeat (first | (with_reducible first | exact HB.out | apply below_alloc | apply pw_below_drewN | apply below_drew1 | refine below_set ?_ GE464.out | refine below_set ?_ GE465.out | refine below_set ?_ GE480.out) | exact HB.out))) (fun k_ h_ => h_)) (Kd.R_lt (by (with_reducible repeat (first | apply Kd.R_alloc | apply Kd.R_drewN | apply Kd.R_drew)); exact HO470.out))) (below_size (by repeat (first | (with_reducible first | exact HB.out | apply below_alloc | apply pw_below_drewN | apply below_drew1 | refine below_set ?_ GE464.out | refine below_set ?_ GE465.out | refine below_set ?_ GE480.out) | exact HB.out))))
         have n5_ := Aside0.mk (blk_below (g := gb464) (o := .cells #[.slice Ao30 x465000_1.length co30, .slice Ao31 x465001_1.length co31, .int .i64 x465002_1, .bool x465003_1] 25 (0, 0)) (by (with_reducible repeat (first | refine blk_drewN ?_ _ | refine blk_drew ?_ | refine blk_alloc ?_ _)); exact BK464.out) hb)
         have n6_ := Aside0.mk (blk_below (g := gb465) (o := .cells #[.slice none 0 0, .slice none 0 0, .int .i64 x466002_1, .bool x466003_1] 25 (0, 0)) (by (with_reducible repeat (first | refine blk_drewN ?_ _ | refine blk_drew ?_ | refine blk_alloc ?_ _)); exact BK465.out) hb)
         have n7_ := Aside0.mk (blk_below (g := gb480) (o := .cells #[.slice none 0 0, .slice none 0 0, .int .i64 0, .bool false] 25 (0, 0)) (by (with_reducible repeat (first | refine blk_drewN ?_ _ | refine blk_drew ?_ | refine blk_alloc ?_ _)); exact BK480.out) hb)
         have n8_ := Aside0.mk (below_step (by repeat (first | (with_reducible first | exact HB.out | apply below_alloc | apply pw_below_drewN | apply below_drew1 | refine below_set ?_ GE464.out | refine below_set ?_ GE465.out | refine below_set ?_ GE480.out) | exact HB.out)) hb)
         clear HO_465000
         clear HO_465001
         clear HO470
         clear BK464
         clear BK465
         clear BK480
         clear HB
         have HO_465000 := n0_
         have HO_465001 := n1_
         have HO470 := n2_
         have HO473 := n3_
         have HO476 := n4_
         have BK464 := n5_
         have BK465 := n6_
         have BK480 := n7_
         have HB := n8_
         clear n0_ n1_ n2_ n3_ n4_ n5_ n6_ n7_ n8_
         (try clear hb)
         (try clear hb2)
         (try clear hk)
         (try clear hi)
         (try clear ho0)
         (try clear ho1)
         refine hK.out _ _ ⟨(blk_cell BK464.out 0).trans rfl, (blk_cell BK464.out 1).trans rfl, (blk_cell BK464.out 2).trans rfl, (blk_cell BK464.out 3).trans rfl, ((HB.out.cell (World.block_lt_of_cell? w _ hw466_0)).trans hw466_0), ((HB.out.cell (World.block_lt_of_cell? w _ hw466_1)).trans hw466_1), ((HB.out.cell (World.block_lt_of_cell? w _ hw467_0)).trans hw467_0), ((HB.out.cell (World.block_lt_of_cell? w _ hw467_1)).trans hw467_1)⟩ (fun hHeld => ?_)
         clear hK K
         refine norm_ (a' := ?_) ?_ ?_
         rotate_left
         ·show Act.put _ (some 29) _ = _
          simp only [Act.put, List.setIfInBounds_toArray, List.set_cons_zero, List.set_cons_succ, i64_w, i32_w]
          rfl
         refine pure_ (i := 13) (N := some 16) (v := ?_) (a' := ?_) #[T29,T29,T29,T29,T29,T29,T29,T29,T29,T29,T29,T29,T29,T29,F29,F29,T29,F29,F29] rfl rfl (any_of HT_.out (by kernel_rfl)) (fun _ _ _ h => h) (Or.inl ⟨by rfl, ?_⟩) ?_ ?_
         rotate_left
         ·intro w'
          go_simp
          with_reducible rfl
         rotate_left
         ·simp only [Act.put, List.setIfInBounds_toArray, List.set_cons_zero, List.set_cons_succ, i64_w, i32_w]
          rfl
         refine pure_ (i := 14) (N := some 30) (v := ?_) (a' := ?_) #[T29,T29,T29,T29,T29,T29,T29,T29,T29,T29,T29,T29,T29,T29,T29,F29,T29,F29,F29] rfl rfl (any_of HT_.out (by kernel_rfl)) (fun _ _ _ h => h) (Or.inl ⟨by rfl, ?_⟩) ?_ ?_
         rotate_left
         ·intro w'
          go_simp
          with_reducible rfl
         rotate_left
         ·simp only [Act.put, List.setIfInBounds_toArray, List.set_cons_zero, List.set_cons_succ, i64_w, i32_w]
          rfl
         refine pure_ (i := 15) (N := some 31) (v := ?_) (a' := ?_) #[T29,T29,T29,T29,T29,T29,T29,T29,T29,T29,T29,T29,T29,T29,T29,T29,T29,F29,F29] rfl rfl (any_of HT_.out (by kernel_rfl)) (fun _ _ _ h => h) (Or.inl ⟨by rfl, ?_⟩) ?_ ?_
         rotate_left
         ·intro w'
          go_simp
          with_reducible rfl
         rotate_left
         ·simp only [Act.put, List.setIfInBounds_toArray, List.set_cons_zero, List.set_cons_succ, i64_w, i32_w]
          rfl
         exact norm_ (by simp only [putAll, Act.put, List.setIfInBounds_toArray, List.set_cons_zero, List.set_cons_succ]) (hCont (.slice Ao35 t468.length co35, v472, v475, gb480) _ ⟨hHeld, (by (with_reducible repeat (first | apply Kd.R_alloc | apply Kd.R_drewN | apply Kd.R_drew)); exact Kd.R_mono HO470.out (fun _ hk => hk.1)), (by (with_reducible repeat (first | apply Kd.S_alloc | apply Kd.S_drewN | apply Kd.S_drew)); exact Kd.S_mono HO473.out (fun _ hk => ⟨hk.1.1, hk.2⟩)), (by (with_reducible repeat (first | apply Kd.S_alloc | apply Kd.S_drewN | apply Kd.S_drew)); exact Kd.S_mono HO476.out (fun _ hk => ⟨hk.1.1, hk.2⟩)), (by (with_reducible repeat (first | apply Kd.V_alloc | apply Kd.V_drewN | apply Kd.V_drew)); exact Kd.V_mono HO_465000.out (fun _ hk => ⟨hk.1.1.1.1.1, ⟨hk.1.1.2, ⟨hk.1.2, ⟨hk.2, ⟨hk.1.1.1.1.2.1, ⟨hk.1.1.1.1.2.2, hk.1.1.1.2⟩⟩⟩⟩⟩⟩)), (by (with_reducible repeat (first | apply Kd.V_alloc | apply Kd.V_drewN | apply Kd.V_drew)); exact Kd.V_mono HO_465001.out (fun _ hk => ⟨hk.1.1.1.1.1, ⟨hk.1.1.2, ⟨hk.1.2, ⟨hk.2, ⟨hk.1.1.1.1.2.1, ⟨hk.1.1.1.1.2.2, hk.1.1.1.2⟩⟩⟩⟩⟩⟩)), (by (with_reducible repeat (first | refine blk_drewN ?_ _ | refine blk_drew ?_ | refine blk_alloc ?_ _)); exact BK464.out), (by (with_reducible repeat (first | refine blk_drewN ?_ _ | refine blk_drew ?_ | refine blk_alloc ?_ _)); exact BK465.out), (by (with_reducible repeat (first | refine blk_drewN ?_ _ | refine blk_drew ?_ | refine blk_alloc ?_ _)); exact BK480.out), GW480.out, GE480.out, NB464_480.out, NB480_464.out, NB465_480.out, NB480_465.out, (by repeat (first | (with_reducible first | exact HB.out | apply below_alloc | apply pw_below_drewN | apply below_drew1 | refine below_set ?_ GE464.out | refine below_set ?_ GE465.out | refine below_set ?_ GE480.out) | exact HB.out))⟩)
       rintro ⟨v469, v472, v475, gb480⟩ w37 ⟨hS_, h0_, h1_, h2_, h3_, h4_, h5_, h6_, h7_, h8_, h9_, h10_, h11_, h12_, h13_, h14_⟩
       have n0_ : Aside0 (Kd.R (Kd.int .u8) 5 w37 w.heap.size (fun k_ => (w.heap.size ≤ k_)) v469 t468) := ⟨h0_⟩
       have n1_ : Aside0 (Kd.S (Kd.slice 5 (Kd.int .u8)) 26 w37 w.heap.size (fun k_ => (w.heap.size ≤ k_) ∧ some k_ ≠ (v469 : Value).ownBlock) v472 t471) := ⟨h1_⟩
       have n2_ : Aside0 (Kd.S k53 53 w37 w.heap.size (fun k_ => (w.heap.size ≤ k_) ∧ some k_ ≠ (v469 : Value).ownBlock) v475 t474) := ⟨h2_⟩
       have n3_ : Aside0 (Kd.V (Kd.slice 5 (Kd.int .u8)) 26 w37 w.heap.size (fun k_ => ((P0_0_ k_ ∨ P0_1_ k_) ∨ w.heap.size ≤ k_) ∧ some k_ ≠ (v469 : Value).ownBlock ∧ some k_ ≠ (v472 : Value).ownBlock ∧ some k_ ≠ (v475 : Value).ownBlock ∧ k_ ≠ gb464 ∧ k_ ≠ gb465 ∧ k_ ≠ gb480) (.slice Ao30 x465000_1.length co30) x465000_1) := ⟨h3_⟩
       have n4_ : Aside0 (Kd.V k53 53 w37 w.heap.size (fun k_ => ((P0_0_ k_ ∨ P0_1_ k_) ∨ w.heap.size ≤ k_) ∧ some k_ ≠ (v469 : Value).ownBlock ∧ some k_ ≠ (v472 : Value).ownBlock ∧ some k_ ≠ (v475 : Value).ownBlock ∧ k_ ≠ gb464 ∧ k_ ≠ gb465 ∧ k_ ≠ gb480) (.slice Ao31 x465001_1.length co31) x465001_1) := ⟨h4_⟩
       have n5_ : Aside0 (w37.heap[gb464]? = some (.cells #[.slice Ao30 x465000_1.length co30, .slice Ao31 x465001_1.length co31, .int .i64 x465002_1, .bool x465003_1] 25 (0, 0))) := ⟨h5_⟩
       have n6_ : Aside0 (w37.heap[gb465]? = some (.cells #[.slice none 0 0, .slice none 0 0, .int .i64 x466002_1, .bool x466003_1] 25 (0, 0))) := ⟨h6_⟩
       have n7_ : Aside0 (w37.heap[gb480]? = some (.cells #[.slice none 0 0, .slice none 0 0, .int .i64 0, .bool false] 25 (0, 0))) := ⟨h7_⟩
       have n8_ : Aside0 (w.heap.size ≤ gb480) := ⟨h8_⟩
       have n9_ : Aside0 (w.heap.size ≤ gb480) := ⟨h9_⟩
       have n10_ : Aside0 (gb464 ≠ gb480) := ⟨h10_⟩
       have n11_ : Aside0 (gb480 ≠ gb464) := ⟨h11_⟩
       have n12_ : Aside0 (gb465 ≠ gb480) := ⟨h12_⟩
       have n13_ : Aside0 (gb480 ≠ gb465) := ⟨h13_⟩
       have n14_ : Aside0 (Below w.heap.size w w37) := ⟨h14_⟩
       clear HO_465000
       clear HO_465001
       clear BK464
       clear BK465
       clear HB
       clear h0_ h1_ h2_ h3_ h4_ h5_ h6_ h7_ h8_ h9_ h10_ h11_ h12_ h13_ h14_
       have HO470 := n0_
       have HO473 := n1_
       have HO476 := n2_
       have HO_465000 := n3_
       have HO_465001 := n4_
       have BK464 := n5_
       have BK465 := n6_
       have BK480 := n7_
       have GW480 := n8_
       have GE480 := n9_
       have NB464_480 := n10_
       have NB480_464 := n11_
       have NB465_480 := n12_
       have NB480_465 := n13_
       have HB := n14_
       clear n0_ n1_ n2_ n3_ n4_ n5_ n6_ n7_ n8_ n9_ n10_ n11_ n12_ n13_ n14_
       have hHeld : w37.cell? ⟨gb464, 0, none⟩ = some (.slice Ao30 x465000_1.length co30) ∧ w37.cell? ⟨gb464, 1, none⟩ = some (.slice Ao31 x465001_1.length co31) ∧ w37.cell? ⟨gb464, 2, none⟩ = some (.int .i64 x465002_1) ∧ w37.cell? ⟨gb464, 3, none⟩ = some (.bool x465003_1) ∧ w37.cell? (ad466.add ((x7_1).toNat * 2)) = some (.int .i64 ((rd_T55 l1 x7_1).f0)) ∧ w37.cell? ⟨(ad466.add ((x7_1).toNat * 2)).block, (ad466.add ((x7_1).toNat * 2)).off + 1, none⟩ = some (.int .u8 ((rd_T55 l1 x7_1).f1)) ∧ w37.cell? (ad466.add ((x7_1).toNat * 2)) = some (.int .i64 ((rd_T55 l1 x7_1).f0)) ∧ w37.cell? ⟨(ad466.add ((x7_1).toNat * 2)).block, (ad466.add ((x7_1).toNat * 2)).off + 1, none⟩ = some (.int .u8 ((rd_T55 l1 x7_1).f1)) := hS_
       obtain ⟨Ao38, co38, eo38⟩ := Kd.S_slice HO473.out
       (first | subst eo38 | (injection eo38 with f1_ f2_ f3_; have f4_ := f1_.symm; have f5_ := f3_.symm; clear f1_ f2_ f3_; subst f4_; subst f5_))
       obtain ⟨Ao40, co40, eo40⟩ := Kd.S_slice HO476.out
       (first | subst eo40 | (injection eo40 with f1_ f2_ f3_; have f4_ := f1_.symm; have f5_ := f3_.symm; clear f1_ f2_ f3_; subst f4_; subst f5_))
       refine norm_ (a' := ?_) ?_ ?_
       rotate_left
       ·simp only [putAll, Act.put, List.setIfInBounds_toArray, List.set_cons_zero, List.set_cons_succ]
        rfl
       refine one_ (i := 17) (N := none) #[T29,T29,T29,T29,T29,T29,T29,T29,T29,T29,T29,T29,T29,T29,T29,T29,T29,T29,F29] rfl rfl (one_of HT_.out (by kernel_rfl)) (by decide) (fun K hK => ?_)
       have hs39 : w37.cell? ⟨gb480, 0, none⟩ = some (.slice none 0 0) := (blk_cell BK480.out 0).trans rfl
       have hfs39 := blk_frozen BK480.out 0
       have hns39_0 := NB464_480.out
       have hns39_1 := NB465_480.out
       have hms39_0 := NB480_464.out
       have hms39_1 := NB480_465.out
       have hs41 : w37.cell? ⟨gb480, 1, none⟩ = some (.slice none 0 0) := (blk_cell BK480.out 1).trans rfl
       have hfs41 := blk_frozen BK480.out 1
       have hns41_0 := NB464_480.out
       have hns41_1 := NB465_480.out
       have hms41_0 := NB480_464.out
       have hms41_1 := NB480_465.out
       have hs42 : w37.cell? ⟨gb480, 2, none⟩ = some (.int .i64 0) := (blk_cell BK480.out 2).trans rfl
       have hfs42 := blk_frozen BK480.out 2
       have hns42_0 := NB464_480.out
       have hns42_1 := NB465_480.out
       have hms42_0 := NB480_464.out
       have hms42_1 := NB480_465.out
       have hs43 : w37.cell? ⟨gb480, 3, none⟩ = some (.bool false) := (blk_cell BK480.out 3).trans rfl
       have hfs43 := blk_frozen BK480.out 3
       have hns43_0 := NB464_480.out
       have hns43_1 := NB465_480.out
       have hms43_0 := NB480_464.out
       have hms43_1 := NB480_465.out
       refine skip_ (w1 := ?_) (by rfl) rfl ?_ ?_
       rotate_left
       ·go_simp
        rfl
       refine hK.out _ _ ⟨((cell_far (p := ⟨gb480, _, none⟩) NB464_480.out _).trans (((cell_far (p := ⟨gb480, _, none⟩) NB464_480.out _).trans (((cell_far (p := ⟨gb480, _, none⟩) NB464_480.out _).trans (((cell_far (p := ⟨gb480, _, none⟩) NB464_480.out _).trans (hHeld.1)))))))), ((cell_far (p := ⟨gb480, _, none⟩) NB464_480.out _).trans (((cell_far (p := ⟨gb480, _, none⟩) NB464_480.out _).trans (((cell_far (p := ⟨gb480, _, none⟩) NB464_480.out _).trans (((cell_far (p := ⟨gb480, _, none⟩) NB464_480.out _).trans (hHeld.2.1)))))))), ((cell_far (p := ⟨gb480, _, none⟩) NB464_480.out _).trans (((cell_far (p := ⟨gb480, _, none⟩) NB464_480.out _).trans (((cell_far (p := ⟨gb480, _, none⟩) NB464_480.out _).trans (((cell_far (p := ⟨gb480, _, none⟩) NB464_480.out _).trans (hHeld.2.2.1)))))))), ((cell_far (p := ⟨gb480, _, none⟩) NB464_480.out _).trans (((cell_far (p := ⟨gb480, _, none⟩) NB464_480.out _).trans (((cell_far (p := ⟨gb480, _, none⟩) NB464_480.out _).trans (((cell_far (p := ⟨gb480, _, none⟩) NB464_480.out _).trans (hHeld.2.2.2.1)))))))), ((cell_far (p := ⟨gb480, _, none⟩) (by first | exact Nat.ne_of_lt (Nat.lt_of_lt_of_le (by have := World.block_lt_of_cell? _ _ hw466_0; first | rwa [add_block] at this | exact this) GW480.out) | (rw [add_block]; exact Nat.ne_of_lt (Nat.lt_of_lt_of_le (by have := World.block_lt_of_cell? _ _ hw466_0; first | rwa [add_block] at this | exact this) GW480.out)) | (show (Addr.add _ _).block ≠ _; rw [add_block]; exact Nat.ne_of_lt (Nat.lt_of_lt_of_le (by have := World.block_lt_of_cell? _ _ hw466_0; first | rwa [add_block] at this | exact this) GW480.out)) | (dsimp only; exact Nat.ne_of_lt (Nat.lt_of_lt_of_le (by have := World.block_lt_of_cell? _ _ hw466_0; first | rwa [add_block] at this | exact this) GW480.out))) _).trans (((cell_far (p := ⟨gb480, _, none⟩) (by first | exact Nat.ne_of_lt (Nat.lt_of_lt_of_le (by have := World.block_lt_of_cell? _ _ hw466_0; first | rwa [add_block] at this | exact this) GW480.out) | (rw [add_block]; exact Nat.ne_of_lt (Nat.lt_of_lt_of_le (by have := World.block_lt_of_cell? _ _ hw466_0; first | rwa [add_block] at this | exact this) GW480.out)) | (show (Addr.add _ _).block ≠ _; rw [add_block]; exact Nat.ne_of_lt (Nat.lt_of_lt_of_le (by have := World.block_lt_of_cell? _ _ hw466_0; first | rwa [add_block] at this | exact this) GW480.out)) | (dsimp only; exact Nat.ne_of_lt (Nat.lt_of_lt_of_le (by have := World.block_lt_of_cell? _ _ hw466_0; first | rwa [add_block] at this | exact this) GW480.out))) _).trans (((cell_far (p := ⟨gb480, _, none⟩) (by first | exact Nat.ne_of_lt (Nat.lt_of_lt_of_le (by have := World.block_lt_of_cell? _ _ hw466_0; first | rwa [add_block] at this | exact this) GW480.out) | (rw [add_block]; exact Nat.ne_of_lt (Nat.lt_of_lt_of_le (by have := World.block_lt_of_cell? _ _ hw466_0; first | rwa [add_block] at this | exact this) GW480.out)) | (show (Addr.add _ _).block ≠ _; rw [add_block]; exact Nat.ne_of_lt (Nat.lt_of_lt_of_le (by have := World.block_lt_of_cell? _ _ hw466_0; first | rwa [add_block] at this | exact this) GW480.out)) | (dsimp only; exact Nat.ne_of_lt (Nat.lt_of_lt_of_le (by have := World.block_lt_of_cell? _ _ hw466_0; first | rwa [add_block] at this | exact this) GW480.out))) _).trans (((cell_far (p := ⟨gb480, _, none⟩) (by first | exact Nat.ne_of_lt (Nat.lt_of_lt_of_le (by have := World.block_lt_of_cell? _ _ hw466_0; first | rwa [add_block] at this | exact this) GW480.out) | (rw [add_block]; exact Nat.ne_of_lt (Nat.lt_of_lt_of_le (by have := World.block_lt_of_cell? _ _ hw466_0; first | rwa [add_block] at this | exact this) GW480.out)) | (show (Addr.add _ _).block ≠ _; rw [add_block]; exact Nat.ne_of_lt (Nat.lt_of_lt_of_le (by have := World.block_lt_of_cell? _ _ hw466_0; first | rwa [add_block] at this | exact this) GW480.out)) | (dsimp only; exact Nat.ne_of_lt (Nat.lt_of_lt_of_le (by have := World.block_lt_of_cell? _ _ hw466_0; first | rwa [add_block] at this | exact this) GW480.out))) _).trans (hHeld.2.2.2.2.1)))))))), ((cell_far (p := ⟨gb480, _, none⟩) (by first | exact Nat.ne_of_lt (Nat.lt_of_lt_of_le (by have := World.block_lt_of_cell? _ _ hw466_1; first | rwa [add_block] at this | exact this) GW480.out) | (rw [add_block]; exact Nat.ne_of_lt (Nat.lt_of_lt_of_le (by have := World.block_lt_of_cell? _ _ hw466_1; first | rwa [add_block] at this | exact this) GW480.out)) | (show (Addr.add _ _).block ≠ _; rw [add_block]; exact Nat.ne_of_lt (Nat.lt_of_lt_of_le (by have := World.block_lt_of_cell? _ _ hw466_1; first | rwa [add_block] at this | exact this) GW480.out)) | (dsimp only; exact Nat.ne_of_lt (Nat.lt_of_lt_of_le (by have := World.block_lt_of_cell? _ _ hw466_1; first | rwa [add_block] at this | exact this) GW480.out))) _).trans (((cell_far (p := ⟨gb480, _, none⟩) (by first | exact Nat.ne_of_lt (Nat.lt_of_lt_of_le (by have := World.block_lt_of_cell? _ _ hw466_1; first | rwa [add_block] at this | exact this) GW480.out) | (rw [add_block]; exact Nat.ne_of_lt (Nat.lt_of_lt_of_le (by have := World.block_lt_of_cell? _ _ hw466_1; first | rwa [add_block] at this | exact this) GW480.out)) | (show (Addr.add _ _).block ≠ _; rw [add_block]; exact Nat.ne_of_lt (Nat.lt_of_lt_of_le (by have := World.block_lt_of_cell? _ _ hw466_1; first | rwa [add_block] at this | exact this) GW480.out)) | (dsimp only; exact Nat.ne_of_lt (Nat.lt_of_lt_of_le (by have := World.block_lt_of_cell? _ _ hw466_1; first | rwa [add_block] at this | exact this) GW480.out))) _).trans (((cell_far (p := ⟨gb480, _, none⟩) (by first | exact Nat.ne_of_lt (Nat.lt_of_lt_of_le (by have := World.block_lt_of_cell? _ _ hw466_1; first | rwa [add_block] at this | exact this) GW480.out) | (rw [add_block]; exact Nat.ne_of_lt (Nat.lt_of_lt_of_le (by have := World.block_lt_of_cell? _ _ hw466_1; first | rwa [add_block] at this | exact this) GW480.out)) | (show (Addr.add _ _).block ≠ _; rw [add_block]; exact Nat.ne_of_lt (Nat.lt_of_lt_of_le (by have := World.block_lt_of_cell? _ _ hw466_1; first | rwa [add_block] at this | exact this) GW480.out)) | (dsimp only; exact Nat.ne_of_lt (Nat.lt_of_lt_of_le (by have := World.block_lt_of_cell? _ _ hw466_1; first | rwa [add_block] at this | exact this) GW480.out))) _).trans (((cell_far (p := ⟨gb480, _, none⟩) (by first | exact Nat.ne_of_lt (Nat.lt_of_lt_of_le (by have := World.block_lt_of_cell? _ _ hw466_1; first | rwa [add_block] at this | exact this) GW480.out) | (rw [add_block]; exact Nat.ne_of_lt (Nat.lt_of_lt_of_le (by have := World.block_lt_of_cell? _ _ hw466_1; first | rwa [add_block] at this | exact this) GW480.out)) | (show (Addr.add _ _).block ≠ _; rw [add_block]; exact Nat.ne_of_lt (Nat.lt_of_lt_of_le (by have := World.block_lt_of_cell? _ _ hw466_1; first | rwa [add_block] at this | exact this) GW480.out)) | (dsimp only; exact Nat.ne_of_lt (Nat.lt_of_lt_of_le (by have := World.block_lt_of_cell? _ _ hw466_1; first | rwa [add_block] at this | exact this) GW480.out))) _).trans (hHeld.2.2.2.2.2.1)))))))), ((cell_far (p := ⟨gb480, _, none⟩) (by first | exact Nat.ne_of_lt (Nat.lt_of_lt_of_le (by have := World.block_lt_of_cell? _ _ hw467_0; first | rwa [add_block] at this | exact this) GW480.out) | (rw [add_block]; exact Nat.ne_of_lt (Nat.lt_of_lt_of_le (by have := World.block_lt_of_cell? _ _ hw467_0; first | rwa [add_block] at this | exact this) GW480.out)) | (show (Addr.add _ _).block ≠ _; rw [add_block]; exact Nat.ne_of_lt (Nat.lt_of_lt_of_le (by have := World.block_lt_of_cell? _ _ hw467_0; first | rwa [add_block] at this | exact this) GW480.out)) | (dsimp only; exact Nat.ne_of_lt (Nat.lt_of_lt_of_le (by have := World.block_lt_of_cell? _ _ hw467_0; first | rwa [add_block] at this | exact this) GW480.out))) _).trans (((cell_far (p := ⟨gb480, _, none⟩) (by first | exact Nat.ne_of_lt (Nat.lt_of_lt_of_le (by have := World.block_lt_of_cell? _ _ hw467_0; first | rwa [add_block] at this | exact this) GW480.out) | (rw [add_block]; exact Nat.ne_of_lt (Nat.lt_of_lt_of_le (by have := World.block_lt_of_cell? _ _ hw467_0; first | rwa [add_block] at this | exact this) GW480.out)) | (show (Addr.add _ _).block ≠ _; rw [add_block]; exact Nat.ne_of_lt (Nat.lt_of_lt_of_le (by have := World.block_lt_of_cell? _ _ hw467_0; first | rwa [add_block] at this | exact this) GW480.out)) | (dsimp only; exact Nat.ne_of_lt (Nat.lt_of_lt_of_le (by have := World.block_lt_of_cell? _ _ hw467_0; first | rwa [add_block] at this | exact this) GW480.out))) _).trans (((cell_far (p := ⟨gb480, _, none⟩) (by first | exact Nat.ne_of_lt (Nat.lt_of_lt_of_le (by have := World.block_lt_of_cell? _ _ hw467_0; first | rwa [add_block] at this | exact this) GW480.out) | (rw [add_block]; exact Nat.ne_of_lt (Nat.lt_of_lt_of_le (by have := World.block_lt_of_cell? _ _ hw467_0; first | rwa [add_block] at this | exact this) GW480.out)) | (show (Addr.add _ _).block ≠ _; rw [add_block]; exact Nat.ne_of_lt (Nat.lt_of_lt_of_le (by have := World.block_lt_of_cell? _ _ hw467_0; first | rwa [add_block] at this | exact this) GW480.out)) | (dsimp only; exact Nat.ne_of_lt (Nat.lt_of_lt_of_le (by have := World.block_lt_of_cell? _ _ hw467_0; first | rwa [add_block] at this | exact this) GW480.out))) _).trans (((cell_far (p := ⟨gb480, _, none⟩) (by first | exact Nat.ne_of_lt (Nat.lt_of_lt_of_le (by have := World.block_lt_of_cell? _ _ hw467_0; first | rwa [add_block] at this | exact this) GW480.out) | (rw [add_block]; exact Nat.ne_of_lt (Nat.lt_of_lt_of_le (by have := World.block_lt_of_cell? _ _ hw467_0; first | rwa [add_block] at this | exact this) GW480.out)) | (show (Addr.add _ _).block ≠ _; rw [add_block]; exact Nat.ne_of_lt (Nat.lt_of_lt_of_le (by have := World.block_lt_of_cell? _ _ hw467_0; first | rwa [add_block] at this | exact this) GW480.out)) | (dsimp only; exact Nat.ne_of_lt (Nat.lt_of_lt_of_le (by have := World.block_lt_of_cell? _ _ hw467_0; first | rwa [add_block] at this | exact this) GW480.out))) _).trans (hHeld.2.2.2.2.2.2.1)))))))), ((cell_far (p := ⟨gb480, _, none⟩) (by first | exact Nat.ne_of_lt (Nat.lt_of_lt_of_le (by have := World.block_lt_of_cell? _ _ hw467_1; first | rwa [add_block] at this | exact this) GW480.out) | (rw [add_block]; exact Nat.ne_of_lt (Nat.lt_of_lt_of_le (by have := World.block_lt_of_cell? _ _ hw467_1; first | rwa [add_block] at this | exact this) GW480.out)) | (show (Addr.add _ _).block ≠ _; rw [add_block]; exact Nat.ne_of_lt (Nat.lt_of_lt_of_le (by have := World.block_lt_of_cell? _ _ hw467_1; first | rwa [add_block] at this | exact this) GW480.out)) | (dsimp only; exact Nat.ne_of_lt (Nat.lt_of_lt_of_le (by have := World.block_lt_of_cell? _ _ hw467_1; first | rwa [add_block] at this | exact this) GW480.out))) _).trans (((cell_far (p := ⟨gb480, _, none⟩) (by first | exact Nat.ne_of_lt (Nat.lt_of_lt_of_le (by have := World.block_lt_of_cell? _ _ hw467_1; first | rwa [add_block] at this | exact this) GW480.out) | (rw [add_block]; exact Nat.ne_of_lt (Nat.lt_of_lt_of_le (by have := World.block_lt_of_cell? _ _ hw467_1; first | rwa [add_block] at this | exact this) GW480.out)) | (show (Addr.add _ _).block ≠ _; rw [add_block]; exact Nat.ne_of_lt (Nat.lt_of_lt_of_le (by have := World.block_lt_of_cell? _ _ hw467_1; first | rwa [add_block] at this | exact this) GW480.out)) | (dsimp only; exact Nat.ne_of_lt (Nat.lt_of_lt_of_le (by have := World.block_lt_of_cell? _ _ hw467_1; first | rwa [add_block] at this | exact this) GW480.out))) _).trans (((cell_far (p := ⟨gb480, _, none⟩) (by first | exact Nat.ne_of_lt (Nat.lt_of_lt_of_le (by have := World.block_lt_of_cell? _ _ hw467_1; first | rwa [add_block] at this | exact this) GW480.out) | (rw [add_block]; exact Nat.ne_of_lt (Nat.lt_of_lt_of_le (by have := World.block_lt_of_cell? _ _ hw467_1; first | rwa [add_block] at this | exact this) GW480.out)) | (show (Addr.add _ _).block ≠ _; rw [add_block]; exact Nat.ne_of_lt (Nat.lt_of_lt_of_le (by have := World.block_lt_of_cell? _ _ hw467_1; first | rwa [add_block] at this | exact this) GW480.out)) | (dsimp only; exact Nat.ne_of_lt (Nat.lt_of_lt_of_le (by have := World.block_lt_of_cell? _ _ hw467_1; first | rwa [add_block] at this | exact this) GW480.out))) _).trans (((cell_far (p := ⟨gb480, _, none⟩) (by first | exact Nat.ne_of_lt (Nat.lt_of_lt_of_le (by have := World.block_lt_of_cell? _ _ hw467_1; first | rwa [add_block] at this | exact this) GW480.out) | (rw [add_block]; exact Nat.ne_of_lt (Nat.lt_of_lt_of_le (by have := World.block_lt_of_cell? _ _ hw467_1; first | rwa [add_block] at this | exact this) GW480.out)) | (show (Addr.add _ _).block ≠ _; rw [add_block]; exact Nat.ne_of_lt (Nat.lt_of_lt_of_le (by have := World.block_lt_of_cell? _ _ hw467_1; first | rwa [add_block] at this | exact this) GW480.out)) | (dsimp only; exact Nat.ne_of_lt (Nat.lt_of_lt_of_le (by have := World.block_lt_of_cell? _ _ hw467_1; first | rwa [add_block] at this | exact this) GW480.out))) _).trans (hHeld.2.2.2.2.2.2.2))))))))⟩ (fun hHeld => ?_)
       clear hK K
       refine pure_ (i := 18) (N := some 9) (v := ?_) (a' := ?_) #[T29,T29,T29,T29,T29,T29,T29,T29,T29,T29,T29,T29,T29,T29,T29,T29,T29,T29,T29] rfl rfl (any_of HT_.out (by kernel_rfl)) (fun _ _ _ h => h) (Or.inl ⟨by rfl, ?_⟩) ?_ ?_
       rotate_left
       ·intro w'
        go_simp
        with_reducible rfl
       rotate_left
       ·simp only [Act.put, List.setIfInBounds_toArray, List.set_cons_zero, List.set_cons_succ, i64_w, i32_w]
        rfl
       refine done_ (done_of HT_.out (by kernel_rfl)) ?_
       have hnb44 := NB480_464.out
       have hnc44 := NB464_480.out
       have hnb45 := NB480_465.out
       have hnc45 := NB465_480.out
       have hcz46_0 : w37.cell? ⟨gb480, 0, none⟩ = some (.slice none 0 0) := (blk_cell BK480.out 0).trans rfl
       have hcz46_1 : w37.cell? ⟨gb480, 1, none⟩ = some (.slice none 0 0) := (blk_cell BK480.out 1).trans rfl
       have hcz46_2 : w37.cell? ⟨gb480, 2, none⟩ = some (.int .i64 0) := (blk_cell BK480.out 2).trans rfl
       have hcz46_3 : w37.cell? ⟨gb480, 3, none⟩ = some (.bool false) := (blk_cell BK480.out 3).trans rfl
       have hfz46_0 := blk_frozen BK480.out 0
       have hfz46_1 := blk_frozen BK480.out 1
       have hfz46_2 := blk_frozen BK480.out 2
       have hfz46_3 := blk_frozen BK480.out 3
       have hnb47 := NB464_465.out
       have hnc47 := NB465_464.out
       have hcz48_0 : w37.cell? ⟨gb464, 0, none⟩ = some (.slice Ao30 x465000_1.length co30) := (blk_cell BK464.out 0).trans rfl
       have hcz48_1 : w37.cell? ⟨gb464, 1, none⟩ = some (.slice Ao31 x465001_1.length co31) := (blk_cell BK464.out 1).trans rfl
       have hcz48_2 : w37.cell? ⟨gb464, 2, none⟩ = some (.int .i64 x465002_1) := (blk_cell BK464.out 2).trans rfl
       have hcz48_3 : w37.cell? ⟨gb464, 3, none⟩ = some (.bool x465003_1) := (blk_cell BK464.out 3).trans rfl
       have hfz48_0 := blk_frozen BK464.out 0
       have hfz48_1 := blk_frozen BK464.out 1
       have hfz48_2 := blk_frozen BK464.out 2
       have hfz48_3 := blk_frozen BK464.out 3
       try go_wp2
       go_roundg k1
       case measure => have := HK1.out; omega
       case rel => exact ⟨(wrap64 (x7_1 + 1)), (t471), (t474), (t477), (t478), (x466002_1), (x466003_1), (.slice Ao38 t471.length co38), (.slice Ao40 t474.length co40), (by first | rfl | (simp; done) | (simp [*]; done)), H', ⟨by have := HK1.out; omega⟩, ⟨Kd.V_mono (Kd.S_V (by (with_reducible repeat (first | apply Kd.S_alloc | apply Kd.S_drewN | apply Kd.S_drew)); exact (Kd.S_far (p := ⟨gb464, 3, none⟩) (Kd.S_far (p := ⟨gb464, 2, none⟩) (Kd.S_far (p := ⟨gb464, 1, none⟩) (Kd.S_far (p := ⟨gb464, 0, none⟩) (Kd.S_far (p := ⟨gb480, 3, none⟩) (Kd.S_far (p := ⟨gb480, 2, none⟩) (Kd.S_far (p := ⟨gb480, 1, none⟩) (Kd.S_far (p := ⟨gb480, 0, none⟩) (Kd.S_types (Kd.S_types (Kd.S_types (Kd.S_types HO473.out BK464.out (by decide)) BK465.out (by decide)) BK480.out (by decide)) BK464.out (by decide)) (fun _ hk => hk.1.2) (.slice Ao38 t471.length co38)) (fun _ hk => hk.1.2) (.slice Ao40 t474.length co40)) (fun _ hk => hk.1.2) (.int .i64 t477)) (fun _ hk => hk.1.2) (.bool t478)) (fun _ hk => hk.2) (.slice Ao38 t471.length co38)) (fun _ hk => hk.2) (.slice Ao40 t474.length co40)) (fun _ hk => hk.2) (.int .i64 t477)) (fun _ hk => hk.2) (.bool t478)))) (fun k_ hk_ => by have hk := (And.intro hk_.1.1.1.1.1 (And.intro hk_.1.1.1.2 hk_.1.1.2)); first | exact ⟨(.inr (hk.1)), hk.2⟩ | exact (.inr (hk)))⟩, ⟨Kd.V_mono (Kd.S_V (by (with_reducible repeat (first | apply Kd.S_alloc | apply Kd.S_drewN | apply Kd.S_drew)); exact (Kd.S_far (p := ⟨gb464, 3, none⟩) (Kd.S_far (p := ⟨gb464, 2, none⟩) (Kd.S_far (p := ⟨gb464, 1, none⟩) (Kd.S_far (p := ⟨gb464, 0, none⟩) (Kd.S_far (p := ⟨gb480, 3, none⟩) (Kd.S_far (p := ⟨gb480, 2, none⟩) (Kd.S_far (p := ⟨gb480, 1, none⟩) (Kd.S_far (p := ⟨gb480, 0, none⟩) (Kd.S_types (Kd.S_types (Kd.S_types (Kd.S_types HO476.out BK464.out (by decide)) BK465.out (by decide)) BK480.out (by decide)) BK464.out (by decide)) (fun _ hk => hk.1.2) (.slice Ao38 t471.length co38)) (fun _ hk => hk.1.2) (.slice Ao40 t474.length co40)) (fun _ hk => hk.1.2) (.int .i64 t477)) (fun _ hk => hk.1.2) (.bool t478)) (fun _ hk => hk.2) (.slice Ao38 t471.length co38)) (fun _ hk => hk.2) (.slice Ao40 t474.length co40)) (fun _ hk => hk.2) (.int .i64 t477)) (fun _ hk => hk.2) (.bool t478)))) (fun k_ hk_ => by have hk := (And.intro hk_.1.1.1.1.1 (And.intro hk_.1.1.1.2 hk_.1.1.2)); first | exact ⟨(.inr (hk.1)), hk.2⟩ | exact (.inr (hk)))⟩, ⟨by (with_reducible repeat (first | refine blk_drewN ?_ _ | refine blk_drew ?_ | refine blk_alloc ?_ _)); refine blk_put (cs := #[.slice Ao38 t471.length co38, .slice Ao40 t474.length co40, .int .i64 t477, .bool x465003_1]) ?_ 3 _ rfl; (with_reducible repeat (first | refine blk_drewN ?_ _ | refine blk_drew ?_ | refine blk_alloc ?_ _)); refine blk_put (cs := #[.slice Ao38 t471.length co38, .slice Ao40 t474.length co40, .int .i64 x465002_1, .bool x465003_1]) ?_ 2 _ rfl; (with_reducible repeat (first | refine blk_drewN ?_ _ | refine blk_drew ?_ | refine blk_alloc ?_ _)); refine blk_put (cs := #[.slice Ao38 t471.length co38, .slice Ao31 x465001_1.length co31, .int .i64 x465002_1, .bool x465003_1]) ?_ 1 _ rfl; (with_reducible repeat (first | refine blk_drewN ?_ _ | refine blk_drew ?_ | refine blk_alloc ?_ _)); refine blk_put (cs := #[.slice Ao30 x465000_1.length co30, .slice Ao31 x465001_1.length co31, .int .i64 x465002_1, .bool x465003_1]) ?_ 0 _ rfl; (with_reducible repeat (first | refine blk_drewN ?_ _ | refine blk_drew ?_ | refine blk_alloc ?_ _)); refine blk_far ?_ NB464_480.out _; (with_reducible repeat (first | refine blk_drewN ?_ _ | refine blk_drew ?_ | refine blk_alloc ?_ _)); refine blk_far ?_ NB464_480.out _; (with_reducible repeat (first | refine blk_drewN ?_ _ | refine blk_drew ?_ | refine blk_alloc ?_ _)); refine blk_far ?_ NB464_480.out _; (with_reducible repeat (first | refine blk_drewN ?_ _ | refine blk_drew ?_ | refine blk_alloc ?_ _)); refine blk_far ?_ NB464_480.out _; (with_reducible repeat (first | refine blk_drewN ?_ _ | refine blk_drew ?_ | refine blk_alloc ?_ _)); exact BK464.out⟩, ⟨by (with_reducible repeat (first | refine blk_drewN ?_ _ | refine blk_drew ?_ | refine blk_alloc ?_ _)); refine blk_far ?_ NB465_464.out _; (with_reducible repeat (first | refine blk_drewN ?_ _ | refine blk_drew ?_ | refine blk_alloc ?_ _)); refine blk_far ?_ NB465_464.out _; (with_reducible repeat (first | refine blk_drewN ?_ _ | refine blk_drew ?_ | refine blk_alloc ?_ _)); refine blk_far ?_ NB465_464.out _; (with_reducible repeat (first | refine blk_drewN ?_ _ | refine blk_drew ?_ | refine blk_alloc ?_ _)); refine blk_far ?_ NB465_464.out _; (with_reducible repeat (first | refine blk_drewN ?_ _ | refine blk_drew ?_ | refine blk_alloc ?_ _)); refine blk_far ?_ NB465_480.out _; (with_reducible repeat (first | refine blk_drewN ?_ _ | refine blk_drew ?_ | refine blk_alloc ?_ _)); refine blk_far ?_ NB465_480.out _; (with_reducible repeat (first | refine blk_drewN ?_ _ | refine blk_drew ?_ | refine blk_alloc ?_ _)); refine blk_far ?_ NB465_480.out _; (with_reducible repeat (first | refine blk_drewN ?_ _ | refine blk_drew ?_ | refine blk_alloc ?_ _)); refine blk_far ?_ NB465_480.out _; (with_reducible repeat (first | refine blk_drewN ?_ _ | refine blk_drew ?_ | refine blk_alloc ?_ _)); exact BK465.out⟩, ⟨by repeat (first | (with_reducible first | exact HB.out | apply below_alloc | apply pw_below_drewN | apply below_drew1 | refine below_set ?_ GE464.out | refine below_set ?_ GE465.out | refine below_set ?_ GE480.out) | exact HB.out)⟩⟩
      ·rw [if_neg c29] at H
       have c29b0 : (t479 == 0) = false := beq_eq_false_iff_ne.mpr c29
       have c29b1 : (t479 != 0) = true := bne_iff_ne.mpr c29
       have H' := Aside0.mk H
       clear H
       obtain ⟨Ao49, co49, eo49⟩ := Kd.V_slice HO_465000.out
       subst eo49
       obtain ⟨Ao50, co50, eo50⟩ := Kd.V_slice HO_465001.out
       subst eo50
       try go_wp2
       have n0_ := Aside0.mk (Kd.V_drew HO_465000.out)
       have n1_ := Aside0.mk (Kd.V_drew HO_465001.out)
       have n2_ := Aside0.mk (blk_drew BK464.out)
       have n3_ := Aside0.mk (blk_drew BK465.out)
       have n4_ := Aside0.mk (below_drew1 HB.out)
       clear HO_465000
       clear HO_465001
       clear BK464
       clear BK465
       clear HB
       have HO_465000 := n0_
       have HO_465001 := n1_
       have BK464 := n2_
       have BK465 := n3_
       have HB := n4_
       clear n0_ n1_ n2_ n3_ n4_
       have p466 : 0 ≤ (x7_1 : Int) := of_decide_eq_true (by first | (with_reducible assumption) | assumption)
       have q466 : x7_1 < (l1.length : Int) := of_decide_eq_true (by first | (with_reducible assumption) | assumption)
       obtain ⟨ad466, e466, hx466_0, hx466_1⟩ := at_T55 HR1.out x7_1 p466 q466
       have hw466_1 := hx466_1
       have hw466_0 := hx466_0
       cases e466
       replace hx466_0 := (HB.out.cell (World.block_lt_of_cell? w _ hx466_0)).trans hx466_0
       replace hx466_1 := (HB.out.cell (World.block_lt_of_cell? w _ hx466_1)).trans hx466_1
       replace p466 := eq_true p466
       replace q466 := eq_true q466
       have p467 : 0 ≤ (x7_1 : Int) := of_decide_eq_true (by first | (with_reducible assumption) | assumption)
       have q467 : x7_1 < (l1.length : Int) := of_decide_eq_true (by first | (with_reducible assumption) | assumption)
       obtain ⟨ad467, e467, hx467_0, hx467_1⟩ := at_T55 HR1.out x7_1 p467 q467
       have hw467_1 := hx467_1
       have hw467_0 := hx467_0
       obtain rfl : ad466 = ad467 := (by injection e467)
       replace hx467_0 := (HB.out.cell (World.block_lt_of_cell? w _ hx467_0)).trans hx467_0
       replace hx467_1 := (HB.out.cell (World.block_lt_of_cell? w _ hx467_1)).trans hx467_1
       replace p467 := eq_true p467
       replace q467 := eq_true q467
       refine start_ (n := 19) (S := fun w' => w'.cell? ⟨gb464, 0, none⟩ = some (.slice Ao49 x465000_1.length co49) ∧ w'.cell? ⟨gb464, 1, none⟩ = some (.slice Ao50 x465001_1.length co50) ∧ w'.cell? ⟨gb464, 2, none⟩ = some (.int .i64 x465002_1) ∧ w'.cell? ⟨gb464, 3, none⟩ = some (.bool x465003_1) ∧ w'.cell? (ad466.add ((x7_1).toNat * 2)) = some (.int .i64 ((rd_T55 l1 x7_1).f0)) ∧ w'.cell? ⟨(ad466.add ((x7_1).toNat * 2)).block, (ad466.add ((x7_1).toNat * 2)).off + 1, none⟩ = some (.int .u8 ((rd_T55 l1 x7_1).f1)) ∧ w'.cell? (ad466.add ((x7_1).toNat * 2)) = some (.int .i64 ((rd_T55 l1 x7_1).f0)) ∧ w'.cell? ⟨(ad466.add ((x7_1).toNat * 2)).block, (ad466.add ((x7_1).toNat * 2)).off + 1, none⟩ = some (.int .u8 ((rd_T55 l1 x7_1).f1))) (ds := []) #[F29,F29,F29,F29,F29,F29,F29,F29,F29,F29,F29,F29,F29,F29,F29,F29,F29,F29,F29] (by kernel_rfl) rfl rfl ⟨(blk_cell BK464.out 0).trans rfl, (blk_cell BK464.out 1).trans rfl, (blk_cell BK464.out 2).trans rfl, (blk_cell BK464.out 3).trans rfl, ((HB.out.cell (World.block_lt_of_cell? w _ hw466_0)).trans hw466_0), ((HB.out.cell (World.block_lt_of_cell? w _ hw466_1)).trans hw466_1), ((HB.out.cell (World.block_lt_of_cell? w _ hw467_0)).trans hw467_0), ((HB.out.cell (World.block_lt_of_cell? w _ hw467_1)).trans hw467_1)⟩ (fun hHeld => ?_); refine with_tabW mapsheetslaw24_written.tab4 mapsheetslaw24_written.bits4 (fun HT_ HW_ => ?_)
       generalize wr.drew = w51 at HO_465000 HO_465001 BK464 BK465 HB hx466_0 hx466_1 hx467_0 hx467_1 hHeld ⊢
       refine pure_ (i := 1) (N := some 18) (v := ?_) (a' := ?_) #[F29,T29,F29,F29,F29,F29,F29,F29,F29,F29,F29,F29,F29,F29,F29,F29,F29,F29,F29] rfl rfl (any_of HT_.out (by kernel_rfl)) (fun _ _ _ h => h) (Or.inl ⟨by rfl, ?_⟩) ?_ ?_
       rotate_left
       ·intro w'
        go_simp
        with_reducible rfl
       rotate_left
       ·simp only [Act.put, List.setIfInBounds_toArray, List.set_cons_zero, List.set_cons_succ, i64_w, i32_w]
        rfl
       refine pure_ (i := 2) (N := some 19) (v := ?_) (a' := ?_) #[F29,T29,T29,F29,F29,F29,F29,F29,F29,F29,F29,F29,F29,F29,F29,F29,F29,F29,F29] rfl rfl (any_of HT_.out (by kernel_rfl)) (fun _ _ _ h => h) (Or.inl ⟨by rfl, ?_⟩) ?_ ?_
       rotate_left
       ·intro w'
        go_simp
        with_reducible rfl
       rotate_left
       ·simp only [Act.put, List.setIfInBounds_toArray, List.set_cons_zero, List.set_cons_succ, i64_w, i32_w]
        rfl
       refine pure_ (i := 3) (N := some 20) (v := ?_) (a' := ?_) #[F29,T29,T29,T29,F29,F29,F29,F29,F29,F29,F29,F29,F29,F29,F29,F29,F29,F29,F29] rfl rfl (any_of HT_.out (by kernel_rfl)) (fun _ _ _ h => h) (Or.inl ⟨by rfl, ?_⟩) ?_ ?_
       rotate_left
       ·intro w'
        go_simp
        with_reducible rfl
       rotate_left
       ·simp only [Act.put, List.setIfInBounds_toArray, List.set_cons_zero, List.set_cons_succ, i64_w, i32_w]
        rfl
       refine pure_ (i := 4) (N := some 21) (v := ?_) (a' := ?_) #[F29,T29,T29,T29,T29,F29,F29,F29,F29,F29,F29,F29,F29,F29,F29,F29,F29,F29,F29] rfl rfl (any_of HT_.out (by kernel_rfl)) (fun _ _ _ h => h) (Or.inl ⟨by rfl, ?_⟩) ?_ ?_
       rotate_left
       ·intro w'
        go_simp
        with_reducible rfl
       rotate_left
       ·simp only [Act.put, List.setIfInBounds_toArray, List.set_cons_zero, List.set_cons_succ, i64_w, i32_w]
        rfl
       refine pure_ (i := 6) (N := some 23) (v := ?_) (a' := ?_) #[F29,T29,T29,T29,T29,F29,T29,F29,F29,F29,F29,F29,F29,F29,F29,F29,F29,F29,F29] rfl rfl (any_of HT_.out (by kernel_rfl)) (fun _ _ _ h => h) (Or.inl ⟨by rfl, ?_⟩) ?_ ?_
       rotate_left
       ·intro w'
        go_simp
        with_reducible rfl
       rotate_left
       ·simp only [Act.put, List.setIfInBounds_toArray, List.set_cons_zero, List.set_cons_succ, i64_w, i32_w]
        rfl
       refine pure_ (i := 7) (N := some 24) (v := ?_) (a' := ?_) #[F29,T29,T29,T29,T29,F29,T29,T29,F29,F29,F29,F29,F29,F29,F29,F29,F29,F29,F29] rfl rfl (any_of HT_.out (by kernel_rfl)) (fun _ _ _ h => h) (Or.inl ⟨by rfl, ?_⟩) ?_ ?_
       rotate_left
       ·intro w'
        go_simp
        with_reducible rfl
       rotate_left
       ·simp only [Act.put, List.setIfInBounds_toArray, List.set_cons_zero, List.set_cons_succ, i64_w, i32_w]
        rfl
       refine pure_ (i := 8) (N := some 25) (v := ?_) (a' := ?_) #[F29,T29,T29,T29,T29,F29,T29,T29,T29,F29,F29,F29,F29,F29,F29,F29,F29,F29,F29] rfl rfl (any_of HT_.out (by kernel_rfl)) (fun _ _ _ h => h) (Or.inl ⟨by rfl, ?_⟩) ?_ ?_
       rotate_left
       ·intro w'
        go_simp
        with_reducible rfl
       rotate_left
       ·simp only [Act.put, List.setIfInBounds_toArray, List.set_cons_zero, List.set_cons_succ, i64_w, i32_w]
        rfl
       refine pure_ (i := 9) (N := some 26) (v := ?_) (a' := ?_) #[F29,T29,T29,T29,T29,F29,T29,T29,T29,T29,F29,F29,F29,F29,F29,F29,F29,F29,F29] rfl rfl (any_of HT_.out (by kernel_rfl)) (fun _ _ _ h => h) (Or.inl ⟨by rfl, ?_⟩) ?_ ?_
       rotate_left
       ·intro w'
        go_simp
        with_reducible rfl
       rotate_left
       ·simp only [Act.put, List.setIfInBounds_toArray, List.set_cons_zero, List.set_cons_succ, i64_w, i32_w]
        rfl
       refine take_ (i := 0) (N := some 17) (v := ?_) (a' := ?_) #[T29,T29,T29,T29,T29,F29,T29,T29,T29,T29,F29,F29,F29,F29,F29,F29,F29,F29,F29] rfl rfl (take_ofW HT_.out HW_.out (by kernel_rfl)) (fun _ _ _ h => h) (Or.inl ⟨by rfl, ?_⟩) hHeld ?_ ?_
       rotate_left
       ·rintro w' ⟨s0, s1, s2, s3, s4, s5, s6, s7⟩
        go_simp
        with_reducible rfl
       rotate_left
       ·simp only [Act.put, List.setIfInBounds_toArray, List.set_cons_zero, List.set_cons_succ, i64_w, i32_w]
        rfl
       refine take_ (i := 5) (N := some 22) (v := ?_) (a' := ?_) #[T29,T29,T29,T29,T29,T29,T29,T29,T29,T29,F29,F29,F29,F29,F29,F29,F29,F29,F29] rfl rfl (take_ofW HT_.out HW_.out (by kernel_rfl)) (fun _ _ _ h => h) (Or.inl ⟨by rfl, ?_⟩) hHeld ?_ ?_
       rotate_left
       ·rintro w' ⟨s0, s1, s2, s3, s4, s5, s6, s7⟩
        go_simp
        with_reducible rfl
       rotate_left
       ·simp only [Act.put, List.setIfInBounds_toArray, List.set_cons_zero, List.set_cons_succ, i64_w, i32_w]
        rfl
       refine take_ (i := 10) (N := some 27) (v := ?_) (a' := ?_) #[T29,T29,T29,T29,T29,T29,T29,T29,T29,T29,T29,F29,F29,F29,F29,F29,F29,F29,F29] rfl rfl (take_ofW HT_.out HW_.out (by kernel_rfl)) (fun _ _ _ h => h) (Or.inl ⟨by rfl, ?_⟩) hHeld ?_ ?_
       rotate_left
       ·rintro w' ⟨s0, s1, s2, s3, s4, s5, s6, s7⟩
        go_simp
        with_reducible rfl
       rotate_left
       ·simp only [Act.put, List.setIfInBounds_toArray, List.set_cons_zero, List.set_cons_succ, i64_w, i32_w]
        rfl
       refine join_ (σ := Value × Value × Value × Nat) 2 #[T29,T29,T29,T29,T29,T29,T29,T29,T29,T29,T29,T29,T29,T29,T29,T29,T29,F29,F29] (fun s_ => [(28, s_.1), (29, .tuple #[.agg #[s_.2.1, s_.2.2.1, .int .i64 t477, .bool t478], .int .i64 t479]), (8, .pointer (some ⟨s_.2.2.2, 0, none⟩)), (16, .tuple #[.agg #[s_.2.1, s_.2.2.1, .int .i64 t477, .bool t478], .int .i64 t479]), (30, .agg #[s_.2.1, s_.2.2.1, .int .i64 t477, .bool t478]), (31, .int .i64 t479)]) (fun s_ w' => (w'.cell? ⟨gb464, 0, none⟩ = some (.slice Ao49 x465000_1.length co49) ∧ w'.cell? ⟨gb464, 1, none⟩ = some (.slice Ao50 x465001_1.length co50) ∧ w'.cell? ⟨gb464, 2, none⟩ = some (.int .i64 x465002_1) ∧ w'.cell? ⟨gb464, 3, none⟩ = some (.bool x465003_1) ∧ w'.cell? (ad466.add ((x7_1).toNat * 2)) = some (.int .i64 ((rd_T55 l1 x7_1).f0)) ∧ w'.cell? ⟨(ad466.add ((x7_1).toNat * 2)).block, (ad466.add ((x7_1).toNat * 2)).off + 1, none⟩ = some (.int .u8 ((rd_T55 l1 x7_1).f1)) ∧ w'.cell? (ad466.add ((x7_1).toNat * 2)) = some (.int .i64 ((rd_T55 l1 x7_1).f0)) ∧ w'.cell? ⟨(ad466.add ((x7_1).toNat * 2)).block, (ad466.add ((x7_1).toNat * 2)).off + 1, none⟩ = some (.int .u8 ((rd_T55 l1 x7_1).f1))) ∧ (Kd.R (Kd.int .u8) 5 w' w.heap.size (fun k_ => (w.heap.size ≤ k_)) s_.1 t468) ∧ (Kd.S (Kd.slice 5 (Kd.int .u8)) 26 w' w.heap.size (fun k_ => (w.heap.size ≤ k_) ∧ some k_ ≠ (s_.1 : Value).ownBlock) s_.2.1 t471) ∧ (Kd.S k53 53 w' w.heap.size (fun k_ => (w.heap.size ≤ k_) ∧ some k_ ≠ (s_.1 : Value).ownBlock) s_.2.2.1 t474) ∧ (Kd.V (Kd.slice 5 (Kd.int .u8)) 26 w' w.heap.size (fun k_ => ((P0_0_ k_ ∨ P0_1_ k_) ∨ w.heap.size ≤ k_) ∧ some k_ ≠ (s_.1 : Value).ownBlock ∧ some k_ ≠ (s_.2.1 : Value).ownBlock ∧ some k_ ≠ (s_.2.2.1 : Value).ownBlock ∧ k_ ≠ gb464 ∧ k_ ≠ gb465 ∧ k_ ≠ s_.2.2.2) (.slice Ao49 x465000_1.length co49) x465000_1) ∧ (Kd.V k53 53 w' w.heap.size (fun k_ => ((P0_0_ k_ ∨ P0_1_ k_) ∨ w.heap.size ≤ k_) ∧ some k_ ≠ (s_.1 : Value).ownBlock ∧ some k_ ≠ (s_.2.1 : Value).ownBlock ∧ some k_ ≠ (s_.2.2.1 : Value).ownBlock ∧ k_ ≠ gb464 ∧ k_ ≠ gb465 ∧ k_ ≠ s_.2.2.2) (.slice Ao50 x465001_1.length co50) x465001_1) ∧ (w'.heap[gb464]? = some (.cells #[.slice Ao49 x465000_1.length co49, .slice Ao50 x465001_1.length co50, .int .i64 x465002_1, .bool x465003_1] 25 (0, 0))) ∧ (w'.heap[gb465]? = some (.cells #[.slice none 0 0, .slice none 0 0, .int .i64 x466002_1, .bool x466003_1] 25 (0, 0))) ∧ (w'.heap[s_.2.2.2]? = some (.cells #[.slice none 0 0, .slice none 0 0, .int .i64 0, .bool false] 25 (0, 0))) ∧ (w.heap.size ≤ s_.2.2.2) ∧ (w.heap.size ≤ s_.2.2.2) ∧ (gb464 ≠ s_.2.2.2) ∧ (s_.2.2.2 ≠ gb464) ∧ (gb465 ≠ s_.2.2.2) ∧ (s_.2.2.2 ≠ gb465) ∧ (Below w.heap.size w w')) ?_ ?_
       rotate_left
       ·intro hCont
        refine two_ (i := 11) (j := 16) (Ni := some 28) (Nj := some 8) #[T29,T29,T29,T29,T29,T29,T29,T29,T29,T29,T29,T29,F29,F29,F29,F29,F29,F29,F29] #[T29,T29,T29,T29,T29,T29,T29,T29,T29,T29,T29,F29,F29,F29,F29,F29,T29,F29,F29] rfl rfl rfl rfl (two_of HT_.out (by kernel_rfl)) (by decide) (by decide) (fun K hK => ?_) (fun K hK => ?_)
        ·skip
         refine goes_ Try.func31 (by kernel_rfl) rfl #[.int .u8 ((rd_T55 l1 x7_1).f1)] (by rfl) rfl rfl (by (try simp only [List.map_toArray, List.map_cons, List.map_nil]); first | done | rfl | (simp only [List.length_drop, List.length_take]; rfl)) ?_
         with_reducible refine (mapsheetslaw24_block.calls k1 ((rd_T55 l1 x7_1).f1) t468 _ A7.out).mono ?_
         rintro e w52 ⟨v469, rfl, ho0, hb⟩
         refine ⟨_, rfl, ?_⟩
         have n0_ := Aside0.mk (Kd.V_elder' (by (with_reducible repeat (first | apply Kd.V_alloc | apply Kd.V_drewN | apply Kd.V_drew)); exact HO_465000.out) (Kd.R_base ho0) hb)
         have n1_ := Aside0.mk (Kd.V_elder' (by (with_reducible repeat (first | apply Kd.V_alloc | apply Kd.V_drewN | apply Kd.V_drew)); exact HO_465001.out) (Kd.R_base ho0) hb)
         have n2_ := Aside0.mk (Kd.R_lower (Kd.R_newM (M := fun k_ => (w.heap.size ≤ k_)) ho0 (below_size (by repeat (first | (with_reducible first | exact HB.out | apply below_alloc | apply pw_below_drewN | apply below_drew1 | refine below_set ?_ GE464.out | refine below_set ?_ GE465.out) | exact HB.out))) (fun k_ h_ => h_)) (below_size (by repeat (first | (with_reducible first | exact HB.out | apply below_alloc | apply pw_below_drewN | apply below_drew1 | refine below_set ?_ GE464.out | refine below_set ?_ GE465.out) | exact HB.out))))
         have n3_ := Aside0.mk (blk_below (g := gb464) (o := .cells #[.slice Ao49 x465000_1.length co49, .slice Ao50 x465001_1.length co50, .int .i64 x465002_1, .bool x465003_1] 25 (0, 0)) (by (with_reducible repeat (first | refine blk_drewN ?_ _ | refine blk_drew ?_ | refine blk_alloc ?_ _)); exact BK464.out) hb)
         have n4_ := Aside0.mk (blk_below (g := gb465) (o := .cells #[.slice none 0 0, .slice none 0 0, .int .i64 x466002_1, .bool x466003_1] 25 (0, 0)) (by (with_reducible repeat (first | refine blk_drewN ?_ _ | refine blk_drew ?_ | refine blk_alloc ?_ _)); exact BK465.out) hb)
         have n5_ := Aside0.mk (below_step (by repeat (first | (with_reducible first | exact HB.out | apply below_alloc | apply pw_below_drewN | apply below_drew1 | refine below_set ?_ GE464.out | refine below_set ?_ GE465.out) | exact HB.out)) hb)
         clear HO_465000
         clear HO_465001
         clear BK464
         clear BK465
         clear HB
         have HO_465000 := n0_
         have HO_465001 := n1_
         have HO470 := n2_
         have BK464 := n3_
         have BK465 := n4_
         have HB := n5_
         clear n0_ n1_ n2_ n3_ n4_ n5_
         (try clear hb)
         (try clear hb2)
         (try clear hk)
         (try clear hi)
         (try clear ho0)
         obtain ⟨Ao53, co53, eo53⟩ := Kd.R_slice HO470.out
         (first | subst eo53 | (injection eo53 with f1_ f2_ f3_; have f4_ := f1_.symm; have f5_ := f3_.symm; clear f1_ f2_ f3_; subst f4_; subst f5_))
         refine hK.out _ _ ⟨(blk_cell BK464.out 0).trans rfl, (blk_cell BK464.out 1).trans rfl, (blk_cell BK464.out 2).trans rfl, (blk_cell BK464.out 3).trans rfl, ((HB.out.cell (World.block_lt_of_cell? w _ hw466_0)).trans hw466_0), ((HB.out.cell (World.block_lt_of_cell? w _ hw466_1)).trans hw466_1), ((HB.out.cell (World.block_lt_of_cell? w _ hw467_0)).trans hw467_0), ((HB.out.cell (World.block_lt_of_cell? w _ hw467_1)).trans hw467_1)⟩ (fun hHeld => ?_)
         clear hK K
         refine norm_ (a' := ?_) ?_ ?_
         rotate_left
         ·show Act.put _ (some 28) _ = _
          simp only [Act.put, List.setIfInBounds_toArray, List.set_cons_zero, List.set_cons_succ, i64_w, i32_w]
          rfl
         refine two_ (i := 12) (j := 16) (Ni := some 29) (Nj := some 8) #[T29,T29,T29,T29,T29,T29,T29,T29,T29,T29,T29,T29,T29,F29,F29,F29,F29,F29,F29] #[T29,T29,T29,T29,T29,T29,T29,T29,T29,T29,T29,T29,F29,F29,F29,F29,T29,F29,F29] rfl rfl rfl rfl (two_of HT_.out (by kernel_rfl)) (by decide) (by decide) (fun K hK => ?_) (fun K hK => ?_)
         ·skip
          refine goes_ Try.func13 (by kernel_rfl) rfl #[.agg #[.slice Ao49 x465000_1.length co49, .slice Ao50 x465001_1.length co50, .int .i64 x465002_1, .bool x465003_1], .int .i64 ((rd_T55 l1 x7_1).f0), .slice Ao53 t468.length co53] (by rfl) rfl rfl (by (try simp only [List.map_toArray, List.map_cons, List.map_nil]); first | done | rfl | (simp only [List.length_drop, List.length_take]; rfl)) ?_
          with_reducible refine (device_Write.calls k1 _ _ x465000_1 _ _ x465001_1 x465002_1 x465003_1 ((rd_T55 l1 x7_1).f0) _ _ t468 t471 t474 t477 t478 t479 _ ?side1 ?side2 ?side3 ?side4 ?side5 ?side6 A8.out).mono ?_
          (case side1 => repeat (first | exact (Kd.V_reads' HO_465000.out).2.2 | (with_reducible refine Kd.C_alloc ?_ _) | (with_reducible refine Kd.C_drewN ?_ _) | (with_reducible refine Kd.C_drew ?_)))
          (case side2 => exact (Kd.V_reads' HO_465000.out).2.1)
          (case side3 => repeat (first | exact (Kd.V_reads' HO_465001.out).2.2 | (with_reducible refine Kd.C_alloc ?_ _) | (with_reducible refine Kd.C_drewN ?_ _) | (with_reducible refine Kd.C_drew ?_)))
          (case side4 => exact (Kd.V_reads' HO_465001.out).2.1)
          (case side5 => repeat (first | exact (Kd.R_reads' HO470.out).2.2 | (with_reducible refine Kd.C_alloc ?_ _) | (with_reducible refine Kd.C_drewN ?_ _) | (with_reducible refine Kd.C_drew ?_)))
          (case side6 => exact (Kd.R_reads' HO470.out).2.1)
          rintro e w54 ⟨v472, v475, rfl, ho0, ho1, hb⟩
          refine ⟨_, rfl, ?_⟩
          have n0_ := Aside0.mk (Kd.V_mono (Kd.V_told (Kd.V_told (Kd.V_old (by (with_reducible repeat (first | apply Kd.V_alloc | apply Kd.V_drewN | apply Kd.V_drew)); exact HO_465000.out) hb) (Kd.S_base ho0)) (Kd.S_base ho1)) (fun _ h_ => h_.1))
          have n1_ := Aside0.mk (Kd.V_mono (Kd.V_told (Kd.V_told (Kd.V_old (by (with_reducible repeat (first | apply Kd.V_alloc | apply Kd.V_drewN | apply Kd.V_drew)); exact HO_465001.out) hb) (Kd.S_base ho0)) (Kd.S_base ho1)) (fun _ h_ => h_.1))
          have n2_ := Aside0.mk (Kd.R_below (by (with_reducible repeat (first | apply Kd.R_alloc | apply Kd.R_drewN | apply Kd.R_drew)); exact HO470.out) hb)
          have n3_ := Aside0.mk (Kd.S_lower (Kd.S_new' (Kd.S_newM (M := fun k_ => (w.heap.size ≤ k_)) ho0 (below_size (by repeat (first | (with_reducible first | exact HB.out | apply below_alloc | apply pw_below_drewN | apply below_drew1 | refine below_set ?_ GE464.out | refine below_set ?_ GE465.out) | exact HB.out))) (fun k_ h_ => h_)) (Kd.R_lt (by (with_reducible repeat (first | apply Kd.R_alloc | apply Kd.R_drewN | apply Kd.R_drew)); exact HO470.out))) (below_size (by repeat (first | (with_reducible first | exact HB.out | apply below_alloc | apply pw_below_drewN | apply below_drew1 | refine below_set ?_ GE464.out | refine below_set ?_ GE465.out) | exact HB.out))))
          have n4_ := Aside0.mk (Kd.S_lower (Kd.S_new' (Kd.S_newM (M := fun k_ => (w.heap.size ≤ k_)) ho1 (below_size (by repeat (first | (with_reducible first | exact HB.out | apply below_alloc | apply pw_below_drewN | apply below_drew1 | refine below_set ?_ GE464.out | refine below_set ?_ GE465.out) | exact HB.out))) (fun k_ h_ => h_)) (Kd.R_lt (by (with_reducible repeat (first | apply Kd.R_alloc | apply Kd.R_drewN | apply Kd.R_drew)); exact HO470.out))) (below_size (by repeat (first | (with_reducible first | exact HB.out | apply below_alloc | apply pw_below_drewN | apply below_drew1 | refine below_set ?_ GE464.out | refine below_set ?_ GE465.out) | exact HB.out))))
          have n5_ := Aside0.mk (blk_below (g := gb464) (o := .cells #[.slice Ao49 x465000_1.length co49, .slice Ao50 x465001_1.length co50, .int .i64 x465002_1, .bool x465003_1] 25 (0, 0)) (by (with_reducible repeat (first | refine blk_drewN ?_ _ | refine blk_drew ?_ | refine blk_alloc ?_ _)); exact BK464.out) hb)
          have n6_ := Aside0.mk (blk_below (g := gb465) (o := .cells #[.slice none 0 0, .slice none 0 0, .int .i64 x466002_1, .bool x466003_1] 25 (0, 0)) (by (with_reducible repeat (first | refine blk_drewN ?_ _ | refine blk_drew ?_ | refine blk_alloc ?_ _)); exact BK465.out) hb)
          have n7_ := Aside0.mk (below_step (by repeat (first | (with_reducible first | exact HB.out | apply below_alloc | apply pw_below_drewN | apply below_drew1 | refine below_set ?_ GE464.out | refine below_set ?_ GE465.out) | exact HB.out)) hb)
          clear HO_465000
          clear HO_465001
          clear HO470
          clear BK464
          clear BK465
          clear HB
          have HO_465000 := n0_
          have HO_465001 := n1_
          have HO470 := n2_
          have HO473 := n3_
          have HO476 := n4_
          have BK464 := n5_
          have BK465 := n6_
          have HB := n7_
          clear n0_ n1_ n2_ n3_ n4_ n5_ n6_ n7_
          (try clear hb)
          (try clear hb2)
          (try clear hk)
          (try clear hi)
          (try clear ho0)
          (try clear ho1)
          refine hK.out _ _ ⟨(blk_cell BK464.out 0).trans rfl, (blk_cell BK464.out 1).trans rfl, (blk_cell BK464.out 2).trans rfl, (blk_cell BK464.out 3).trans rfl, ((HB.out.cell (World.block_lt_of_cell? w _ hw466_0)).trans hw466_0), ((HB.out.cell (World.block_lt_of_cell? w _ hw466_1)).trans hw466_1), ((HB.out.cell (World.block_lt_of_cell? w _ hw467_0)).trans hw467_0), ((HB.out.cell (World.block_lt_of_cell? w _ hw467_1)).trans hw467_1)⟩ (fun hHeld => ?_)
          clear hK K
          refine norm_ (a' := ?_) ?_ ?_
          rotate_left
          ·show Act.put _ (some 29) _ = _
           simp only [Act.put, List.setIfInBounds_toArray, List.set_cons_zero, List.set_cons_succ, i64_w, i32_w]
           rfl
          refine pure_ (i := 13) (N := some 16) (v := ?_) (a' := ?_) #[T29,T29,T29,T29,T29,T29,T29,T29,T29,T29,T29,T29,T29,T29,F29,F29,F29,F29,F29] rfl rfl (any_of HT_.out (by kernel_rfl)) (fun _ _ _ h => h) (Or.inl ⟨by rfl, ?_⟩) ?_ ?_
          rotate_left
          ·intro w'
           go_simp
           with_reducible rfl
          rotate_left
          ·simp only [Act.put, List.setIfInBounds_toArray, List.set_cons_zero, List.set_cons_succ, i64_w, i32_w]
           rfl
          refine pure_ (i := 14) (N := some 30) (v := ?_) (a' := ?_) #[T29,T29,T29,T29,T29,T29,T29,T29,T29,T29,T29,T29,T29,T29,T29,F29,F29,F29,F29] rfl rfl (any_of HT_.out (by kernel_rfl)) (fun _ _ _ h => h) (Or.inl ⟨by rfl, ?_⟩) ?_ ?_
          rotate_left
          ·intro w'
           go_simp
           with_reducible rfl
          rotate_left
          ·simp only [Act.put, List.setIfInBounds_toArray, List.set_cons_zero, List.set_cons_succ, i64_w, i32_w]
           rfl
          refine pure_ (i := 15) (N := some 31) (v := ?_) (a' := ?_) #[T29,T29,T29,T29,T29,T29,T29,T29,T29,T29,T29,T29,T29,T29,T29,T29,F29,F29,F29] rfl rfl (any_of HT_.out (by kernel_rfl)) (fun _ _ _ h => h) (Or.inl ⟨by rfl, ?_⟩) ?_ ?_
          rotate_left
          ·intro w'
           go_simp
           with_reducible rfl
          rotate_left
          ·simp only [Act.put, List.setIfInBounds_toArray, List.set_cons_zero, List.set_cons_succ, i64_w, i32_w]
           rfl
          refine one_ (i := 16) (N := some 8) #[T29,T29,T29,T29,T29,T29,T29,T29,T29,T29,T29,T29,T29,T29,T29,T29,T29,F29,F29] rfl rfl (one_of HT_.out (by kernel_rfl)) (by decide) (fun K hK => ?_)
          refine box_step ?hg (N := 8) ?hd (cs := #[.slice none 0 0, .slice none 0 0, .int .i64 0, .bool false]) (t := 25) ?hr ?_; (case hd => rfl); (case hg => rfl); (case hr => first | (go_simp; done) | (go_simp; rfl))
          intro gb480 hg w55 hbox hb
          have n0_ := Aside0.mk (Kd.V_below (Kd.V_elderB (by (with_reducible repeat (first | apply Kd.V_alloc | apply Kd.V_drewN | apply Kd.V_drew)); exact HO_465000.out) gb480 (Nat.le_of_eq hg.symm)) hb)
          have n1_ := Aside0.mk (Kd.V_below (Kd.V_elderB (by (with_reducible repeat (first | apply Kd.V_alloc | apply Kd.V_drewN | apply Kd.V_drew)); exact HO_465001.out) gb480 (Nat.le_of_eq hg.symm)) hb)
          have n2_ := Aside0.mk (Kd.R_below (by (with_reducible repeat (first | apply Kd.R_alloc | apply Kd.R_drewN | apply Kd.R_drew)); exact HO470.out) hb)
          have n3_ := Aside0.mk (Kd.S_below (by (with_reducible repeat (first | apply Kd.S_alloc | apply Kd.S_drewN | apply Kd.S_drew)); exact HO473.out) hb)
          have n4_ := Aside0.mk (Kd.S_below (by (with_reducible repeat (first | apply Kd.S_alloc | apply Kd.S_drewN | apply Kd.S_drew)); exact HO476.out) hb)
          have n5_ := Aside0.mk (blk_below (g := gb464) (o := .cells #[.slice Ao49 x465000_1.length co49, .slice Ao50 x465001_1.length co50, .int .i64 x465002_1, .bool x465003_1] 25 (0, 0)) (by (with_reducible repeat (first | refine blk_drewN ?_ _ | refine blk_drew ?_ | refine blk_alloc ?_ _)); exact BK464.out) hb)
          have n6_ := Aside0.mk (blk_below (g := gb465) (o := .cells #[.slice none 0 0, .slice none 0 0, .int .i64 x466002_1, .bool x466003_1] 25 (0, 0)) (by (with_reducible repeat (first | refine blk_drewN ?_ _ | refine blk_drew ?_ | refine blk_alloc ?_ _)); exact BK465.out) hb)
          have n7_ := Aside0.mk (below_step (by repeat (first | (with_reducible first | exact HB.out | apply below_alloc | apply pw_below_drewN | apply below_drew1 | refine below_set ?_ GE464.out | refine below_set ?_ GE465.out) | exact HB.out)) hb)
          have n8_ := Aside0.mk (hbox)
          have n9_ := Aside0.mk ((by rw [hg]; exact (below_size (by repeat (first | (with_reducible first | exact HB.out | apply below_alloc | apply pw_below_drewN | apply below_drew1 | refine below_set ?_ GE464.out | refine below_set ?_ GE465.out) | exact HB.out))) : w.heap.size ≤ gb480))
          have n10_ := Aside0.mk ((by rw [hg]; exact (below_size (by repeat (first | (with_reducible first | exact HB.out | apply below_alloc | apply pw_below_drewN | apply below_drew1 | refine below_set ?_ GE464.out | refine below_set ?_ GE465.out) | exact HB.out))) : w.heap.size ≤ gb480))
          have n11_ := Aside0.mk ((by rw [hg]; exact Nat.ne_of_lt (blk_lt (g := gb464) (o := .cells #[.slice Ao49 x465000_1.length co49, .slice Ao50 x465001_1.length co50, .int .i64 x465002_1, .bool x465003_1] 25 (0, 0)) (by (with_reducible repeat (first | refine blk_drewN ?_ _ | refine blk_drew ?_ | refine blk_alloc ?_ _)); exact BK464.out)) : gb464 ≠ gb480))
          have n12_ := Aside0.mk ((by rw [hg]; exact Nat.ne_of_gt (blk_lt (g := gb464) (o := .cells #[.slice Ao49 x465000_1.length co49, .slice Ao50 x465001_1.length co50, .int .i64 x465002_1, .bool x465003_1] 25 (0, 0)) (by (with_reducible repeat (first | refine blk_drewN ?_ _ | refine blk_drew ?_ | refine blk_alloc ?_ _)); exact BK464.out)) : gb480 ≠ gb464))
          have n13_ := Aside0.mk ((by rw [hg]; exact Nat.ne_of_lt (blk_lt (g := gb465) (o := .cells #[.slice none 0 0, .slice none 0 0, .int .i64 x466002_1, .bool x466003_1] 25 (0, 0)) (by (with_reducible repeat (first | refine blk_drewN ?_ _ | refine blk_drew ?_ | refine blk_alloc ?_ _)); exact BK465.out)) : gb465 ≠ gb480))
          have n14_ := Aside0.mk ((by rw [hg]; exact Nat.ne_of_gt (blk_lt (g := gb465) (o := .cells #[.slice none 0 0, .slice none 0 0, .int .i64 x466002_1, .bool x466003_1] 25 (0, 0)) (by (with_reducible repeat (first | refine blk_drewN ?_ _ | refine blk_drew ?_ | refine blk_alloc ?_ _)); exact BK465.out)) : gb480 ≠ gb465))
          clear HO_465000
          clear HO_465001
          clear HO470
          clear HO473
          clear HO476
          clear BK464
          clear BK465
          clear HB
          have HO_465000 := n0_
          have HO_465001 := n1_
          have HO470 := n2_
          have HO473 := n3_
          have HO476 := n4_
          have BK464 := n5_
          have BK465 := n6_
          have HB := n7_
          have BK480 := n8_
          have GW480 := n9_
          have GE480 := n10_
          have NB464_480 := n11_
          have NB480_464 := n12_
          have NB465_480 := n13_
          have NB480_465 := n14_
          clear n0_ n1_ n2_ n3_ n4_ n5_ n6_ n7_ n8_ n9_ n10_ n11_ n12_ n13_ n14_
          clear hb hbox hg
          refine hK.out _ _ ⟨(blk_cell BK464.out 0).trans rfl, (blk_cell BK464.out 1).trans rfl, (blk_cell BK464.out 2).trans rfl, (blk_cell BK464.out 3).trans rfl, ((HB.out.cell (World.block_lt_of_cell? w _ hw466_0)).trans hw466_0), ((HB.out.cell (World.block_lt_of_cell? w _ hw466_1)).trans hw466_1), ((HB.out.cell (World.block_lt_of_cell? w _ hw467_0)).trans hw467_0), ((HB.out.cell (World.block_lt_of_cell? w _ hw467_1)).trans hw467_1)⟩ (fun hHeld => ?_)
          clear hK K
          refine norm_ (a' := ?_) ?_ ?_
          rotate_left
          ·show Act.put _ (some 8) _ = _
           simp only [Act.put, List.setIfInBounds_toArray, List.set_cons_zero, List.set_cons_succ, i64_w, i32_w]
           rfl
          exact norm_ (by simp only [putAll, Act.put, List.setIfInBounds_toArray, List.set_cons_zero, List.set_cons_succ]) (hCont (.slice Ao53 t468.length co53, v472, v475, gb480) _ ⟨hHeld, (by (with_reducible repeat (first | apply Kd.R_alloc | apply Kd.R_drewN | apply Kd.R_drew)); exact Kd.R_mono HO470.out (fun _ hk => hk.1)), (by (with_reducible repeat (first | apply Kd.S_alloc | apply Kd.S_drewN | apply Kd.S_drew)); exact Kd.S_mono HO473.out (fun _ hk => ⟨hk.1.1, hk.2⟩)), (by (with_reducible repeat (first | apply Kd.S_alloc | apply Kd.S_drewN | apply Kd.S_drew)); exact Kd.S_mono HO476.out (fun _ hk => ⟨hk.1.1, hk.2⟩)), (by (with_reducible repeat (first | apply Kd.V_alloc | apply Kd.V_drewN | apply Kd.V_drew)); exact Kd.V_mono HO_465000.out (fun _ hk => ⟨hk.1.1.1.1.1, ⟨hk.1.1.1.2, ⟨hk.1.1.2, ⟨hk.1.2, ⟨hk.1.1.1.1.2.1, ⟨hk.1.1.1.1.2.2, hk.2⟩⟩⟩⟩⟩⟩)), (by (with_reducible repeat (first | apply Kd.V_alloc | apply Kd.V_drewN | apply Kd.V_drew)); exact Kd.V_mono HO_465001.out (fun _ hk => ⟨hk.1.1.1.1.1, ⟨hk.1.1.1.2, ⟨hk.1.1.2, ⟨hk.1.2, ⟨hk.1.1.1.1.2.1, ⟨hk.1.1.1.1.2.2, hk.2⟩⟩⟩⟩⟩⟩)), (by (with_reducible repeat (first | refine blk_drewN ?_ _ | refine blk_drew ?_ | refine blk_alloc ?_ _)); exact BK464.out), (by (with_reducible repeat (first | refine blk_drewN ?_ _ | refine blk_drew ?_ | refine blk_alloc ?_ _)); exact BK465.out), (by (with_reducible repeat (first | refine blk_drewN ?_ _ | refine blk_drew ?_ | refine blk_alloc ?_ _)); exact BK480.out), GW480.out, GE480.out, NB464_480.out, NB480_464.out, NB465_480.out, NB480_465.out, (by repeat (first | (with_reducible first | exact HB.out | apply below_alloc | apply pw_below_drewN | apply below_drew1 | refine below_set ?_ GE464.out | refine below_set ?_ GE465.out | refine below_set ?_ GE480.out) | exact HB.out))⟩)
         ·skip
          refine box_step ?hg (N := 8) ?hd (cs := #[.slice none 0 0, .slice none 0 0, .int .i64 0, .bool false]) (t := 25) ?hr ?_; (case hd => rfl); (case hg => rfl); (case hr => first | (go_simp; done) | (go_simp; rfl))
          intro gb480 hg w53 hbox hb
          have n0_ := Aside0.mk (Kd.V_below (Kd.V_elderB (by (with_reducible repeat (first | apply Kd.V_alloc | apply Kd.V_drewN | apply Kd.V_drew)); exact HO_465000.out) gb480 (Nat.le_of_eq hg.symm)) hb)
          have n1_ := Aside0.mk (Kd.V_below (Kd.V_elderB (by (with_reducible repeat (first | apply Kd.V_alloc | apply Kd.V_drewN | apply Kd.V_drew)); exact HO_465001.out) gb480 (Nat.le_of_eq hg.symm)) hb)
          have n2_ := Aside0.mk (Kd.R_below (by (with_reducible repeat (first | apply Kd.R_alloc | apply Kd.R_drewN | apply Kd.R_drew)); exact HO470.out) hb)
          have n3_ := Aside0.mk (blk_below (g := gb464) (o := .cells #[.slice Ao49 x465000_1.length co49, .slice Ao50 x465001_1.length co50, .int .i64 x465002_1, .bool x465003_1] 25 (0, 0)) (by (with_reducible repeat (first | refine blk_drewN ?_ _ | refine blk_drew ?_ | refine blk_alloc ?_ _)); exact BK464.out) hb)
          have n4_ := Aside0.mk (blk_below (g := gb465) (o := .cells #[.slice none 0 0, .slice none 0 0, .int .i64 x466002_1, .bool x466003_1] 25 (0, 0)) (by (with_reducible repeat (first | refine blk_drewN ?_ _ | refine blk_drew ?_ | refine blk_alloc ?_ _)); exact BK465.out) hb)
          have n5_ := Aside0.mk (below_step (by repeat (first | (with_reducible first | exact HB.out | apply below_alloc | apply pw_below_drewN | apply below_drew1 | refine below_set ?_ GE464.out | refine below_set ?_ GE465.out) | exact HB.out)) hb)
          have n6_ := Aside0.mk (hbox)
          have n7_ := Aside0.mk ((by rw [hg]; exact (below_size (by repeat (first | (with_reducible first | exact HB.out | apply below_alloc | apply pw_below_drewN | apply below_drew1 | refine below_set ?_ GE464.out | refine below_set ?_ GE465.out) | exact HB.out))) : w.heap.size ≤ gb480))
          have n8_ := Aside0.mk ((by rw [hg]; exact (below_size (by repeat (first | (with_reducible first | exact HB.out | apply below_alloc | apply pw_below_drewN | apply below_drew1 | refine below_set ?_ GE464.out | refine below_set ?_ GE465.out) | exact HB.out))) : w.heap.size ≤ gb480))
          have n9_ := Aside0.mk ((by rw [hg]; exact Nat.ne_of_lt (blk_lt (g := gb464) (o := .cells #[.slice Ao49 x465000_1.length co49, .slice Ao50 x465001_1.length co50, .int .i64 x465002_1, .bool x465003_1] 25 (0, 0)) (by (with_reducible repeat (first | refine blk_drewN ?_ _ | refine blk_drew ?_ | refine blk_alloc ?_ _)); exact BK464.out)) : gb464 ≠ gb480))
          have n10_ := Aside0.mk ((by rw [hg]; exact Nat.ne_of_gt (blk_lt (g := gb464) (o := .cells #[.slice Ao49 x465000_1.length co49, .slice Ao50 x465001_1.length co50, .int .i64 x465002_1, .bool x465003_1] 25 (0, 0)) (by (with_reducible repeat (first | refine blk_drewN ?_ _ | refine blk_drew ?_ | refine blk_alloc ?_ _)); exact BK464.out)) : gb480 ≠ gb464))
          have n11_ := Aside0.mk ((by rw [hg]; exact Nat.ne_of_lt (blk_lt (g := gb465) (o := .cells #[.slice none 0 0, .slice none 0 0, .int .i64 x466002_1, .bool x466003_1] 25 (0, 0)) (by (with_reducible repeat (first | refine blk_drewN ?_ _ | refine blk_drew ?_ | refine blk_alloc ?_ _)); exact BK465.out)) : gb465 ≠ gb480))
          have n12_ := Aside0.mk ((by rw [hg]; exact Nat.ne_of_gt (blk_lt (g := gb465) (o := .cells #[.slice none 0 0, .slice none 0 0, .int .i64 x466002_1, .bool x466003_1] 25 (0, 0)) (by (with_reducible repeat (first | refine blk_drewN ?_ _ | refine blk_drew ?_ | refine blk_alloc ?_ _)); exact BK465.out)) : gb480 ≠ gb465))
          clear HO_465000
          clear HO_465001
          clear HO470
          clear BK464
          clear BK465
          clear HB
          have HO_465000 := n0_
          have HO_465001 := n1_
          have HO470 := n2_
          have BK464 := n3_
          have BK465 := n4_
          have HB := n5_
          have BK480 := n6_
          have GW480 := n7_
          have GE480 := n8_
          have NB464_480 := n9_
          have NB480_464 := n10_
          have NB465_480 := n11_
          have NB480_465 := n12_
          clear n0_ n1_ n2_ n3_ n4_ n5_ n6_ n7_ n8_ n9_ n10_ n11_ n12_
          clear hb hbox hg
          obtain ⟨Ao54, co54, eo54⟩ := Kd.R_slice HO470.out
          (first | subst eo54 | (injection eo54 with f1_ f2_ f3_; have f4_ := f1_.symm; have f5_ := f3_.symm; clear f1_ f2_ f3_; subst f4_; subst f5_))
          refine hK.out _ _ ⟨(blk_cell BK464.out 0).trans rfl, (blk_cell BK464.out 1).trans rfl, (blk_cell BK464.out 2).trans rfl, (blk_cell BK464.out 3).trans rfl, ((HB.out.cell (World.block_lt_of_cell? w _ hw466_0)).trans hw466_0), ((HB.out.cell (World.block_lt_of_cell? w _ hw466_1)).trans hw466_1), ((HB.out.cell (World.block_lt_of_cell? w _ hw467_0)).trans hw467_0), ((HB.out.cell (World.block_lt_of_cell? w _ hw467_1)).trans hw467_1)⟩ (fun hHeld => ?_)
          clear hK K
          refine norm_ (a' := ?_) ?_ ?_
          rotate_left
          ·show Act.put _ (some 8) _ = _
           simp only [Act.put, List.setIfInBounds_toArray, List.set_cons_zero, List.set_cons_succ, i64_w, i32_w]
           rfl
          refine one_ (i := 12) (N := some 29) #[T29,T29,T29,T29,T29,T29,T29,T29,T29,T29,T29,T29,T29,F29,F29,F29,T29,F29,F29] rfl rfl (one_of HT_.out (by kernel_rfl)) (by decide) (fun K hK => ?_)
          refine goes_ Try.func13 (by kernel_rfl) rfl #[.agg #[.slice Ao49 x465000_1.length co49, .slice Ao50 x465001_1.length co50, .int .i64 x465002_1, .bool x465003_1], .int .i64 ((rd_T55 l1 x7_1).f0), .slice Ao54 t468.length co54] (by rfl) rfl rfl (by (try simp only [List.map_toArray, List.map_cons, List.map_nil]); first | done | rfl | (simp only [List.length_drop, List.length_take]; rfl)) ?_
          with_reducible refine (device_Write.calls k1 _ _ x465000_1 _ _ x465001_1 x465002_1 x465003_1 ((rd_T55 l1 x7_1).f0) _ _ t468 t471 t474 t477 t478 t479 _ ?side1 ?side2 ?side3 ?side4 ?side5 ?side6 A8.out).mono ?_
          (case side1 => repeat (first | exact (Kd.V_reads' HO_465000.out).2.2 | (with_reducible refine Kd.C_alloc ?_ _) | (with_reducible refine Kd.C_drewN ?_ _) | (with_reducible refine Kd.C_drew ?_)))
          (case side2 => exact (Kd.V_reads' HO_465000.out).2.1)
          (case side3 => repeat (first | exact (Kd.V_reads' HO_465001.out).2.2 | (with_reducible refine Kd.C_alloc ?_ _) | (with_reducible refine Kd.C_drewN ?_ _) | (with_reducible refine Kd.C_drew ?_)))
          (case side4 => exact (Kd.V_reads' HO_465001.out).2.1)
          (case side5 => repeat (first | exact (Kd.R_reads' HO470.out).2.2 | (with_reducible refine Kd.C_alloc ?_ _) | (with_reducible refine Kd.C_drewN ?_ _) | (with_reducible refine Kd.C_drew ?_)))
          (case side6 => exact (Kd.R_reads' HO470.out).2.1)
          rintro e w55 ⟨v472, v475, rfl, ho0, ho1, hb⟩
          refine ⟨_, rfl, ?_⟩
          have n0_ := Aside0.mk (Kd.V_mono (Kd.V_told (Kd.V_told (Kd.V_old (by (with_reducible repeat (first | apply Kd.V_alloc | apply Kd.V_drewN | apply Kd.V_drew)); exact HO_465000.out) hb) (Kd.S_base ho0)) (Kd.S_base ho1)) (fun _ h_ => h_.1))
          have n1_ := Aside0.mk (Kd.V_mono (Kd.V_told (Kd.V_told (Kd.V_old (by (with_reducible repeat (first | apply Kd.V_alloc | apply Kd.V_drewN | apply Kd.V_drew)); exact HO_465001.out) hb) (Kd.S_base ho0)) (Kd.S_base ho1)) (fun _ h_ => h_.1))
          have n2_ := Aside0.mk (Kd.R_below (by (with_reducible repeat (first | apply Kd.R_alloc | apply Kd.R_drewN | apply Kd.R_drew)); exact HO470.out) hb)
          have n3_ := Aside0.mk (Kd.S_lower (Kd.S_new' (Kd.S_newM (M := fun k_ => (w.heap.size ≤ k_)) ho0 (below_size (by repeat (first | (with_reducible first | exact HB.out | apply below_alloc | apply pw_below_drewN | apply below_drew1 | refine below_set ?_ GE464.out | refine below_set ?_ GE465.out | refine below_set ?_ GE480.out) | exact HB.out))) (fun k_ h_ => h_)) (Kd.R_lt (by (with_reducible repeat (first | apply Kd.R_alloc | apply Kd.R_drewN | apply Kd.R_drew)); exact HO470.out))) (below_size (by repeat (first | (with_reducible first | exact HB.out | apply below_alloc | apply pw_below_drewN | apply below_drew1 | refine below_set ?_ GE464.out | refine below_set ?_ GE465.out | refine below_set ?_ GE480.out) | exact HB.out))))
          have n4_ := Aside0.mk (Kd.S_lower (Kd.S_new' (Kd.S_newM (M := fun k_ => (w.heap.size ≤ k_)) ho1 (below_size (by repeat (first | (with_reducible first | exact HB.out | apply below_alloc | apply pw_below_drewN | apply below_drew1 | refine below_set ?_ GE464.out | refine below_set ?_ GE465.out | refine below_set ?_ GE480.out) | exact HB.out))) (fun k_ h_ => h_)) (Kd.R_lt (by (with_reducible repeat (first | apply Kd.R_alloc | apply Kd.R_drewN | apply Kd.R_drew)); exact HO470.out))) (below_size (by repeat (first | (with_reducible first | exact HB.out | apply below_alloc | apply pw_below_drewN | apply below_drew1 | refine below_set ?_ GE464.out | refine below_set ?_ GE465.out | refine below_set ?_ GE480.out) | exact HB.out))))
          have n5_ := Aside0.mk (blk_below (g := gb464) (o := .cells #[.slice Ao49 x465000_1.length co49, .slice Ao50 x465001_1.length co50, .int .i64 x465002_1, .bool x465003_1] 25 (0, 0)) (by (with_reducible repeat (first | refine blk_drewN ?_ _ | refine blk_drew ?_ | refine blk_alloc ?_ _)); exact BK464.out) hb)
          have n6_ := Aside0.mk (blk_below (g := gb465) (o := .cells #[.slice none 0 0, .slice none 0 0, .int .i64 x466002_1, .bool x466003_1] 25 (0, 0)) (by (with_reducible repeat (first | refine blk_drewN ?_ _ | refine blk_drew ?_ | refine blk_alloc ?_ _)); exact BK465.out) hb)
          have n7_ := Aside0.mk (blk_below (g := gb480) (o := .cells #[.slice none 0 0, .slice none 0 0, .int .i64 0, .bool false] 25 (0, 0)) (by (with_reducible repeat (first | refine blk_drewN ?_ _ | refine blk_drew ?_ | refine blk_alloc ?_ _)); exact BK480.out) hb)
          have n8_ := Aside0.mk (below_step (by repeat (first | (with_reducible first | exact HB.out | apply below_alloc | apply pw_below_drewN | apply below_drew1 | refine below_set ?_ GE464.out | refine below_set ?_ GE465.out | refine below_set ?_ GE480.out) | exact HB.out)) hb)
          clear HO_465000
          clear HO_465001
          clear HO470
          clear BK464
          clear BK465
          clear BK480
          clear HB
          have HO_465000 := n0_
          have HO_465001 := n1_
          have HO470 := n2_
          have HO473 := n3_
          have HO476 := n4_
          have BK464 := n5_
          have BK465 := n6_
          have BK480 := n7_
          have HB := n8_
          clear n0_ n1_ n2_ n3_ n4_ n5_ n6_ n7_ n8_
          (try clear hb)
          (try clear hb2)
          (try clear hk)
          (try clear hi)
          (try clear ho0)
          (try clear ho1)
          refine hK.out _ _ ⟨(blk_cell BK464.out 0).trans rfl, (blk_cell BK464.out 1).trans rfl, (blk_cell BK464.out 2).trans rfl, (blk_cell BK464.out 3).trans rfl, ((HB.out.cell (World.block_lt_of_cell? w _ hw466_0)).trans hw466_0), ((HB.out.cell (World.block_lt_of_cell? w _ hw466_1)).trans hw466_1), ((HB.out.cell (World.block_lt_of_cell? w _ hw467_0)).trans hw467_0), ((HB.out.cell (World.block_lt_of_cell? w _ hw467_1)).trans hw467_1)⟩ (fun hHeld => ?_)
          clear hK K
          refine norm_ (a' := ?_) ?_ ?_
          rotate_left
          ·show Act.put _ (some 29) _ = _
           simp only [Act.put, List.setIfInBounds_toArray, List.set_cons_zero, List.set_cons_succ, i64_w, i32_w]
           rfl
          refine pure_ (i := 13) (N := some 16) (v := ?_) (a' := ?_) #[T29,T29,T29,T29,T29,T29,T29,T29,T29,T29,T29,T29,T29,T29,F29,F29,T29,F29,F29] rfl rfl (any_of HT_.out (by kernel_rfl)) (fun _ _ _ h => h) (Or.inl ⟨by rfl, ?_⟩) ?_ ?_
          rotate_left
          ·intro w'
           go_simp
           with_reducible rfl
          rotate_left
          ·simp only [Act.put, List.setIfInBounds_toArray, List.set_cons_zero, List.set_cons_succ, i64_w, i32_w]
           rfl
          refine pure_ (i := 14) (N := some 30) (v := ?_) (a' := ?_) #[T29,T29,T29,T29,T29,T29,T29,T29,T29,T29,T29,T29,T29,T29,T29,F29,T29,F29,F29] rfl rfl (any_of HT_.out (by kernel_rfl)) (fun _ _ _ h => h) (Or.inl ⟨by rfl, ?_⟩) ?_ ?_
          rotate_left
          ·intro w'
           go_simp
           with_reducible rfl
          rotate_left
          ·simp only [Act.put, List.setIfInBounds_toArray, List.set_cons_zero, List.set_cons_succ, i64_w, i32_w]
           rfl
          refine pure_ (i := 15) (N := some 31) (v := ?_) (a' := ?_) #[T29,T29,T29,T29,T29,T29,T29,T29,T29,T29,T29,T29,T29,T29,T29,T29,T29,F29,F29] rfl rfl (any_of HT_.out (by kernel_rfl)) (fun _ _ _ h => h) (Or.inl ⟨by rfl, ?_⟩) ?_ ?_
          rotate_left
          ·intro w'
           go_simp
           with_reducible rfl
          rotate_left
          ·simp only [Act.put, List.setIfInBounds_toArray, List.set_cons_zero, List.set_cons_succ, i64_w, i32_w]
           rfl
          exact norm_ (by simp only [putAll, Act.put, List.setIfInBounds_toArray, List.set_cons_zero, List.set_cons_succ]) (hCont (.slice Ao54 t468.length co54, v472, v475, gb480) _ ⟨hHeld, (by (with_reducible repeat (first | apply Kd.R_alloc | apply Kd.R_drewN | apply Kd.R_drew)); exact Kd.R_mono HO470.out (fun _ hk => hk.1)), (by (with_reducible repeat (first | apply Kd.S_alloc | apply Kd.S_drewN | apply Kd.S_drew)); exact Kd.S_mono HO473.out (fun _ hk => ⟨hk.1.1, hk.2⟩)), (by (with_reducible repeat (first | apply Kd.S_alloc | apply Kd.S_drewN | apply Kd.S_drew)); exact Kd.S_mono HO476.out (fun _ hk => ⟨hk.1.1, hk.2⟩)), (by (with_reducible repeat (first | apply Kd.V_alloc | apply Kd.V_drewN | apply Kd.V_drew)); exact Kd.V_mono HO_465000.out (fun _ hk => ⟨hk.1.1.1.1.1, ⟨hk.1.1.1.2, ⟨hk.1.2, ⟨hk.2, ⟨hk.1.1.1.1.2.1, ⟨hk.1.1.1.1.2.2, hk.1.1.2⟩⟩⟩⟩⟩⟩)), (by (with_reducible repeat (first | apply Kd.V_alloc | apply Kd.V_drewN | apply Kd.V_drew)); exact Kd.V_mono HO_465001.out (fun _ hk => ⟨hk.1.1.1.1.1, ⟨hk.1.1.1.2, ⟨hk.1.2, ⟨hk.2, ⟨hk.1.1.1.1.2.1, ⟨hk.1.1.1.1.2.2, hk.1.1.2⟩⟩⟩⟩⟩⟩)), (by (with_reducible repeat (first | refine blk_drewN ?_ _ | refine blk_drew ?_ | refine blk_alloc ?_ _)); exact BK464.out), (by (with_reducible repeat (first | refine blk_drewN ?_ _ | refine blk_drew ?_ | refine blk_alloc ?_ _)); exact BK465.out), (by (with_reducible repeat (first | refine blk_drewN ?_ _ | refine blk_drew ?_ | refine blk_alloc ?_ _)); exact BK480.out), GW480.out, GE480.out, NB464_480.out, NB480_464.out, NB465_480.out, NB480_465.out, (by repeat (first | (with_reducible first | exact HB.out | apply below_alloc | apply pw_below_drewN | apply below_drew1 | refine below_set ?_ GE464.out | refine below_set ?_ GE465.out | refine below_set ?_ GE480.out) | exact HB.out))⟩)
        ·skip
         refine box_step ?hg (N := 8) ?hd (cs := #[.slice none 0 0, .slice none 0 0, .int .i64 0, .bool false]) (t := 25) ?hr ?_; (case hd => rfl); (case hg => rfl); (case hr => first | (go_simp; done) | (go_simp; rfl))
         intro gb480 hg w52 hbox hb
         have n0_ := Aside0.mk (Kd.V_below (Kd.V_elderB (by (with_reducible repeat (first | apply Kd.V_alloc | apply Kd.V_drewN | apply Kd.V_drew)); exact HO_465000.out) gb480 (Nat.le_of_eq hg.symm)) hb)
         have n1_ := Aside0.mk (Kd.V_below (Kd.V_elderB (by (with_reducible repeat (first | apply Kd.V_alloc | apply Kd.V_drewN | apply Kd.V_drew)); exact HO_465001.out) gb480 (Nat.le_of_eq hg.symm)) hb)
         have n2_ := Aside0.mk (blk_below (g := gb464) (o := .cells #[.slice Ao49 x465000_1.length co49, .slice Ao50 x465001_1.length co50, .int .i64 x465002_1, .bool x465003_1] 25 (0, 0)) (by (with_reducible repeat (first | refine blk_drewN ?_ _ | refine blk_drew ?_ | refine blk_alloc ?_ _)); exact BK464.out) hb)
         have n3_ := Aside0.mk (blk_below (g := gb465) (o := .cells #[.slice none 0 0, .slice none 0 0, .int .i64 x466002_1, .bool x466003_1] 25 (0, 0)) (by (with_reducible repeat (first | refine blk_drewN ?_ _ | refine blk_drew ?_ | refine blk_alloc ?_ _)); exact BK465.out) hb)
         have n4_ := Aside0.mk (below_step (by repeat (first | (with_reducible first | exact HB.out | apply below_alloc | apply pw_below_drewN | apply below_drew1 | refine below_set ?_ GE464.out | refine below_set ?_ GE465.out) | exact HB.out)) hb)
         have n5_ := Aside0.mk (hbox)
         have n6_ := Aside0.mk ((by rw [hg]; exact (below_size (by repeat (first | (with_reducible first | exact HB.out | apply below_alloc | apply pw_below_drewN | apply below_drew1 | refine below_set ?_ GE464.out | refine below_set ?_ GE465.out) | exact HB.out))) : w.heap.size ≤ gb480))
         have n7_ := Aside0.mk ((by rw [hg]; exact (below_size (by repeat (first | (with_reducible first | exact HB.out | apply below_alloc | apply pw_below_drewN | apply below_drew1 | refine below_set ?_ GE464.out | refine below_set ?_ GE465.out) | exact HB.out))) : w.heap.size ≤ gb480))
         have n8_ := Aside0.mk ((by rw [hg]; exact Nat.ne_of_lt (blk_lt (g := gb464) (o := .cells #[.slice Ao49 x465000_1.length co49, .slice Ao50 x465001_1.length co50, .int .i64 x465002_1, .bool x465003_1] 25 (0, 0)) (by (with_reducible repeat (first | refine blk_drewN ?_ _ | refine blk_drew ?_ | refine blk_alloc ?_ _)); exact BK464.out)) : gb464 ≠ gb480))
         have n9_ := Aside0.mk ((by rw [hg]; exact Nat.ne_of_gt (blk_lt (g := gb464) (o := .cells #[.slice Ao49 x465000_1.length co49, .slice Ao50 x465001_1.length co50, .int .i64 x465002_1, .bool x465003_1] 25 (0, 0)) (by (with_reducible repeat (first | refine blk_drewN ?_ _ | refine blk_drew ?_ | refine blk_alloc ?_ _)); exact BK464.out)) : gb480 ≠ gb464))
         have n10_ := Aside0.mk ((by rw [hg]; exact Nat.ne_of_lt (blk_lt (g := gb465) (o := .cells #[.slice none 0 0, .slice none 0 0, .int .i64 x466002_1, .bool x466003_1] 25 (0, 0)) (by (with_reducible repeat (first | refine blk_drewN ?_ _ | refine blk_drew ?_ | refine blk_alloc ?_ _)); exact BK465.out)) : gb465 ≠ gb480))
         have n11_ := Aside0.mk ((by rw [hg]; exact Nat.ne_of_gt (blk_lt (g := gb465) (o := .cells #[.slice none 0 0, .slice none 0 0, .int .i64 x466002_1, .bool x466003_1] 25 (0, 0)) (by (with_reducible repeat (first | refine blk_drewN ?_ _ | refine blk_drew ?_ | refine blk_alloc ?_ _)); exact BK465.out)) : gb480 ≠ gb465))
         clear HO_465000
         clear HO_465001
         clear BK464
         clear BK465
         clear HB
         have HO_465000 := n0_
         have HO_465001 := n1_
         have BK464 := n2_
         have BK465 := n3_
         have HB := n4_
         have BK480 := n5_
         have GW480 := n6_
         have GE480 := n7_
         have NB464_480 := n8_
         have NB480_464 := n9_
         have NB465_480 := n10_
         have NB480_465 := n11_
         clear n0_ n1_ n2_ n3_ n4_ n5_ n6_ n7_ n8_ n9_ n10_ n11_
         clear hb hbox hg
         refine hK.out _ _ ⟨(blk_cell BK464.out 0).trans rfl, (blk_cell BK464.out 1).trans rfl, (blk_cell BK464.out 2).trans rfl, (blk_cell BK464.out 3).trans rfl, ((HB.out.cell (World.block_lt_of_cell? w _ hw466_0)).trans hw466_0), ((HB.out.cell (World.block_lt_of_cell? w _ hw466_1)).trans hw466_1), ((HB.out.cell (World.block_lt_of_cell? w _ hw467_0)).trans hw467_0), ((HB.out.cell (World.block_lt_of_cell? w _ hw467_1)).trans hw467_1)⟩ (fun hHeld => ?_)
         clear hK K
         refine norm_ (a' := ?_) ?_ ?_
         rotate_left
         ·show Act.put _ (some 8) _ = _
          simp only [Act.put, List.setIfInBounds_toArray, List.set_cons_zero, List.set_cons_succ, i64_w, i32_w]
          rfl
         refine one_ (i := 11) (N := some 28) #[T29,T29,T29,T29,T29,T29,T29,T29,T29,T29,T29,T29,F29,F29,F29,F29,T29,F29,F29] rfl rfl (one_of HT_.out (by kernel_rfl)) (by decide) (fun K hK => ?_)
         refine goes_ Try.func31 (by kernel_rfl) rfl #[.int .u8 ((rd_T55 l1 x7_1).f1)] (by rfl) rfl rfl (by (try simp only [List.map_toArray, List.map_cons, List.map_nil]); first | done | rfl | (simp only [List.length_drop, List.length_take]; rfl)) ?_
         with_reducible refine (mapsheetslaw24_block.calls k1 ((rd_T55 l1 x7_1).f1) t468 _ A7.out).mono ?_
         rintro e w53 ⟨v469, rfl, ho0, hb⟩
         refine ⟨_, rfl, ?_⟩
         have n0_ := Aside0.mk (Kd.V_elder' (by (with_reducible repeat (first | apply Kd.V_alloc | apply Kd.V_drewN | apply Kd.V_drew)); exact HO_465000.out) (Kd.R_base ho0) hb)
         have n1_ := Aside0.mk (Kd.V_elder' (by (with_reducible repeat (first | apply Kd.V_alloc | apply Kd.V_drewN | apply Kd.V_drew)); exact HO_465001.out) (Kd.R_base ho0) hb)
         have n2_ := Aside0.mk (Kd.R_lower (Kd.R_newM (M := fun k_ => (w.heap.size ≤ k_)) ho0 (below_size (by repeat (first | (with_reducible first | exact HB.out | apply below_alloc | apply pw_below_drewN | apply below_drew1 | refine below_set ?_ GE464.out | refine below_set ?_ GE465.out | refine below_set ?_ GE480.out) | exact HB.out))) (fun k_ h_ => h_)) (below_size (by repeat (first | (with_reducible first | exact HB.out | apply below_alloc | apply pw_below_drewN | apply below_drew1 | refine below_set ?_ GE464.out | refine below_set ?_ GE465.out | refine below_set ?_ GE480.out) | exact HB.out))))
         have n3_ := Aside0.mk (blk_below (g := gb464) (o := .cells #[.slice Ao49 x465000_1.length co49, .slice Ao50 x465001_1.length co50, .int .i64 x465002_1, .bool x465003_1] 25 (0, 0)) (by (with_reducible repeat (first | refine blk_drewN ?_ _ | refine blk_drew ?_ | refine blk_alloc ?_ _)); exact BK464.out) hb)
         have n4_ := Aside0.mk (blk_below (g := gb465) (o := .cells #[.slice none 0 0, .slice none 0 0, .int .i64 x466002_1, .bool x466003_1] 25 (0, 0)) (by (with_reducible repeat (first | refine blk_drewN ?_ _ | refine blk_drew ?_ | refine blk_alloc ?_ _)); exact BK465.out) hb)
         have n5_ := Aside0.mk (blk_below (g := gb480) (o := .cells #[.slice none 0 0, .slice none 0 0, .int .i64 0, .bool false] 25 (0, 0)) (by (with_reducible repeat (first | refine blk_drewN ?_ _ | refine blk_drew ?_ | refine blk_alloc ?_ _)); exact BK480.out) hb)
         have n6_ := Aside0.mk (below_step (by repeat (first | (with_reducible first | exact HB.out | apply below_alloc | apply pw_below_drewN | apply below_drew1 | refine below_set ?_ GE464.out | refine below_set ?_ GE465.out | refine below_set ?_ GE480.out) | exact HB.out)) hb)
         clear HO_465000
         clear HO_465001
         clear BK464
         clear BK465
         clear BK480
         clear HB
         have HO_465000 := n0_
         have HO_465001 := n1_
         have HO470 := n2_
         have BK464 := n3_
         have BK465 := n4_
         have BK480 := n5_
         have HB := n6_
         clear n0_ n1_ n2_ n3_ n4_ n5_ n6_
         (try clear hb)
         (try clear hb2)
         (try clear hk)
         (try clear hi)
         (try clear ho0)
         obtain ⟨Ao54, co54, eo54⟩ := Kd.R_slice HO470.out
         (first | subst eo54 | (injection eo54 with f1_ f2_ f3_; have f4_ := f1_.symm; have f5_ := f3_.symm; clear f1_ f2_ f3_; subst f4_; subst f5_))
         refine hK.out _ _ ⟨(blk_cell BK464.out 0).trans rfl, (blk_cell BK464.out 1).trans rfl, (blk_cell BK464.out 2).trans rfl, (blk_cell BK464.out 3).trans rfl, ((HB.out.cell (World.block_lt_of_cell? w _ hw466_0)).trans hw466_0), ((HB.out.cell (World.block_lt_of_cell? w _ hw466_1)).trans hw466_1), ((HB.out.cell (World.block_lt_of_cell? w _ hw467_0)).trans hw467_0), ((HB.out.cell (World.block_lt_of_cell? w _ hw467_1)).trans hw467_1)⟩ (fun hHeld => ?_)
         clear hK K
         refine norm_ (a' := ?_) ?_ ?_
         rotate_left
         ·show Act.put _ (some 28) _ = _
          simp only [Act.put, List.setIfInBounds_toArray, List.set_cons_zero, List.set_cons_succ, i64_w, i32_w]
          rfl
         refine one_ (i := 12) (N := some 29) #[T29,T29,T29,T29,T29,T29,T29,T29,T29,T29,T29,T29,T29,F29,F29,F29,T29,F29,F29] rfl rfl (one_of HT_.out (by kernel_rfl)) (by decide) (fun K hK => ?_)
         refine goes_ Try.func13 (by kernel_rfl) rfl #[.agg #[.slice Ao49 x465000_1.length co49, .slice Ao50 x465001_1.length co50, .int .i64 x465002_1, .bool x465003_1], .int .i64 ((rd_T55 l1 x7_1).f0), .slice Ao54 t468.length co54] (by rfl) rfl rfl (by (try simp only [List.map_toArray, List.map_cons, List.map_nil]); first | done | rfl | (simp only [List.length_drop, List.length_take]; rfl)) ?_
         with_reducible refine (device_Write.calls k1 _ _ x465000_1 _ _ x465001_1 x465002_1 x465003_1 ((rd_T55 l1 x7_1).f0) _ _ t468 t471 t474 t477 t478 t479 _ ?side1 ?side2 ?side3 ?side4 ?side5 ?side6 A8.out).mono ?_
         (case side1 => repeat (first | exact (Kd.V_reads' HO_465000.out).2.2 | (with_reducible refine Kd.C_alloc ?_ _) | (with_reducible refine Kd.C_drewN ?_ _) | (with_reducible refine Kd.C_drew ?_)))
         (case side2 => exact (Kd.V_reads' HO_465000.out).2.1)
         (case side3 => repeat (first | exact (Kd.V_reads' HO_465001.out).2.2 | (with_reducible refine Kd.C_alloc ?_ _) | (with_reducible refine Kd.C_drewN ?_ _) | (with_reducible refine Kd.C_drew ?_)))
         (case side4 => exact (Kd.V_reads' HO_465001.out).2.1)
         (case side5 => repeat (first | exact (Kd.R_reads' HO470.out).2.2 | (with_reducible refine Kd.C_alloc ?_ _) | (with_reducible refine Kd.C_drewN ?_ _) | (with_reducible refine Kd.C_drew ?_)))
         (case side6 => exact (Kd.R_reads' HO470.out).2.1)
         rintro e w55 ⟨v472, v475, rfl, ho0, ho1, hb⟩
         refine ⟨_, rfl, ?_⟩
         have n0_ := Aside0.mk (Kd.V_mono (Kd.V_told (Kd.V_told (Kd.V_old (by (with_reducible repeat (first | apply Kd.V_alloc | apply Kd.V_drewN | apply Kd.V_drew)); exact HO_465000.out) hb) (Kd.S_base ho0)) (Kd.S_base ho1)) (fun _ h_ => h_.1))
         have n1_ := Aside0.mk (Kd.V_mono (Kd.V_told (Kd.V_told (Kd.V_old (by (with_reducible repeat (first | apply Kd.V_alloc | apply Kd.V_drewN | apply Kd.V_drew)); exact HO_465001.out) hb) (Kd.S_base ho0)) (Kd.S_base ho1)) (fun _ h_ => h_.1))
         have n2_ := Aside0.mk (Kd.R_below (by (with_reducible repeat (first | apply Kd.R_alloc | apply Kd.R_drewN | apply Kd.R_drew)); exact HO470.out) hb)
         have n3_ := Aside0.mk (Kd.S_lower (Kd.S_new' (Kd.S_newM (M := fun k_ => (w.heap.size ≤ k_)) ho0 (below_size (by repeat (first | (with_reducible first | exact HB.out | apply below_alloc | apply pw_below_drewN | apply below_drew1 | refine below_set ?_ GE464.out | refine below_set ?_ GE465.out | refine below_set ?_ GE480.out) | exact HB.out))) (fun k_ h_ => h_)) (Kd.R_lt (by (with_reducible repeat (first | apply Kd.R_alloc | apply Kd.R_drewN | apply Kd.R_drew)); exact HO470.out))) (below_size (by repeat (first | (with_reducible first | exact HB.out | apply below_alloc | apply pw_below_drewN | apply below_drew1 | refine below_set ?_ GE464.out | refine below_set ?_ GE465.out | refine below_set ?_ GE480.out) | exact HB.out))))
         have n4_ := Aside0.mk (Kd.S_lower (Kd.S_new' (Kd.S_newM (M := fun k_ => (w.heap.size ≤ k_)) ho1 (below_size (by repeat (first | (with_reducible first | exact HB.out | apply below_alloc | apply pw_below_drewN | apply below_drew1 | refine below_set ?_ GE464.out | refine below_set ?_ GE465.out | refine below_set ?_ GE480.out) | exact HB.out))) (fun k_ h_ => h_)) (Kd.R_lt (by (with_reducible repeat (first | apply Kd.R_alloc | apply Kd.R_drewN | apply Kd.R_drew)); exact HO470.out))) (below_size (by repeat (first | (with_reducible first | exact HB.out | apply below_alloc | apply pw_below_drewN | apply below_drew1 | refine below_set ?_ GE464.out | refine below_set ?_ GE465.out | refine below_set ?_ GE480.out) | exact HB.out))))
         have n5_ := Aside0.mk (blk_below (g := gb464) (o := .cells #[.slice Ao49 x465000_1.length co49, .slice Ao50 x465001_1.length co50, .int .i64 x465002_1, .bool x465003_1] 25 (0, 0)) (by (with_reducible repeat (first | refine blk_drewN ?_ _ | refine blk_drew ?_ | refine blk_alloc ?_ _)); exact BK464.out) hb)
         have n6_ := Aside0.mk (blk_below (g := gb465) (o := .cells #[.slice none 0 0, .slice none 0 0, .int .i64 x466002_1, .bool x466003_1] 25 (0, 0)) (by (with_reducible repeat (first | refine blk_drewN ?_ _ | refine blk_drew ?_ | refine blk_alloc ?_ _)); exact BK465.out) hb)
         have n7_ := Aside0.mk (blk_below (g := gb480) (o := .cells #[.slice none 0 0, .slice none 0 0, .int .i64 0, .bool false] 25 (0, 0)) (by (with_reducible repeat (first | refine blk_drewN ?_ _ | refine blk_drew ?_ | refine blk_alloc ?_ _)); exact BK480.out) hb)
         have n8_ := Aside0.mk (below_step (by repeat (first | (with_reducible first | exact HB.out | apply below_alloc | apply pw_below_drewN | apply below_drew1 | refine below_set ?_ GE464.out | refine below_set ?_ GE465.out | refine below_set ?_ GE480.out) | exact HB.out)) hb)
         clear HO_465000
         clear HO_465001
         clear HO470
         clear BK464
         clear BK465
         clear BK480
         clear HB
         have HO_465000 := n0_
         have HO_465001 := n1_
         have HO470 := n2_
         have HO473 := n3_
         have HO476 := n4_
         have BK464 := n5_
         have BK465 := n6_
         have BK480 := n7_
         have HB := n8_
         clear n0_ n1_ n2_ n3_ n4_ n5_ n6_ n7_ n8_
         (try clear hb)
         (try clear hb2)
         (try clear hk)
         (try clear hi)
         (try clear ho0)
         (try clear ho1)
         refine hK.out _ _ ⟨(blk_cell BK464.out 0).trans rfl, (blk_cell BK464.out 1).trans rfl, (blk_cell BK464.out 2).trans rfl, (blk_cell BK464.out 3).trans rfl, ((HB.out.cell (World.block_lt_of_cell? w _ hw466_0)).trans hw466_0), ((HB.out.cell (World.block_lt_of_cell? w _ hw466_1)).trans hw466_1), ((HB.out.cell (World.block_lt_of_cell? w _ hw467_0)).trans hw467_0), ((HB.out.cell (World.block_lt_of_cell? w _ hw467_1)).trans hw467_1)⟩ (fun hHeld => ?_)
         clear hK K
         refine norm_ (a' := ?_) ?_ ?_
         rotate_left
         ·show Act.put _ (some 29) _ = _
          simp only [Act.put, List.setIfInBounds_toArray, List.set_cons_zero, List.set_cons_succ, i64_w, i32_w]
          rfl
         refine pure_ (i := 13) (N := some 16) (v := ?_) (a' := ?_) #[T29,T29,T29,T29,T29,T29,T29,T29,T29,T29,T29,T29,T29,T29,F29,F29,T29,F29,F29] rfl rfl (any_of HT_.out (by kernel_rfl)) (fun _ _ _ h => h) (Or.inl ⟨by rfl, ?_⟩) ?_ ?_
         rotate_left
         ·intro w'
          go_simp
          with_reducible rfl
         rotate_left
         ·simp only [Act.put, List.setIfInBounds_toArray, List.set_cons_zero, List.set_cons_succ, i64_w, i32_w]
          rfl
         refine pure_ (i := 14) (N := some 30) (v := ?_) (a' := ?_) #[T29,T29,T29,T29,T29,T29,T29,T29,T29,T29,T29,T29,T29,T29,T29,F29,T29,F29,F29] rfl rfl (any_of HT_.out (by kernel_rfl)) (fun _ _ _ h => h) (Or.inl ⟨by rfl, ?_⟩) ?_ ?_
         rotate_left
         ·intro w'
          go_simp
          with_reducible rfl
         rotate_left
         ·simp only [Act.put, List.setIfInBounds_toArray, List.set_cons_zero, List.set_cons_succ, i64_w, i32_w]
          rfl
         refine pure_ (i := 15) (N := some 31) (v := ?_) (a' := ?_) #[T29,T29,T29,T29,T29,T29,T29,T29,T29,T29,T29,T29,T29,T29,T29,T29,T29,F29,F29] rfl rfl (any_of HT_.out (by kernel_rfl)) (fun _ _ _ h => h) (Or.inl ⟨by rfl, ?_⟩) ?_ ?_
         rotate_left
         ·intro w'
          go_simp
          with_reducible rfl
         rotate_left
         ·simp only [Act.put, List.setIfInBounds_toArray, List.set_cons_zero, List.set_cons_succ, i64_w, i32_w]
          rfl
         exact norm_ (by simp only [putAll, Act.put, List.setIfInBounds_toArray, List.set_cons_zero, List.set_cons_succ]) (hCont (.slice Ao54 t468.length co54, v472, v475, gb480) _ ⟨hHeld, (by (with_reducible repeat (first | apply Kd.R_alloc | apply Kd.R_drewN | apply Kd.R_drew)); exact Kd.R_mono HO470.out (fun _ hk => hk.1)), (by (with_reducible repeat (first | apply Kd.S_alloc | apply Kd.S_drewN | apply Kd.S_drew)); exact Kd.S_mono HO473.out (fun _ hk => ⟨hk.1.1, hk.2⟩)), (by (with_reducible repeat (first | apply Kd.S_alloc | apply Kd.S_drewN | apply Kd.S_drew)); exact Kd.S_mono HO476.out (fun _ hk => ⟨hk.1.1, hk.2⟩)), (by (with_reducible repeat (first | apply Kd.V_alloc | apply Kd.V_drewN | apply Kd.V_drew)); exact Kd.V_mono HO_465000.out (fun _ hk => ⟨hk.1.1.1.1.1, ⟨hk.1.1.2, ⟨hk.1.2, ⟨hk.2, ⟨hk.1.1.1.1.2.1, ⟨hk.1.1.1.1.2.2, hk.1.1.1.2⟩⟩⟩⟩⟩⟩)), (by (with_reducible repeat (first | apply Kd.V_alloc | apply Kd.V_drewN | apply Kd.V_drew)); exact Kd.V_mono HO_465001.out (fun _ hk => ⟨hk.1.1.1.1.1, ⟨hk.1.1.2, ⟨hk.1.2, ⟨hk.2, ⟨hk.1.1.1.1.2.1, ⟨hk.1.1.1.1.2.2, hk.1.1.1.2⟩⟩⟩⟩⟩⟩)), (by (with_reducible repeat (first | refine blk_drewN ?_ _ | refine blk_drew ?_ | refine blk_alloc ?_ _)); exact BK464.out), (by (with_reducible repeat (first | refine blk_drewN ?_ _ | refine blk_drew ?_ | refine blk_alloc ?_ _)); exact BK465.out), (by (with_reducible repeat (first | refine blk_drewN ?_ _ | refine blk_drew ?_ | refine blk_alloc ?_ _)); exact BK480.out), GW480.out, GE480.out, NB464_480.out, NB480_464.out, NB465_480.out, NB480_465.out, (by repeat (first | (with_reducible first | exact HB.out | apply below_alloc | apply pw_below_drewN | apply below_drew1 | refine below_set ?_ GE464.out | refine below_set ?_ GE465.out | refine below_set ?_ GE480.out) | exact HB.out))⟩)
       rintro ⟨v469, v472, v475, gb480⟩ w56 ⟨hS_, h0_, h1_, h2_, h3_, h4_, h5_, h6_, h7_, h8_, h9_, h10_, h11_, h12_, h13_, h14_⟩
       have n0_ : Aside0 (Kd.R (Kd.int .u8) 5 w56 w.heap.size (fun k_ => (w.heap.size ≤ k_)) v469 t468) := ⟨h0_⟩
       have n1_ : Aside0 (Kd.S (Kd.slice 5 (Kd.int .u8)) 26 w56 w.heap.size (fun k_ => (w.heap.size ≤ k_) ∧ some k_ ≠ (v469 : Value).ownBlock) v472 t471) := ⟨h1_⟩
       have n2_ : Aside0 (Kd.S k53 53 w56 w.heap.size (fun k_ => (w.heap.size ≤ k_) ∧ some k_ ≠ (v469 : Value).ownBlock) v475 t474) := ⟨h2_⟩
       have n3_ : Aside0 (Kd.V (Kd.slice 5 (Kd.int .u8)) 26 w56 w.heap.size (fun k_ => ((P0_0_ k_ ∨ P0_1_ k_) ∨ w.heap.size ≤ k_) ∧ some k_ ≠ (v469 : Value).ownBlock ∧ some k_ ≠ (v472 : Value).ownBlock ∧ some k_ ≠ (v475 : Value).ownBlock ∧ k_ ≠ gb464 ∧ k_ ≠ gb465 ∧ k_ ≠ gb480) (.slice Ao49 x465000_1.length co49) x465000_1) := ⟨h3_⟩
       have n4_ : Aside0 (Kd.V k53 53 w56 w.heap.size (fun k_ => ((P0_0_ k_ ∨ P0_1_ k_) ∨ w.heap.size ≤ k_) ∧ some k_ ≠ (v469 : Value).ownBlock ∧ some k_ ≠ (v472 : Value).ownBlock ∧ some k_ ≠ (v475 : Value).ownBlock ∧ k_ ≠ gb464 ∧ k_ ≠ gb465 ∧ k_ ≠ gb480) (.slice Ao50 x465001_1.length co50) x465001_1) := ⟨h4_⟩
       have n5_ : Aside0 (w56.heap[gb464]? = some (.cells #[.slice Ao49 x465000_1.length co49, .slice Ao50 x465001_1.length co50, .int .i64 x465002_1, .bool x465003_1] 25 (0, 0))) := ⟨h5_⟩
       have n6_ : Aside0 (w56.heap[gb465]? = some (.cells #[.slice none 0 0, .slice none 0 0, .int .i64 x466002_1, .bool x466003_1] 25 (0, 0))) := ⟨h6_⟩
       have n7_ : Aside0 (w56.heap[gb480]? = some (.cells #[.slice none 0 0, .slice none 0 0, .int .i64 0, .bool false] 25 (0, 0))) := ⟨h7_⟩
       have n8_ : Aside0 (w.heap.size ≤ gb480) := ⟨h8_⟩
       have n9_ : Aside0 (w.heap.size ≤ gb480) := ⟨h9_⟩
       have n10_ : Aside0 (gb464 ≠ gb480) := ⟨h10_⟩
       have n11_ : Aside0 (gb480 ≠ gb464) := ⟨h11_⟩
       have n12_ : Aside0 (gb465 ≠ gb480) := ⟨h12_⟩
       have n13_ : Aside0 (gb480 ≠ gb465) := ⟨h13_⟩
       have n14_ : Aside0 (Below w.heap.size w w56) := ⟨h14_⟩
       clear HO_465000
       clear HO_465001
       clear BK464
       clear BK465
       clear HB
       clear h0_ h1_ h2_ h3_ h4_ h5_ h6_ h7_ h8_ h9_ h10_ h11_ h12_ h13_ h14_
       have HO470 := n0_
       have HO473 := n1_
       have HO476 := n2_
       have HO_465000 := n3_
       have HO_465001 := n4_
       have BK464 := n5_
       have BK465 := n6_
       have BK480 := n7_
       have GW480 := n8_
       have GE480 := n9_
       have NB464_480 := n10_
       have NB480_464 := n11_
       have NB465_480 := n12_
       have NB480_465 := n13_
       have HB := n14_
       clear n0_ n1_ n2_ n3_ n4_ n5_ n6_ n7_ n8_ n9_ n10_ n11_ n12_ n13_ n14_
       have hHeld : w56.cell? ⟨gb464, 0, none⟩ = some (.slice Ao49 x465000_1.length co49) ∧ w56.cell? ⟨gb464, 1, none⟩ = some (.slice Ao50 x465001_1.length co50) ∧ w56.cell? ⟨gb464, 2, none⟩ = some (.int .i64 x465002_1) ∧ w56.cell? ⟨gb464, 3, none⟩ = some (.bool x465003_1) ∧ w56.cell? (ad466.add ((x7_1).toNat * 2)) = some (.int .i64 ((rd_T55 l1 x7_1).f0)) ∧ w56.cell? ⟨(ad466.add ((x7_1).toNat * 2)).block, (ad466.add ((x7_1).toNat * 2)).off + 1, none⟩ = some (.int .u8 ((rd_T55 l1 x7_1).f1)) ∧ w56.cell? (ad466.add ((x7_1).toNat * 2)) = some (.int .i64 ((rd_T55 l1 x7_1).f0)) ∧ w56.cell? ⟨(ad466.add ((x7_1).toNat * 2)).block, (ad466.add ((x7_1).toNat * 2)).off + 1, none⟩ = some (.int .u8 ((rd_T55 l1 x7_1).f1)) := hS_
       obtain ⟨Ao57, co57, eo57⟩ := Kd.S_slice HO473.out
       (first | subst eo57 | (injection eo57 with f1_ f2_ f3_; have f4_ := f1_.symm; have f5_ := f3_.symm; clear f1_ f2_ f3_; subst f4_; subst f5_))
       obtain ⟨Ao59, co59, eo59⟩ := Kd.S_slice HO476.out
       (first | subst eo59 | (injection eo59 with f1_ f2_ f3_; have f4_ := f1_.symm; have f5_ := f3_.symm; clear f1_ f2_ f3_; subst f4_; subst f5_))
       refine norm_ (a' := ?_) ?_ ?_
       rotate_left
       ·simp only [putAll, Act.put, List.setIfInBounds_toArray, List.set_cons_zero, List.set_cons_succ]
        rfl
       refine one_ (i := 17) (N := none) #[T29,T29,T29,T29,T29,T29,T29,T29,T29,T29,T29,T29,T29,T29,T29,T29,T29,T29,F29] rfl rfl (one_of HT_.out (by kernel_rfl)) (by decide) (fun K hK => ?_)
       have hs58 : w56.cell? ⟨gb480, 0, none⟩ = some (.slice none 0 0) := (blk_cell BK480.out 0).trans rfl
       have hfs58 := blk_frozen BK480.out 0
       have hns58_0 := NB464_480.out
       have hns58_1 := NB465_480.out
       have hms58_0 := NB480_464.out
       have hms58_1 := NB480_465.out
       have hs60 : w56.cell? ⟨gb480, 1, none⟩ = some (.slice none 0 0) := (blk_cell BK480.out 1).trans rfl
       have hfs60 := blk_frozen BK480.out 1
       have hns60_0 := NB464_480.out
       have hns60_1 := NB465_480.out
       have hms60_0 := NB480_464.out
       have hms60_1 := NB480_465.out
       have hs61 : w56.cell? ⟨gb480, 2, none⟩ = some (.int .i64 0) := (blk_cell BK480.out 2).trans rfl
       have hfs61 := blk_frozen BK480.out 2
       have hns61_0 := NB464_480.out
       have hns61_1 := NB465_480.out
       have hms61_0 := NB480_464.out
       have hms61_1 := NB480_465.out
       have hs62 : w56.cell? ⟨gb480, 3, none⟩ = some (.bool false) := (blk_cell BK480.out 3).trans rfl
       have hfs62 := blk_frozen BK480.out 3
       have hns62_0 := NB464_480.out
       have hns62_1 := NB465_480.out
       have hms62_0 := NB480_464.out
       have hms62_1 := NB480_465.out
       refine skip_ (w1 := ?_) (by rfl) rfl ?_ ?_
       rotate_left
       ·go_simp
        rfl
       refine hK.out _ _ ⟨((cell_far (p := ⟨gb480, _, none⟩) NB464_480.out _).trans (((cell_far (p := ⟨gb480, _, none⟩) NB464_480.out _).trans (((cell_far (p := ⟨gb480, _, none⟩) NB464_480.out _).trans (((cell_far (p := ⟨gb480, _, none⟩) NB464_480.out _).trans (hHeld.1)))))))), ((cell_far (p := ⟨gb480, _, none⟩) NB464_480.out _).trans (((cell_far (p := ⟨gb480, _, none⟩) NB464_480.out _).trans (((cell_far (p := ⟨gb480, _, none⟩) NB464_480.out _).trans (((cell_far (p := ⟨gb480, _, none⟩) NB464_480.out _).trans (hHeld.2.1)))))))), ((cell_far (p := ⟨gb480, _, none⟩) NB464_480.out _).trans (((cell_far (p := ⟨gb480, _, none⟩) NB464_480.out _).trans (((cell_far (p := ⟨gb480, _, none⟩) NB464_480.out _).trans (((cell_far (p := ⟨gb480, _, none⟩) NB464_480.out _).trans (hHeld.2.2.1)))))))), ((cell_far (p := ⟨gb480, _, none⟩) NB464_480.out _).trans (((cell_far (p := ⟨gb480, _, none⟩) NB464_480.out _).trans (((cell_far (p := ⟨gb480, _, none⟩) NB464_480.out _).trans (((cell_far (p := ⟨gb480, _, none⟩) NB464_480.out _).trans (hHeld.2.2.2.1)))))))), ((cell_far (p := ⟨gb480, _, none⟩) (by first | exact Nat.ne_of_lt (Nat.lt_of_lt_of_le (by have := World.block_lt_of_cell? _ _ hw466_0; first | rwa [add_block] at this | exact this) GW480.out) | (rw [add_block]; exact Nat.ne_of_lt (Nat.lt_of_lt_of_le (by have := World.block_lt_of_cell? _ _ hw466_0; first | rwa [add_block] at this | exact this) GW480.out)) | (show (Addr.add _ _).block ≠ _; rw [add_block]; exact Nat.ne_of_lt (Nat.lt_of_lt_of_le (by have := World.block_lt_of_cell? _ _ hw466_0; first | rwa [add_block] at this | exact this) GW480.out)) | (dsimp only; exact Nat.ne_of_lt (Nat.lt_of_lt_of_le (by have := World.block_lt_of_cell? _ _ hw466_0; first | rwa [add_block] at this | exact this) GW480.out))) _).trans (((cell_far (p := ⟨gb480, _, none⟩) (by first | exact Nat.ne_of_lt (Nat.lt_of_lt_of_le (by have := World.block_lt_of_cell? _ _ hw466_0; first | rwa [add_block] at this | exact this) GW480.out) | (rw [add_block]; exact Nat.ne_of_lt (Nat.lt_of_lt_of_le (by have := World.block_lt_of_cell? _ _ hw466_0; first | rwa [add_block] at this | exact this) GW480.out)) | (show (Addr.add _ _).block ≠ _; rw [add_block]; exact Nat.ne_of_lt (Nat.lt_of_lt_of_le (by have := World.block_lt_of_cell? _ _ hw466_0; first | rwa [add_block] at this | exact this) GW480.out)) | (dsimp only; exact Nat.ne_of_lt (Nat.lt_of_lt_of_le (by have := World.block_lt_of_cell? _ _ hw466_0; first | rwa [add_block] at this | exact this) GW480.out))) _).trans (((cell_far (p := ⟨gb480, _, none⟩) (by first | exact Nat.ne_of_lt (Nat.lt_of_lt_of_le (by have := World.block_lt_of_cell? _ _ hw466_0; first | rwa [add_block] at this | exact this) GW480.out) | (rw [add_block]; exact Nat.ne_of_lt (Nat.lt_of_lt_of_le (by have := World.block_lt_of_cell? _ _ hw466_0; first | rwa [add_block] at this | exact this) GW480.out)) | (show (Addr.add _ _).block ≠ _; rw [add_block]; exact Nat.ne_of_lt (Nat.lt_of_lt_of_le (by have := World.block_lt_of_cell? _ _ hw466_0; first | rwa [add_block] at this | exact this) GW480.out)) | (dsimp only; exact Nat.ne_of_lt (Nat.lt_of_lt_of_le (by have := World.block_lt_of_cell? _ _ hw466_0; first | rwa [add_block] at this | exact this) GW480.out))) _).trans (((cell_far (p := ⟨gb480, _, none⟩) (by first | exact Nat.ne_of_lt (Nat.lt_of_lt_of_le (by have := World.block_lt_of_cell? _ _ hw466_0; first | rwa [add_block] at this | exact this) GW480.out) | (rw [add_block]; exact Nat.ne_of_lt (Nat.lt_of_lt_of_le (by have := World.block_lt_of_cell? _ _ hw466_0; first | rwa [add_block] at this | exact this) GW480.out)) | (show (Addr.add _ _).block ≠ _; rw [add_block]; exact Nat.ne_of_lt (Nat.lt_of_lt_of_le (by have := World.block_lt_of_cell? _ _ hw466_0; first | rwa [add_block] at this | exact this) GW480.out)) | (dsimp only; exact Nat.ne_of_lt (Nat.lt_of_lt_of_le (by have := World.block_lt_of_cell? _ _ hw466_0; first | rwa [add_block] at this | exact this) GW480.out))) _).trans (hHeld.2.2.2.2.1)))))))), ((cell_far (p := ⟨gb480, _, none⟩) (by first | exact Nat.ne_of_lt (Nat.lt_of_lt_of_le (by have := World.block_lt_of_cell? _ _ hw466_1; first | rwa [add_block] at this | exact this) GW480.out) | (rw [add_block]; exact Nat.ne_of_lt (Nat.lt_of_lt_of_le (by have := World.block_lt_of_cell? _ _ hw466_1; first | rwa [add_block] at this | exact this) GW480.out)) | (show (Addr.add _ _).block ≠ _; rw [add_block]; exact Nat.ne_of_lt (Nat.lt_of_lt_of_le (by have := World.block_lt_of_cell? _ _ hw466_1; first | rwa [add_block] at this | exact this) GW480.out)) | (dsimp only; exact Nat.ne_of_lt (Nat.lt_of_lt_of_le (by have := World.block_lt_of_cell? _ _ hw466_1; first | rwa [add_block] at this | exact this) GW480.out))) _).trans (((cell_far (p := ⟨gb480, _, none⟩) (by first | exact Nat.ne_of_lt (Nat.lt_of_lt_of_le (by have := World.block_lt_of_cell? _ _ hw466_1; first | rwa [add_block] at this | exact this) GW480.out) | (rw [add_block]; exact Nat.ne_of_lt (Nat.lt_of_lt_of_le (by have := World.block_lt_of_cell? _ _ hw466_1; first | rwa [add_block] at this | exact this) GW480.out)) | (show (Addr.add _ _).block ≠ _; rw [add_block]; exact Nat.ne_of_lt (Nat.lt_of_lt_of_le (by have := World.block_lt_of_cell? _ _ hw466_1; first | rwa [add_block] at this | exact this) GW480.out)) | (dsimp only; exact Nat.ne_of_lt (Nat.lt_of_lt_of_le (by have := World.block_lt_of_cell? _ _ hw466_1; first | rwa [add_block] at this | exact this) GW480.out))) _).trans (((cell_far (p := ⟨gb480, _, none⟩) (by first | exact Nat.ne_of_lt (Nat.lt_of_lt_of_le (by have := World.block_lt_of_cell? _ _ hw466_1; first | rwa [add_block] at this | exact this) GW480.out) | (rw [add_block]; exact Nat.ne_of_lt (Nat.lt_of_lt_of_le (by have := World.block_lt_of_cell? _ _ hw466_1; first | rwa [add_block] at this | exact this) GW480.out)) | (show (Addr.add _ _).block ≠ _; rw [add_block]; exact Nat.ne_of_lt (Nat.lt_of_lt_of_le (by have := World.block_lt_of_cell? _ _ hw466_1; first | rwa [add_block] at this | exact this) GW480.out)) | (dsimp only; exact Nat.ne_of_lt (Nat.lt_of_lt_of_le (by have := World.block_lt_of_cell? _ _ hw466_1; first | rwa [add_block] at this | exact this) GW480.out))) _).trans (((cell_far (p := ⟨gb480, _, none⟩) (by first | exact Nat.ne_of_lt (Nat.lt_of_lt_of_le (by have := World.block_lt_of_cell? _ _ hw466_1; first | rwa [add_block] at this | exact this) GW480.out) | (rw [add_block]; exact Nat.ne_of_lt (Nat.lt_of_lt_of_le (by have := World.block_lt_of_cell? _ _ hw466_1; first | rwa [add_block] at this | exact this) GW480.out)) | (show (Addr.add _ _).block ≠ _; rw [add_block]; exact Nat.ne_of_lt (Nat.lt_of_lt_of_le (by have := World.block_lt_of_cell? _ _ hw466_1; first | rwa [add_block] at this | exact this) GW480.out)) | (dsimp only; exact Nat.ne_of_lt (Nat.lt_of_lt_of_le (by have := World.block_lt_of_cell? _ _ hw466_1; first | rwa [add_block] at this | exact this) GW480.out))) _).trans (hHeld.2.2.2.2.2.1)))))))), ((cell_far (p := ⟨gb480, _, none⟩) (by first | exact Nat.ne_of_lt (Nat.lt_of_lt_of_le (by have := World.block_lt_of_cell? _ _ hw467_0; first | rwa [add_block] at this | exact this) GW480.out) | (rw [add_block]; exact Nat.ne_of_lt (Nat.lt_of_lt_of_le (by have := World.block_lt_of_cell? _ _ hw467_0; first | rwa [add_block] at this | exact this) GW480.out)) | (show (Addr.add _ _).block ≠ _; rw [add_block]; exact Nat.ne_of_lt (Nat.lt_of_lt_of_le (by have := World.block_lt_of_cell? _ _ hw467_0; first | rwa [add_block] at this | exact this) GW480.out)) | (dsimp only; exact Nat.ne_of_lt (Nat.lt_of_lt_of_le (by have := World.block_lt_of_cell? _ _ hw467_0; first | rwa [add_block] at this | exact this) GW480.out))) _).trans (((cell_far (p := ⟨gb480, _, none⟩) (by first | exact Nat.ne_of_lt (Nat.lt_of_lt_of_le (by have := World.block_lt_of_cell? _ _ hw467_0; first | rwa [add_block] at this | exact this) GW480.out) | (rw [add_block]; exact Nat.ne_of_lt (Nat.lt_of_lt_of_le (by have := World.block_lt_of_cell? _ _ hw467_0; first | rwa [add_block] at this | exact this) GW480.out)) | (show (Addr.add _ _).block ≠ _; rw [add_block]; exact Nat.ne_of_lt (Nat.lt_of_lt_of_le (by have := World.block_lt_of_cell? _ _ hw467_0; first | rwa [add_block] at this | exact this) GW480.out)) | (dsimp only; exact Nat.ne_of_lt (Nat.lt_of_lt_of_le (by have := World.block_lt_of_cell? _ _ hw467_0; first | rwa [add_block] at this | exact this) GW480.out))) _).trans (((cell_far (p := ⟨gb480, _, none⟩) (by first | exact Nat.ne_of_lt (Nat.lt_of_lt_of_le (by have := World.block_lt_of_cell? _ _ hw467_0; first | rwa [add_block] at this | exact this) GW480.out) | (rw [add_block]; exact Nat.ne_of_lt (Nat.lt_of_lt_of_le (by have := World.block_lt_of_cell? _ _ hw467_0; first | rwa [add_block] at this | exact this) GW480.out)) | (show (Addr.add _ _).block ≠ _; rw [add_block]; exact Nat.ne_of_lt (Nat.lt_of_lt_of_le (by have := World.block_lt_of_cell? _ _ hw467_0; first | rwa [add_block] at this | exact this) GW480.out)) | (dsimp only; exact Nat.ne_of_lt (Nat.lt_of_lt_of_le (by have := World.block_lt_of_cell? _ _ hw467_0; first | rwa [add_block] at this | exact this) GW480.out))) _).trans (((cell_far (p := ⟨gb480, _, none⟩) (by first | exact Nat.ne_of_lt (Nat.lt_of_lt_of_le (by have := World.block_lt_of_cell? _ _ hw467_0; first | rwa [add_block] at this | exact this) GW480.out) | (rw [add_block]; exact Nat.ne_of_lt (Nat.lt_of_lt_of_le (by have := World.block_lt_of_cell? _ _ hw467_0; first | rwa [add_block] at this | exact this) GW480.out)) | (show (Addr.add _ _).block ≠ _; rw [add_block]; exact Nat.ne_of_lt (Nat.lt_of_lt_of_le (by have := World.block_lt_of_cell? _ _ hw467_0; first | rwa [add_block] at this | exact this) GW480.out)) | (dsimp only; exact Nat.ne_of_lt (Nat.lt_of_lt_of_le (by have := World.block_lt_of_cell? _ _ hw467_0; first | rwa [add_block] at this | exact this) GW480.out))) _).trans (hHeld.2.2.2.2.2.2.1)))))))), ((cell_far (p := ⟨gb480, _, none⟩) (by first | exact Nat.ne_of_lt (Nat.lt_of_lt_of_le (by have := World.block_lt_of_cell? _ _ hw467_1; first | rwa [add_block] at this | exact this) GW480.out) | (rw [add_block]; exact Nat.ne_of_lt (Nat.lt_of_lt_of_le (by have := World.block_lt_of_cell? _ _ hw467_1; first | rwa [add_block] at this | exact this) GW480.out)) | (show (Addr.add _ _).block ≠ _; rw [add_block]; exact Nat.ne_of_lt (Nat.lt_of_lt_of_le (by have := World.block_lt_of_cell? _ _ hw467_1; first | rwa [add_block] at this | exact this) GW480.out)) | (dsimp only; exact Nat.ne_of_lt (Nat.lt_of_lt_of_le (by have := World.block_lt_of_cell? _ _ hw467_1; first | rwa [add_block] at this | exact this) GW480.out))) _).trans (((cell_far (p := ⟨gb480, _, none⟩) (by first | exact Nat.ne_of_lt (Nat.lt_of_lt_of_le (by have := World.block_lt_of_cell? _ _ hw467_1; first | rwa [add_block] at this | exact this) GW480.out) | (rw [add_block]; exact Nat.ne_of_lt (Nat.lt_of_lt_of_le (by have := World.block_lt_of_cell? _ _ hw467_1; first | rwa [add_block] at this | exact this) GW480.out)) | (show (Addr.add _ _).block ≠ _; rw [add_block]; exact Nat.ne_of_lt (Nat.lt_of_lt_of_le (by have := World.block_lt_of_cell? _ _ hw467_1; first | rwa [add_block] at this | exact this) GW480.out)) | (dsimp only; exact Nat.ne_of_lt (Nat.lt_of_lt_of_le (by have := World.block_lt_of_cell? _ _ hw467_1; first | rwa [add_block] at this | exact this) GW480.out))) _).trans (((cell_far (p := ⟨gb480, _, none⟩) (by first | exact Nat.ne_of_lt (Nat.lt_of_lt_of_le (by have := World.block_lt_of_cell? _ _ hw467_1; first | rwa [add_block] at this | exact this) GW480.out) | (rw [add_block]; exact Nat.ne_of_lt (Nat.lt_of_lt_of_le (by have := World.block_lt_of_cell? _ _ hw467_1; first | rwa [add_block] at this | exact this) GW480.out)) | (show (Addr.add _ _).block ≠ _; rw [add_block]; exact Nat.ne_of_lt (Nat.lt_of_lt_of_le (by have := World.block_lt_of_cell? _ _ hw467_1; first | rwa [add_block] at this | exact this) GW480.out)) | (dsimp only; exact Nat.ne_of_lt (Nat.lt_of_lt_of_le (by have := World.block_lt_of_cell? _ _ hw467_1; first | rwa [add_block] at this | exact this) GW480.out))) _).trans (((cell_far (p := ⟨gb480, _, none⟩) (by first | exact Nat.ne_of_lt (Nat.lt_of_lt_of_le (by have := World.block_lt_of_cell? _ _ hw467_1; first | rwa [add_block] at this | exact this) GW480.out) | (rw [add_block]; exact Nat.ne_of_lt (Nat.lt_of_lt_of_le (by have := World.block_lt_of_cell? _ _ hw467_1; first | rwa [add_block] at this | exact this) GW480.out)) | (show (Addr.add _ _).block ≠ _; rw [add_block]; exact Nat.ne_of_lt (Nat.lt_of_lt_of_le (by have := World.block_lt_of_cell? _ _ hw467_1; first | rwa [add_block] at this | exact this) GW480.out)) | (dsimp only; exact Nat.ne_of_lt (Nat.lt_of_lt_of_le (by have := World.block_lt_of_cell? _ _ hw467_1; first | rwa [add_block] at this | exact this) GW480.out))) _).trans (hHeld.2.2.2.2.2.2.2))))))))⟩ (fun hHeld => ?_)
       clear hK K
       refine pure_ (i := 18) (N := some 9) (v := ?_) (a' := ?_) #[T29,T29,T29,T29,T29,T29,T29,T29,T29,T29,T29,T29,T29,T29,T29,T29,T29,T29,T29] rfl rfl (any_of HT_.out (by kernel_rfl)) (fun _ _ _ h => h) (Or.inl ⟨by rfl, ?_⟩) ?_ ?_
       rotate_left
       ·intro w'
        go_simp
        with_reducible rfl
       rotate_left
       ·simp only [Act.put, List.setIfInBounds_toArray, List.set_cons_zero, List.set_cons_succ, i64_w, i32_w]
        rfl
       refine done_ (done_of HT_.out (by kernel_rfl)) ?_
       try go_wp2
       go_roundg k1
       case measure => have := HK1.out; omega
       case rel => exact ⟨(wrap64 (x7_1 + 1)), (x465000_1), (x465001_1), (x465002_1), (x465003_1), (x466002_1), (x466003_1), (.slice Ao49 x465000_1.length co49), (.slice Ao50 x465001_1.length co50), (by first | rfl | (simp; done) | (simp [*]; done)), H', ⟨by have := HK1.out; omega⟩, ⟨by (with_reducible repeat (first | apply Kd.V_alloc | apply Kd.V_drewN | apply Kd.V_drew)); exact Kd.V_mono (Kd.V_far (p := ⟨gb480, 3, none⟩) (Kd.V_far (p := ⟨gb480, 2, none⟩) (Kd.V_far (p := ⟨gb480, 1, none⟩) (Kd.V_far (p := ⟨gb480, 0, none⟩) (Kd.V_mono HO_465000.out (fun k_ hk => (⟨hk, hk.2.2.2.2.2.2⟩ : _ ∧ k_ ≠ gb480))) (fun _ hk => hk.2) (.slice Ao57 t471.length co57)) (fun _ hk => hk.2) (.slice Ao59 t474.length co59)) (fun _ hk => hk.2) (.int .i64 t477)) (fun _ hk => hk.2) (.bool t478)) (fun _ hk => ⟨hk.1.1, ⟨hk.1.2.2.2.2.1, hk.1.2.2.2.2.2.1⟩⟩)⟩, ⟨by (with_reducible repeat (first | apply Kd.V_alloc | apply Kd.V_drewN | apply Kd.V_drew)); exact Kd.V_mono (Kd.V_far (p := ⟨gb480, 3, none⟩) (Kd.V_far (p := ⟨gb480, 2, none⟩) (Kd.V_far (p := ⟨gb480, 1, none⟩) (Kd.V_far (p := ⟨gb480, 0, none⟩) (Kd.V_mono HO_465001.out (fun k_ hk => (⟨hk, hk.2.2.2.2.2.2⟩ : _ ∧ k_ ≠ gb480))) (fun _ hk => hk.2) (.slice Ao57 t471.length co57)) (fun _ hk => hk.2) (.slice Ao59 t474.length co59)) (fun _ hk => hk.2) (.int .i64 t477)) (fun _ hk => hk.2) (.bool t478)) (fun _ hk => ⟨hk.1.1, ⟨hk.1.2.2.2.2.1, hk.1.2.2.2.2.2.1⟩⟩)⟩, ⟨by (with_reducible repeat (first | refine blk_drewN ?_ _ | refine blk_drew ?_ | refine blk_alloc ?_ _)); refine blk_far ?_ NB464_480.out _; (with_reducible repeat (first | refine blk_drewN ?_ _ | refine blk_drew ?_ | refine blk_alloc ?_ _)); refine blk_far ?_ NB464_480.out _; (with_reducible repeat (first | refine blk_drewN ?_ _ | refine blk_drew ?_ | refine blk_alloc ?_ _)); refine blk_far ?_ NB464_480.out _; (with_reducible repeat (first | refine blk_drewN ?_ _ | refine blk_drew ?_ | refine blk_alloc ?_ _)); refine blk_far ?_ NB464_480.out _; (with_reducible repeat (first | refine blk_drewN ?_ _ | refine blk_drew ?_ | refine blk_alloc ?_ _)); exact BK464.out⟩, ⟨by (with_reducible repeat (first | refine blk_drewN ?_ _ | refine blk_drew ?_ | refine blk_alloc ?_ _)); refine blk_far ?_ NB465_480.out _; (with_reducible repeat (first | refine blk_drewN ?_ _ | refine blk_drew ?_ | refine blk_alloc ?_ _)); refine blk_far ?_ NB465_480.out _; (with_reducible repeat (first | refine blk_drewN ?_ _ | refine blk_drew ?_ | refine blk_alloc ?_ _)); refine blk_far ?_ NB465_480.out _; (with_reducible repeat (first | refine blk_drewN ?_ _ | refine blk_drew ?_ | refine blk_alloc ?_ _)); refine blk_far ?_ NB465_480.out _; (with_reducible repeat (first | refine blk_drewN ?_ _ | refine blk_drew ?_ | refine blk_alloc ?_ _)); exact BK465.out⟩, ⟨by repeat (first | (with_reducible first | exact HB.out | apply below_alloc | apply pw_below_drewN | apply below_drew1 | refine below_set ?_ GE464.out | refine below_set ?_ GE465.out | refine below_set ?_ GE480.out) | exact HB.out)⟩⟩
    ·rw [if_neg c6] at H
     exact absurd H (by simp)
   ·rw [if_neg c5] at H
    have c5b0 : decide (x7_1 < (l1.length : Int)) = false := decide_eq_false c5
    clear c5
    simp only [Option.some.injEq, Prod.mk.injEq] at H
    obtain ⟨rfl, rfl, rfl, rfl, rfl, rfl⟩ := H
    have hnb63 := NB464_465.out
    have hnc63 := NB465_464.out
    have hcz64_0 : wr.cell? ⟨gb464, 0, none⟩ = some (u465000) := (blk_cell BK464.out 0).trans rfl
    have hcz64_1 : wr.cell? ⟨gb464, 1, none⟩ = some (u465001) := (blk_cell BK464.out 1).trans rfl
    have hcz64_2 : wr.cell? ⟨gb464, 2, none⟩ = some (.int .i64 x465002_1) := (blk_cell BK464.out 2).trans rfl
    have hcz64_3 : wr.cell? ⟨gb464, 3, none⟩ = some (.bool x465003_1) := (blk_cell BK464.out 3).trans rfl
    have hfz64_0 := blk_frozen BK464.out 0
    have hfz64_1 := blk_frozen BK464.out 1
    have hfz64_2 := blk_frozen BK464.out 2
    have hfz64_3 := blk_frozen BK464.out 3
    obtain ⟨Ao65, co65, eo65⟩ := Kd.V_slice HO_465000.out
    subst eo65
    have hcz66_0 : wr.cell? ⟨gb465, 0, none⟩ = some (.slice none 0 0) := (blk_cell BK465.out 0).trans rfl
    have hcz66_1 : wr.cell? ⟨gb465, 1, none⟩ = some (.slice none 0 0) := (blk_cell BK465.out 1).trans rfl
    have hcz66_2 : wr.cell? ⟨gb465, 2, none⟩ = some (.int .i64 x466002_1) := (blk_cell BK465.out 2).trans rfl
    have hcz66_3 : wr.cell? ⟨gb465, 3, none⟩ = some (.bool x466003_1) := (blk_cell BK465.out 3).trans rfl
    have hfz66_0 := blk_frozen BK465.out 0
    have hfz66_1 := blk_frozen BK465.out 1
    have hfz66_2 := blk_frozen BK465.out 2
    have hfz66_3 := blk_frozen BK465.out 3
    obtain ⟨Ao67, co67, eo67⟩ := Kd.V_slice HO_465001.out
    subst eo67
    go_wp2
    refine bodyPost_ret (results_ctt rfl _ _ gb465 25 #[.slice Ao65 x465000_1.length co65, .slice Ao67 x465001_1.length co67, .int .i64 x465002_1, .bool x465003_1] (0, 0) _ rfl (by (with_reducible repeat (first | refine blk_drewN ?_ _ | refine blk_drew ?_ | refine blk_alloc ?_ _)); refine blk_put (cs := #[.slice Ao65 x465000_1.length co65, .slice Ao67 x465001_1.length co67, .int .i64 x465002_1, .bool x466003_1]) ?_ 3 _ rfl; (with_reducible repeat (first | refine blk_drewN ?_ _ | refine blk_drew ?_ | refine blk_alloc ?_ _)); refine blk_put (cs := #[.slice Ao65 x465000_1.length co65, .slice Ao67 x465001_1.length co67, .int .i64 x466002_1, .bool x466003_1]) ?_ 2 _ rfl; (with_reducible repeat (first | refine blk_drewN ?_ _ | refine blk_drew ?_ | refine blk_alloc ?_ _)); refine blk_put (cs := #[.slice Ao65 x465000_1.length co65, .slice none 0 0, .int .i64 x466002_1, .bool x466003_1]) ?_ 1 _ rfl; (with_reducible repeat (first | refine blk_drewN ?_ _ | refine blk_drew ?_ | refine blk_alloc ?_ _)); refine blk_put (cs := #[.slice none 0 0, .slice none 0 0, .int .i64 x466002_1, .bool x466003_1]) ?_ 0 _ rfl; (with_reducible repeat (first | refine blk_drewN ?_ _ | refine blk_drew ?_ | refine blk_alloc ?_ _)); exact BK465.out) Try.underlying25 rfl (by kernel_rfl)) rfl ?_
    exact ⟨_, _, by first | rfl | (simp [errW_none, errW_some] <;> rfl) | (simp [*, errW_none, errW_some] <;> rfl), by (with_reducible repeat (first | apply Kd.V_alloc | apply Kd.V_drewN | apply Kd.V_drew)); exact Kd.V_mono (Kd.V_far (p := ⟨gb465, 3, none⟩) (Kd.V_far (p := ⟨gb465, 2, none⟩) (Kd.V_far (p := ⟨gb465, 1, none⟩) (Kd.V_far (p := ⟨gb465, 0, none⟩) (Kd.V_mono HO_465000.out (fun k_ hk => (⟨hk, hk.2.2⟩ : _ ∧ k_ ≠ gb465))) (fun _ hk => hk.2) (.slice Ao65 x465000_1.length co65)) (fun _ hk => hk.2) (.slice Ao67 x465001_1.length co67)) (fun _ hk => hk.2) (.int .i64 x465002_1)) (fun _ hk => hk.2) (.bool x465003_1)) (fun _ hk => hk.1.1), by (with_reducible repeat (first | apply Kd.V_alloc | apply Kd.V_drewN | apply Kd.V_drew)); exact Kd.V_mono (Kd.V_far (p := ⟨gb465, 3, none⟩) (Kd.V_far (p := ⟨gb465, 2, none⟩) (Kd.V_far (p := ⟨gb465, 1, none⟩) (Kd.V_far (p := ⟨gb465, 0, none⟩) (Kd.V_mono HO_465001.out (fun k_ hk => (⟨hk, hk.2.2⟩ : _ ∧ k_ ≠ gb465))) (fun _ hk => hk.2) (.slice Ao65 x465000_1.length co65)) (fun _ hk => hk.2) (.slice Ao67 x465001_1.length co67)) (fun _ hk => hk.2) (.int .i64 x465002_1)) (fun _ hk => hk.2) (.bool x465003_1)) (fun _ hk => hk.1.1), by repeat (first | (with_reducible first | exact HB.out | apply below_alloc | apply pw_below_drewN | apply below_drew1 | refine below_set ?_ GE464.out | refine below_set ?_ GE465.out) | exact HB.out)⟩

end Go.Proofs.Ytjicigagejihhaa.PA
