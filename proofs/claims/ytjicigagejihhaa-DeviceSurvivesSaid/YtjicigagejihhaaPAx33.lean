-- Written by wip/pp.py of this repository, on the kit's print program. Not trusted: Lean checks it.
import Derived.Test.YtjicigagejihhaaPAx0
import Derived.Test.YtjicigagejihhaaPAx2
import Derived.Test.YtjicigagejihhaaPAx7
import Derived.Test.YtjicigagejihhaaPAx8
import Derived.Test.YtjicigagejihhaaPAx12
import Derived.Test.YtjicigagejihhaaPAx14
import Derived.Test.YtjicigagejihhaaPAx23
namespace Go.Proofs.Ytjicigagejihhaa.PA
open Go.RowKit Go.Proofs.YtjicigagejihhaaW.PrintWords Go.Proofs.YtjicigagejihhaaW.PrintLast Go.Proofs.YtjicigagejihhaaW.PrintMore
attribute [local go_sem] max2_int min2_int max_two min_two max_three min_three max_four min_four   -- for this text's walks alone
set_option linter.unusedVariables false
set_option linter.unusedSimpArgs false

/-! ### mapsheetslaw24_DeviceSurvives: function 8 -/
mutual
def mapsheetslaw24_DeviceSurvives.j0 : Nat → List Int → Bool → List (List Int) → List (S53) → Int → Bool → Option (Bool)
  | 0, _, _, _, _, _, _ => none
  | k + 1, x1, x19, x649000, x649001, x649002, x649003 => if x19 = true then ((mapsheetslaw24_awake.f).bind fun t650 => (some t650)) else ((device_Crash.f k x649000 x649001 x649002 x649003 x1).bind fun bt651 => ((mapsheetsref24_Kept.f k x649001 x1).bind fun t660 => (if (bt651.1.length : Int) = (x649000.length : Int) then (if (bt651.2.1.length : Int) > 0 then (mapsheetslaw24_DeviceSurvives.j1 k t660 true x649000 x649001 x649002 x649003 bt651.1 bt651.2.1 bt651.2.2.1 bt651.2.2.2) else (if bt651.2.2.2 = true then (mapsheetslaw24_DeviceSurvives.j1 k t660 true x649000 x649001 x649002 x649003 bt651.1 bt651.2.1 bt651.2.2.1 bt651.2.2.2) else (mapsheetslaw24_DeviceSurvives.j1 k t660 (bt651.2.2.1 != (-1)) x649000 x649001 x649002 x649003 bt651.1 bt651.2.1 bt651.2.2.1 bt651.2.2.2))) else (mapsheetslaw24_DeviceSurvives.j1 k t660 true x649000 x649001 x649002 x649003 bt651.1 bt651.2.1 bt651.2.2.1 bt651.2.2.2))))
def mapsheetslaw24_DeviceSurvives.j1 : Nat → List (S53) → Bool → List (List Int) → List (S53) → Int → Bool → List (List Int) → List (S53) → Int → Bool → Option (Bool)
  | 0, _, _, _, _, _, _, _, _, _, _ => none
  | k + 1, x6, x49, x649000, x649001, x649002, x649003, x660000, x660001, x660002, x660003 => if x49 = true then (none) else (mapsheetslaw24_DeviceSurvives.l0 k x6 0 x649000 x649001 x649002 x649003 x660000 x660001 x660002 x660003)
def mapsheetslaw24_DeviceSurvives.l0 : Nat → List (S53) → Int → List (List Int) → List (S53) → Int → Bool → List (List Int) → List (S53) → Int → Bool → Option (Bool)
  | 0, _, _, _, _, _, _, _, _, _, _ => none
  | k + 1, x6, x7, x649000, x649001, x649002, x649003, x660000, x660001, x660002, x660003 => if x7 < (x649000.length : Int) then (if 0 ≤ x7 then (mapsheetslaw24_DeviceSurvives.l1 k x6 x7 (rd_L1 x649000 x7) 0 x649000 x649001 x649002 x649003 x660000 x660001 x660002 x660003) else (none)) else ((mapsheetslaw24_awake.f).bind fun t663 => (some t663))
def mapsheetslaw24_DeviceSurvives.l1 : Nat → List (S53) → Int → List Int → Int → List (List Int) → List (S53) → Int → Bool → List (List Int) → List (S53) → Int → Bool → Option (Bool)
  | 0, _, _, _, _, _, _, _, _, _, _, _, _ => none
  | k + 1, x6, x7, x8, x9, x649000, x649001, x649002, x649003, x660000, x660001, x660002, x660003 => if x9 < (x6.length : Int) then (if 0 ≤ x9 then (if ((rd_T53 x6 x9).f0) = x7 then (mapsheetslaw24_DeviceSurvives.l1 k x6 x7 ((rd_T53 x6 x9).f1) (wrap64 (x9 + 1)) x649000 x649001 x649002 x649003 x660000 x660001 x660002 x660003) else (mapsheetslaw24_DeviceSurvives.l1 k x6 x7 x8 (wrap64 (x9 + 1)) x649000 x649001 x649002 x649003 x660000 x660001 x660002 x660003)) else (none)) else ((device_Read.f k x660000 x660001 x660002 x660003 x7).bind fun bt667 => (if bt667.2 = 0 then ((mapsheetsref24_SameBytes.f k bt667.1 x8).bind fun t671 => (if t671 = true then (mapsheetslaw24_DeviceSurvives.l0 k x6 (wrap64 (x7 + 1)) x649000 x649001 x649002 x649003 x660000 x660001 x660002 x660003) else (none))) else (none)))
end
def mapsheetslaw24_DeviceSurvives.f (k : Nat) (l0_0 : List (List Int)) (l0_1 : List (S53)) (a0_2 : Int) (a0_3 : Bool) (l1 : List Int) : Option (Bool) := (mapsheetsref24_Few.f k l0_0 l0_1 a0_2 a0_3 100).bind fun t649 => (if t649 = true then (mapsheetslaw24_DeviceSurvives.j0 k l1 (decide ((l1.length : Int) > 200)) l0_0 l0_1 a0_2 a0_3) else (mapsheetslaw24_DeviceSurvives.j0 k l1 true l0_0 l0_1 a0_2 a0_3))
theorem mapsheetslaw24_DeviceSurvives.mono_l : ∀ k, (∀ y0 y1 y2 y3 y4 y5, LeO (mapsheetslaw24_DeviceSurvives.j0 k y0 y1 y2 y3 y4 y5) (mapsheetslaw24_DeviceSurvives.j0 (k + 1) y0 y1 y2 y3 y4 y5)) ∧ (∀ y0 y1 y2 y3 y4 y5 y6 y7 y8 y9, LeO (mapsheetslaw24_DeviceSurvives.j1 k y0 y1 y2 y3 y4 y5 y6 y7 y8 y9) (mapsheetslaw24_DeviceSurvives.j1 (k + 1) y0 y1 y2 y3 y4 y5 y6 y7 y8 y9)) ∧ (∀ y0 y1 y2 y3 y4 y5 y6 y7 y8 y9, LeO (mapsheetslaw24_DeviceSurvives.l0 k y0 y1 y2 y3 y4 y5 y6 y7 y8 y9) (mapsheetslaw24_DeviceSurvives.l0 (k + 1) y0 y1 y2 y3 y4 y5 y6 y7 y8 y9)) ∧ (∀ y0 y1 y2 y3 y4 y5 y6 y7 y8 y9 y10 y11, LeO (mapsheetslaw24_DeviceSurvives.l1 k y0 y1 y2 y3 y4 y5 y6 y7 y8 y9 y10 y11) (mapsheetslaw24_DeviceSurvives.l1 (k + 1) y0 y1 y2 y3 y4 y5 y6 y7 y8 y9 y10 y11))
  | 0 => ⟨fun _ _ _ _ _ _ r h => by simp [mapsheetslaw24_DeviceSurvives.j0] at h, fun _ _ _ _ _ _ _ _ _ _ r h => by simp [mapsheetslaw24_DeviceSurvives.j1] at h, fun _ _ _ _ _ _ _ _ _ _ r h => by simp [mapsheetslaw24_DeviceSurvives.l0] at h, fun _ _ _ _ _ _ _ _ _ _ _ _ r h => by simp [mapsheetslaw24_DeviceSurvives.l1] at h⟩
  | k + 1 => by
    obtain ⟨ih0, ih1, ih2, ih3⟩ := mapsheetslaw24_DeviceSurvives.mono_l k
    refine ⟨?_, ?_, ?_, ?_⟩
    · intro y0 y1 y2 y3 y4 y5
      unfold mapsheetslaw24_DeviceSurvives.j0
      repeat' first
      | (with_reducible exact ih0 _ _ _ _ _ _)
      | (with_reducible exact ih1 _ _ _ _ _ _ _ _ _ _)
      | (with_reducible exact ih2 _ _ _ _ _ _ _ _ _ _)
      | (with_reducible exact ih3 _ _ _ _ _ _ _ _ _ _ _ _)
      | (with_reducible exact device_Crash.mono _ _ _ _ _ _)
      | (with_reducible exact device_Read.mono _ _ _ _ _ _)
      | (with_reducible exact mapsheetsref24_Few.mono _ _ _ _ _ _)
      | (with_reducible exact mapsheetsref24_Kept.mono _ _ _)
      | (with_reducible exact mapsheetsref24_SameBytes.mono _ _ _)
      | (with_reducible exact LeO.refl _)
      | (with_reducible exact LeO.none _)
      | (with_reducible refine LeO.ite ?_ ?_)
      | (with_reducible refine LeO.bind ?_ (fun _ => ?_))
      | exact ih0 _ _ _ _ _ _
      | exact ih1 _ _ _ _ _ _ _ _ _ _
      | exact ih2 _ _ _ _ _ _ _ _ _ _
      | exact ih3 _ _ _ _ _ _ _ _ _ _ _ _
      | exact device_Crash.mono _ _ _ _ _ _
      | exact device_Read.mono _ _ _ _ _ _
      | exact mapsheetsref24_Few.mono _ _ _ _ _ _
      | exact mapsheetsref24_Kept.mono _ _ _
      | exact mapsheetsref24_SameBytes.mono _ _ _
      | exact LeO.none _
      | refine LeO.ite ?_ ?_
      | refine LeO.bind ?_ (fun _ => ?_)
    · intro y0 y1 y2 y3 y4 y5 y6 y7 y8 y9
      unfold mapsheetslaw24_DeviceSurvives.j1
      repeat' first
      | (with_reducible exact ih0 _ _ _ _ _ _)
      | (with_reducible exact ih1 _ _ _ _ _ _ _ _ _ _)
      | (with_reducible exact ih2 _ _ _ _ _ _ _ _ _ _)
      | (with_reducible exact ih3 _ _ _ _ _ _ _ _ _ _ _ _)
      | (with_reducible exact device_Crash.mono _ _ _ _ _ _)
      | (with_reducible exact device_Read.mono _ _ _ _ _ _)
      | (with_reducible exact mapsheetsref24_Few.mono _ _ _ _ _ _)
      | (with_reducible exact mapsheetsref24_Kept.mono _ _ _)
      | (with_reducible exact mapsheetsref24_SameBytes.mono _ _ _)
      | (with_reducible exact LeO.refl _)
      | (with_reducible exact LeO.none _)
      | (with_reducible refine LeO.ite ?_ ?_)
      | (with_reducible refine LeO.bind ?_ (fun _ => ?_))
      | exact ih0 _ _ _ _ _ _
      | exact ih1 _ _ _ _ _ _ _ _ _ _
      | exact ih2 _ _ _ _ _ _ _ _ _ _
      | exact ih3 _ _ _ _ _ _ _ _ _ _ _ _
      | exact device_Crash.mono _ _ _ _ _ _
      | exact device_Read.mono _ _ _ _ _ _
      | exact mapsheetsref24_Few.mono _ _ _ _ _ _
      | exact mapsheetsref24_Kept.mono _ _ _
      | exact mapsheetsref24_SameBytes.mono _ _ _
      | exact LeO.none _
      | refine LeO.ite ?_ ?_
      | refine LeO.bind ?_ (fun _ => ?_)
    · intro y0 y1 y2 y3 y4 y5 y6 y7 y8 y9
      unfold mapsheetslaw24_DeviceSurvives.l0
      repeat' first
      | (with_reducible exact ih0 _ _ _ _ _ _)
      | (with_reducible exact ih1 _ _ _ _ _ _ _ _ _ _)
      | (with_reducible exact ih2 _ _ _ _ _ _ _ _ _ _)
      | (with_reducible exact ih3 _ _ _ _ _ _ _ _ _ _ _ _)
      | (with_reducible exact device_Crash.mono _ _ _ _ _ _)
      | (with_reducible exact device_Read.mono _ _ _ _ _ _)
      | (with_reducible exact mapsheetsref24_Few.mono _ _ _ _ _ _)
      | (with_reducible exact mapsheetsref24_Kept.mono _ _ _)
      | (with_reducible exact mapsheetsref24_SameBytes.mono _ _ _)
      | (with_reducible exact LeO.refl _)
      | (with_reducible exact LeO.none _)
      | (with_reducible refine LeO.ite ?_ ?_)
      | (with_reducible refine LeO.bind ?_ (fun _ => ?_))
      | exact ih0 _ _ _ _ _ _
      | exact ih1 _ _ _ _ _ _ _ _ _ _
      | exact ih2 _ _ _ _ _ _ _ _ _ _
      | exact ih3 _ _ _ _ _ _ _ _ _ _ _ _
      | exact device_Crash.mono _ _ _ _ _ _
      | exact device_Read.mono _ _ _ _ _ _
      | exact mapsheetsref24_Few.mono _ _ _ _ _ _
      | exact mapsheetsref24_Kept.mono _ _ _
      | exact mapsheetsref24_SameBytes.mono _ _ _
      | exact LeO.none _
      | refine LeO.ite ?_ ?_
      | refine LeO.bind ?_ (fun _ => ?_)
    · intro y0 y1 y2 y3 y4 y5 y6 y7 y8 y9 y10 y11
      unfold mapsheetslaw24_DeviceSurvives.l1
      repeat' first
      | (with_reducible exact ih0 _ _ _ _ _ _)
      | (with_reducible exact ih1 _ _ _ _ _ _ _ _ _ _)
      | (with_reducible exact ih2 _ _ _ _ _ _ _ _ _ _)
      | (with_reducible exact ih3 _ _ _ _ _ _ _ _ _ _ _ _)
      | (with_reducible exact device_Crash.mono _ _ _ _ _ _)
      | (with_reducible exact device_Read.mono _ _ _ _ _ _)
      | (with_reducible exact mapsheetsref24_Few.mono _ _ _ _ _ _)
      | (with_reducible exact mapsheetsref24_Kept.mono _ _ _)
      | (with_reducible exact mapsheetsref24_SameBytes.mono _ _ _)
      | (with_reducible exact LeO.refl _)
      | (with_reducible exact LeO.none _)
      | (with_reducible refine LeO.ite ?_ ?_)
      | (with_reducible refine LeO.bind ?_ (fun _ => ?_))
      | exact ih0 _ _ _ _ _ _
      | exact ih1 _ _ _ _ _ _ _ _ _ _
      | exact ih2 _ _ _ _ _ _ _ _ _ _
      | exact ih3 _ _ _ _ _ _ _ _ _ _ _ _
      | exact device_Crash.mono _ _ _ _ _ _
      | exact device_Read.mono _ _ _ _ _ _
      | exact mapsheetsref24_Few.mono _ _ _ _ _ _
      | exact mapsheetsref24_Kept.mono _ _ _
      | exact mapsheetsref24_SameBytes.mono _ _ _
      | exact LeO.none _
      | refine LeO.ite ?_ ?_
      | refine LeO.bind ?_ (fun _ => ?_)
theorem mapsheetslaw24_DeviceSurvives.mono : ∀ a0 a1 a2 a3 a4 k, LeO (mapsheetslaw24_DeviceSurvives.f k a0 a1 a2 a3 a4) (mapsheetslaw24_DeviceSurvives.f (k + 1) a0 a1 a2 a3 a4) := by
  intro a0 a1 a2 a3 a4 k
  obtain ⟨ih0, ih1, ih2, ih3⟩ := mapsheetslaw24_DeviceSurvives.mono_l k
  unfold mapsheetslaw24_DeviceSurvives.f
  repeat' first
      | (with_reducible exact ih0 _ _ _ _ _ _)
      | (with_reducible exact ih1 _ _ _ _ _ _ _ _ _ _)
      | (with_reducible exact ih2 _ _ _ _ _ _ _ _ _ _)
      | (with_reducible exact ih3 _ _ _ _ _ _ _ _ _ _ _ _)
      | (with_reducible exact device_Crash.mono _ _ _ _ _ _)
      | (with_reducible exact device_Read.mono _ _ _ _ _ _)
      | (with_reducible exact mapsheetsref24_Few.mono _ _ _ _ _ _)
      | (with_reducible exact mapsheetsref24_Kept.mono _ _ _)
      | (with_reducible exact mapsheetsref24_SameBytes.mono _ _ _)
      | (with_reducible exact LeO.refl _)
      | (with_reducible exact LeO.none _)
      | (with_reducible refine LeO.ite ?_ ?_)
      | (with_reducible refine LeO.bind ?_ (fun _ => ?_))
      | exact ih0 _ _ _ _ _ _
      | exact ih1 _ _ _ _ _ _ _ _ _ _
      | exact ih2 _ _ _ _ _ _ _ _ _ _
      | exact ih3 _ _ _ _ _ _ _ _ _ _ _ _
      | exact device_Crash.mono _ _ _ _ _ _
      | exact device_Read.mono _ _ _ _ _ _
      | exact mapsheetsref24_Few.mono _ _ _ _ _ _
      | exact mapsheetsref24_Kept.mono _ _ _
      | exact mapsheetsref24_SameBytes.mono _ _ _
      | exact LeO.none _
      | refine LeO.ite ?_ ?_
      | refine LeO.bind ?_ (fun _ => ?_)
set_option maxHeartbeats 8000000 in
set_option maxRecDepth 100000 in
theorem mapsheetslaw24_DeviceSurvives.calls (k : Nat) (P0_0_ : Nat → Prop) (A0_0 : Option Addr) (c0_0 : Nat) (l0_0 : List (List Int)) (P0_1_ : Nat → Prop) (A0_1 : Option Addr) (c0_1 : Nat) (l0_1 : List (S53)) (a0_2 : Int) (a0_3 : Bool) (A1 : Option Addr) (c1 : Nat) (l1 : List Int) (r : Bool) (w : World) (hs0_0 : Kd.V (Kd.slice 5 (Kd.int .u8)) 26 w w.heap.size (fun k_ => P0_0_ k_) (.slice A0_0 l0_0.length c0_0) l0_0) (hs0_1 : Kd.V k53 53 w w.heap.size (fun k_ => P0_1_ k_) (.slice A0_1 l0_1.length c0_1) l0_1) (hr1 : Kd.C (Kd.int .i64) w A1 l1.length l1) (hc1 : l1.length ≤ c1) (h : mapsheetslaw24_DeviceSurvives.f k l0_0 l0_1 a0_2 a0_3 l1 = some r) :
    Calls Try.prog 8 #[.agg #[.slice A0_0 l0_0.length c0_0, .slice A0_1 l0_1.length c0_1, .int .i64 a0_2, .bool a0_3], .slice A1 l1.length c1] w fun e w' => e = .returned (.bool r) ∧ Below w.heap.size w w' := by
  have hu25 := Try.underlying25
  have HO0_0 := Aside0.mk (show Kd.V (Kd.slice 5 (Kd.int .u8)) 26 w w.heap.size (fun k_ => ((P0_0_ k_ ∨ P0_1_ k_) ∨ w.heap.size ≤ k_)) (.slice A0_0 l0_0.length c0_0) l0_0 from Kd.V_mono hs0_0 (fun k_ hk => .inl (.inl hk)))
  have HO0_1 := Aside0.mk (show Kd.V k53 53 w w.heap.size (fun k_ => ((P0_0_ k_ ∨ P0_1_ k_) ∨ w.heap.size ≤ k_)) (.slice A0_1 l0_1.length c0_1) l0_1 from Kd.V_mono hs0_1 (fun k_ hk => .inl (.inr hk)))
  have HR1 := Aside0.mk hr1
  have HC1 := Aside0.mk hc1
  clear hr1 hc1
  have HB := Aside0.mk (Below.refl w.heap.size w)
  have H : ((mapsheetsref24_Few.f k l0_0 l0_1 a0_2 a0_3 100).bind fun t649 => (if t649 = true then (mapsheetslaw24_DeviceSurvives.j0 k l1 (decide ((l1.length : Int) > 200)) l0_0 l0_1 a0_2 a0_3) else (mapsheetslaw24_DeviceSurvives.j0 k l1 true l0_0 l0_1 a0_2 a0_3))) = some r := h
  clear h
  have HC3 := Aside0.mk H
  clear H
  go_enter Try.func8, Try.ntmps8
  go_upto_region 1 with (first | ((with_reducible refine gate_dst (N := 2) rfl ?_); (try (refine gate_guard (by rfl) ?_; dsimp only)); refine box_event ?hg (N := 2) ?hd (cs := #[.slice A0_0 l0_0.length c0_0, .slice A0_1 l0_1.length c0_1, .int .i64 a0_2, .bool a0_3]) (t := 25) ?hr ?_; (case hd => rfl); (case hg => rfl); (case hr => first | (go_simp; done) | (go_simp; rfl)); intro gb648 hg w4 hbox hb; have n0_ := Aside0.mk (Kd.V_below (Kd.V_elderB (by (with_reducible repeat (first | apply Kd.V_alloc | apply Kd.V_drewN | apply Kd.V_drew)); exact HO0_0.out) gb648 (Nat.le_of_eq hg.symm)) hb); have n1_ := Aside0.mk (Kd.V_below (Kd.V_elderB (by (with_reducible repeat (first | apply Kd.V_alloc | apply Kd.V_drewN | apply Kd.V_drew)); exact HO0_1.out) gb648 (Nat.le_of_eq hg.symm)) hb); have n2_ := Aside0.mk (below_step (by repeat (first | (with_reducible first | exact HB.out | apply below_alloc | apply pw_below_drewN | apply below_drew1) | exact HB.out)) hb); have n3_ := Aside0.mk (hbox); have n4_ := Aside0.mk ((by rw [hg]; exact (below_size (by repeat (first | (with_reducible first | exact HB.out | apply below_alloc | apply pw_below_drewN | apply below_drew1) | exact HB.out))) : w.heap.size ≤ gb648)); have n5_ := Aside0.mk ((by rw [hg]; exact (below_size (by repeat (first | (with_reducible first | exact HB.out | apply below_alloc | apply pw_below_drewN | apply below_drew1) | exact HB.out))) : w.heap.size ≤ gb648)); clear HO0_0; clear HO0_1; clear HB; have HO0_0 := n0_; have HO0_1 := n1_; have HB := n2_; have BK648 := n3_; have GW648 := n4_; have GE648 := n5_; clear n0_ n1_ n2_ n3_ n4_ n5_; clear hb hbox hg))
  (try simp only [Act.put, List.setIfInBounds_toArray, List.set_cons_zero, List.set_cons_succ])
  go_cut [19] (fun v19 wc => ∃ (kq : Nat) (x19_2 : Bool), v19 = .bool x19_2 ∧ Aside0 (mapsheetslaw24_DeviceSurvives.j0 kq l1 x19_2 l0_0 l0_1 a0_2 a0_3 = some r) ∧ Aside0 (kq ≤ k) ∧ Aside0 (Kd.V (Kd.slice 5 (Kd.int .u8)) 26 wc w.heap.size (fun k_ => ((P0_0_ k_ ∨ P0_1_ k_) ∨ w.heap.size ≤ k_) ∧ k_ ≠ gb648) (.slice A0_0 l0_0.length c0_0) l0_0) ∧ Aside0 (Kd.V k53 53 wc w.heap.size (fun k_ => ((P0_0_ k_ ∨ P0_1_ k_) ∨ w.heap.size ≤ k_) ∧ k_ ≠ gb648) (.slice A0_1 l0_1.length c0_1) l0_1) ∧ Aside0 (wc.heap[gb648]? = some (.cells #[(.slice A0_0 l0_0.length c0_0), (.slice A0_1 l0_1.length c0_1), .int .i64 a0_2, .bool a0_3] 25 (0, 0))) ∧ Aside0 (Below w.heap.size w wc))
  case first =>
    have H := HC3.out
    clear HC3
    replace H := Option.bind_eq_some_iff.mp H
    obtain ⟨t649, A50, H⟩ := H
    replace H : (if t649 = true then (mapsheetslaw24_DeviceSurvives.j0 k l1 (decide ((l1.length : Int) > 200)) l0_0 l0_1 a0_2 a0_3) else (mapsheetslaw24_DeviceSurvives.j0 k l1 true l0_0 l0_1 a0_2 a0_3)) = some r := H
    have A5 := Aside0.mk A50
    clear A50
    by_cases c6 : t649 = true
    · subst c6
      have H1 : (mapsheetslaw24_DeviceSurvives.j0 k l1 (decide ((l1.length : Int) > 200)) l0_0 l0_1 a0_2 a0_3) = some r := by rw [if_pos rfl] at H; exact H
      clear H
      have H := H1
      clear H1
      have H' := Aside0.mk H
      clear H
      have hcz7_0 : w4.cell? ⟨gb648, 0, none⟩ = some (.slice A0_0 l0_0.length c0_0) := (blk_cell BK648.out 0).trans rfl
      have hcz7_1 : w4.cell? ⟨gb648, 1, none⟩ = some (.slice A0_1 l0_1.length c0_1) := (blk_cell BK648.out 1).trans rfl
      have hcz7_2 : w4.cell? ⟨gb648, 2, none⟩ = some (.int .i64 a0_2) := (blk_cell BK648.out 2).trans rfl
      have hcz7_3 : w4.cell? ⟨gb648, 3, none⟩ = some (.bool a0_3) := (blk_cell BK648.out 3).trans rfl
      have hfz7_0 := blk_frozen BK648.out 0
      have hfz7_1 := blk_frozen BK648.out 1
      have hfz7_2 := blk_frozen BK648.out 2
      have hfz7_3 := blk_frozen BK648.out 3
      go_wp2_with (first | ((with_reducible refine gate_callee (f := 11) rfl ?_); refine goesL_ (some 13) rfl rfl Try.func11 (by kernel_rfl) rfl #[.agg #[.slice A0_0 l0_0.length c0_0, .slice A0_1 l0_1.length c0_1, .int .i64 a0_2, .bool a0_3], .int .i64 100] rfl (by (try simp only [List.map_toArray, List.map_cons, List.map_nil]); first | done | rfl | (simp only [List.length_drop, List.length_take]; rfl)) ?_; (with_reducible refine (mapsheetsref24_Few.calls k _ _ l0_0 _ _ l0_1 a0_2 a0_3 100 true _ ?side1 ?side2 ?side3 ?side4 A5.out).mono ?_); (case side1 => repeat (first | exact (Kd.V_reads' HO0_0.out).2.2 | (with_reducible refine Kd.C_alloc ?_ _) | (with_reducible refine Kd.C_drewN ?_ _) | (with_reducible refine Kd.C_drew ?_))); (case side2 => exact (Kd.V_reads' HO0_0.out).2.1); (case side3 => repeat (first | exact (Kd.V_reads' HO0_1.out).2.2 | (with_reducible refine Kd.C_alloc ?_ _) | (with_reducible refine Kd.C_drewN ?_ _) | (with_reducible refine Kd.C_drew ?_))); (case side4 => exact (Kd.V_reads' HO0_1.out).2.1); rintro e w8 ⟨rfl, hb⟩; refine ⟨_, rfl, ?_⟩; have n0_ := Aside0.mk (Kd.V_below (by (with_reducible repeat (first | apply Kd.V_alloc | apply Kd.V_drewN | apply Kd.V_drew)); exact HO0_0.out) hb); have n1_ := Aside0.mk (Kd.V_below (by (with_reducible repeat (first | apply Kd.V_alloc | apply Kd.V_drewN | apply Kd.V_drew)); exact HO0_1.out) hb); have n2_ := Aside0.mk (blk_below (g := gb648) (o := .cells #[.slice A0_0 l0_0.length c0_0, .slice A0_1 l0_1.length c0_1, .int .i64 a0_2, .bool a0_3] 25 (0, 0)) (by (with_reducible repeat (first | refine blk_drewN ?_ _ | refine blk_drew ?_ | refine blk_alloc ?_ _)); exact BK648.out) hb); have n3_ := Aside0.mk (below_step (by repeat (first | (with_reducible first | exact HB.out | apply below_alloc | apply pw_below_drewN | apply below_drew1 | refine below_set ?_ GE648.out) | exact HB.out)) hb); clear HO0_0; clear HO0_1; clear BK648; clear HB; have HO0_0 := n0_; have HO0_1 := n1_; have BK648 := n2_; have HB := n3_; clear n0_ n1_ n2_ n3_; (try clear hb); (try clear hb2); (try clear hk); (try clear hi)))
      go_meet
      case rel => exact ⟨_, (decide ((l1.length : Int) > 200)), (by first | rfl | (simp; done) | (simp [*]; done)), H', ⟨by first | omega | exact Nat.le_refl _⟩, ⟨by (with_reducible repeat (first | apply Kd.V_alloc | apply Kd.V_drewN | apply Kd.V_drew)); exact HO0_0.out⟩, ⟨by (with_reducible repeat (first | apply Kd.V_alloc | apply Kd.V_drewN | apply Kd.V_drew)); exact HO0_1.out⟩, ⟨by (with_reducible repeat (first | refine blk_drewN ?_ _ | refine blk_drew ?_ | refine blk_alloc ?_ _)); exact BK648.out⟩, ⟨by repeat (first | (with_reducible first | exact HB.out | apply below_alloc | apply pw_below_drewN | apply below_drew1 | refine below_set ?_ GE648.out) | exact HB.out)⟩⟩
    · replace c6 := Bool.eq_false_iff.mpr c6
      subst c6
      have H1 : (mapsheetslaw24_DeviceSurvives.j0 k l1 true l0_0 l0_1 a0_2 a0_3) = some r := by rw [if_neg (show ¬ (false = true) by decide)] at H; exact H
      clear H
      have H := H1
      clear H1
      have H' := Aside0.mk H
      clear H
      have hcz9_0 : w4.cell? ⟨gb648, 0, none⟩ = some (.slice A0_0 l0_0.length c0_0) := (blk_cell BK648.out 0).trans rfl
      have hcz9_1 : w4.cell? ⟨gb648, 1, none⟩ = some (.slice A0_1 l0_1.length c0_1) := (blk_cell BK648.out 1).trans rfl
      have hcz9_2 : w4.cell? ⟨gb648, 2, none⟩ = some (.int .i64 a0_2) := (blk_cell BK648.out 2).trans rfl
      have hcz9_3 : w4.cell? ⟨gb648, 3, none⟩ = some (.bool a0_3) := (blk_cell BK648.out 3).trans rfl
      have hfz9_0 := blk_frozen BK648.out 0
      have hfz9_1 := blk_frozen BK648.out 1
      have hfz9_2 := blk_frozen BK648.out 2
      have hfz9_3 := blk_frozen BK648.out 3
      go_wp2_with (first | ((with_reducible refine gate_callee (f := 11) rfl ?_); refine goesL_ (some 13) rfl rfl Try.func11 (by kernel_rfl) rfl #[.agg #[.slice A0_0 l0_0.length c0_0, .slice A0_1 l0_1.length c0_1, .int .i64 a0_2, .bool a0_3], .int .i64 100] rfl (by (try simp only [List.map_toArray, List.map_cons, List.map_nil]); first | done | rfl | (simp only [List.length_drop, List.length_take]; rfl)) ?_; (with_reducible refine (mapsheetsref24_Few.calls k _ _ l0_0 _ _ l0_1 a0_2 a0_3 100 false _ ?side1 ?side2 ?side3 ?side4 A5.out).mono ?_); (case side1 => repeat (first | exact (Kd.V_reads' HO0_0.out).2.2 | (with_reducible refine Kd.C_alloc ?_ _) | (with_reducible refine Kd.C_drewN ?_ _) | (with_reducible refine Kd.C_drew ?_))); (case side2 => exact (Kd.V_reads' HO0_0.out).2.1); (case side3 => repeat (first | exact (Kd.V_reads' HO0_1.out).2.2 | (with_reducible refine Kd.C_alloc ?_ _) | (with_reducible refine Kd.C_drewN ?_ _) | (with_reducible refine Kd.C_drew ?_))); (case side4 => exact (Kd.V_reads' HO0_1.out).2.1); rintro e w10 ⟨rfl, hb⟩; refine ⟨_, rfl, ?_⟩; have n0_ := Aside0.mk (Kd.V_below (by (with_reducible repeat (first | apply Kd.V_alloc | apply Kd.V_drewN | apply Kd.V_drew)); exact HO0_0.out) hb); have n1_ := Aside0.mk (Kd.V_below (by (with_reducible repeat (first | apply Kd.V_alloc | apply Kd.V_drewN | apply Kd.V_drew)); exact HO0_1.out) hb); have n2_ := Aside0.mk (blk_below (g := gb648) (o := .cells #[.slice A0_0 l0_0.length c0_0, .slice A0_1 l0_1.length c0_1, .int .i64 a0_2, .bool a0_3] 25 (0, 0)) (by (with_reducible repeat (first | refine blk_drewN ?_ _ | refine blk_drew ?_ | refine blk_alloc ?_ _)); exact BK648.out) hb); have n3_ := Aside0.mk (below_step (by repeat (first | (with_reducible first | exact HB.out | apply below_alloc | apply pw_below_drewN | apply below_drew1 | refine below_set ?_ GE648.out) | exact HB.out)) hb); clear HO0_0; clear HO0_1; clear BK648; clear HB; have HO0_0 := n0_; have HO0_1 := n1_; have BK648 := n2_; have HB := n3_; clear n0_ n1_ n2_ n3_; (try clear hb); (try clear hb2); (try clear hk); (try clear hi)))
      go_meet
      case rel => exact ⟨_, (true), (by first | rfl | (simp; done) | (simp [*]; done)), H', ⟨by first | omega | exact Nat.le_refl _⟩, ⟨by (with_reducible repeat (first | apply Kd.V_alloc | apply Kd.V_drewN | apply Kd.V_drew)); exact HO0_0.out⟩, ⟨by (with_reducible repeat (first | apply Kd.V_alloc | apply Kd.V_drewN | apply Kd.V_drew)); exact HO0_1.out⟩, ⟨by (with_reducible repeat (first | refine blk_drewN ?_ _ | refine blk_drew ?_ | refine blk_alloc ?_ _)); exact BK648.out⟩, ⟨by repeat (first | (with_reducible first | exact HB.out | apply below_alloc | apply pw_below_drewN | apply below_drew1 | refine below_set ?_ GE648.out) | exact HB.out)⟩⟩
  case rest =>
    clear HC3
    try clear c1
    try clear p2
    try clear c6
    try clear c8
    try clear hcz7_0
    try clear hcz7_1
    try clear hcz7_2
    try clear hcz7_3
    try clear hcz9_0
    try clear hcz9_1
    try clear hcz9_2
    try clear hcz9_3
    try clear hfz7_0
    try clear hfz7_1
    try clear hfz7_2
    try clear hfz7_3
    try clear hfz9_0
    try clear hfz9_1
    try clear hfz9_2
    try clear hfz9_3
    obtain ⟨kq, x19_2, rfl, HA, HJ2, HO_649000, HO_649001, BK648, HB⟩ := hcut
    cases kq with
    | zero => exact absurd HA.out (by simp [mapsheetslaw24_DeviceSurvives.j0])
    | succ kj2 =>
      have H := HA.out
      clear HA
      simp only [mapsheetslaw24_DeviceSurvives.j0] at H
      by_cases c11 : x19_2 = true
      · subst c11
        have H1 : ((mapsheetslaw24_awake.f).bind fun t650 => (some t650)) = some r := by rw [if_pos rfl] at H; exact H
        clear H
        have H := H1
        clear H1
        replace H := Option.bind_eq_some_iff.mp H
        obtain ⟨t650, A120, H⟩ := H
        replace H : (some t650) = some r := H
        have A12 := Aside0.mk A120
        clear A120
        obtain rfl := Option.some.inj H
        go_wp2_with (first | ((with_reducible refine gate_callee (f := 12) rfl ?_); refine goesL_ (some 20) rfl rfl Try.func12 (by kernel_rfl) rfl #[] rfl (by (try simp only [List.map_toArray, List.map_cons, List.map_nil]); first | done | rfl | (simp only [List.length_drop, List.length_take]; rfl)) ?_; (with_reducible refine (mapsheetslaw24_awake.calls  t650 _ A12.out).mono ?_); rintro e w13 ⟨rfl, hb⟩; refine ⟨_, rfl, ?_⟩; have n0_ := Aside0.mk (Kd.V_below (by (with_reducible repeat (first | apply Kd.V_alloc | apply Kd.V_drewN | apply Kd.V_drew)); exact HO_649000.out) hb); have n1_ := Aside0.mk (Kd.V_below (by (with_reducible repeat (first | apply Kd.V_alloc | apply Kd.V_drewN | apply Kd.V_drew)); exact HO_649001.out) hb); have n2_ := Aside0.mk (blk_below (g := gb648) (o := .cells #[.slice A0_0 l0_0.length c0_0, .slice A0_1 l0_1.length c0_1, .int .i64 a0_2, .bool a0_3] 25 (0, 0)) (by (with_reducible repeat (first | refine blk_drewN ?_ _ | refine blk_drew ?_ | refine blk_alloc ?_ _)); exact BK648.out) hb); have n3_ := Aside0.mk (below_step (by repeat (first | (with_reducible first | exact HB.out | apply below_alloc | apply pw_below_drewN | apply below_drew1 | refine below_set ?_ GE648.out) | exact HB.out)) hb); clear HO_649000; clear HO_649001; clear BK648; clear HB; have HO_649000 := n0_; have HO_649001 := n1_; have BK648 := n2_; have HB := n3_; clear n0_ n1_ n2_ n3_; (try clear hb); (try clear hb2); (try clear hk); (try clear hi)))
        go_ret
        exact ⟨by first | rfl | (simp [errW_none, errW_some] <;> rfl) | (simp [*, errW_none, errW_some] <;> rfl), by repeat (first | (with_reducible first | exact HB.out | apply below_alloc | apply pw_below_drewN | apply below_drew1 | refine below_set ?_ GE648.out) | exact HB.out)⟩
      · replace c11 := Bool.eq_false_iff.mpr c11
        subst c11
        have H1 : ((device_Crash.f kj2 l0_0 l0_1 a0_2 a0_3 l1).bind fun bt651 => ((mapsheetsref24_Kept.f kj2 l0_1 l1).bind fun t660 => (if (bt651.1.length : Int) = (l0_0.length : Int) then (if (bt651.2.1.length : Int) > 0 then (mapsheetslaw24_DeviceSurvives.j1 kj2 t660 true l0_0 l0_1 a0_2 a0_3 bt651.1 bt651.2.1 bt651.2.2.1 bt651.2.2.2) else (if bt651.2.2.2 = true then (mapsheetslaw24_DeviceSurvives.j1 kj2 t660 true l0_0 l0_1 a0_2 a0_3 bt651.1 bt651.2.1 bt651.2.2.1 bt651.2.2.2) else (mapsheetslaw24_DeviceSurvives.j1 kj2 t660 (bt651.2.2.1 != (-1)) l0_0 l0_1 a0_2 a0_3 bt651.1 bt651.2.1 bt651.2.2.1 bt651.2.2.2))) else (mapsheetslaw24_DeviceSurvives.j1 kj2 t660 true l0_0 l0_1 a0_2 a0_3 bt651.1 bt651.2.1 bt651.2.2.1 bt651.2.2.2)))) = some r := by rw [if_neg (show ¬ (false = true) by decide)] at H; exact H
        clear H
        have H := H1
        clear H1
        replace H := Option.bind_eq_some_iff.mp H
        obtain ⟨⟨t651, t654, t657, t658⟩, A140, H⟩ := H
        replace H : ((mapsheetsref24_Kept.f kj2 l0_1 l1).bind fun t660 => (if (t651.length : Int) = (l0_0.length : Int) then (if (t654.length : Int) > 0 then (mapsheetslaw24_DeviceSurvives.j1 kj2 t660 true l0_0 l0_1 a0_2 a0_3 t651 t654 t657 t658) else (if t658 = true then (mapsheetslaw24_DeviceSurvives.j1 kj2 t660 true l0_0 l0_1 a0_2 a0_3 t651 t654 t657 t658) else (mapsheetslaw24_DeviceSurvives.j1 kj2 t660 (t657 != (-1)) l0_0 l0_1 a0_2 a0_3 t651 t654 t657 t658))) else (mapsheetslaw24_DeviceSurvives.j1 kj2 t660 true l0_0 l0_1 a0_2 a0_3 t651 t654 t657 t658))) = some r := H
        have A14 := Aside0.mk A140
        clear A140
        replace H := Option.bind_eq_some_iff.mp H
        obtain ⟨t660, A150, H⟩ := H
        replace H : (if (t651.length : Int) = (l0_0.length : Int) then (if (t654.length : Int) > 0 then (mapsheetslaw24_DeviceSurvives.j1 kj2 t660 true l0_0 l0_1 a0_2 a0_3 t651 t654 t657 t658) else (if t658 = true then (mapsheetslaw24_DeviceSurvives.j1 kj2 t660 true l0_0 l0_1 a0_2 a0_3 t651 t654 t657 t658) else (mapsheetslaw24_DeviceSurvives.j1 kj2 t660 (t657 != (-1)) l0_0 l0_1 a0_2 a0_3 t651 t654 t657 t658))) else (mapsheetslaw24_DeviceSurvives.j1 kj2 t660 true l0_0 l0_1 a0_2 a0_3 t651 t654 t657 t658)) = some r := H
        have A15 := Aside0.mk A150
        clear A150
        have HC16 := Aside0.mk H
        clear H
        have hcz17_0 : wc.cell? ⟨gb648, 0, none⟩ = some (.slice A0_0 l0_0.length c0_0) := (blk_cell BK648.out 0).trans rfl
        have hcz17_1 : wc.cell? ⟨gb648, 1, none⟩ = some (.slice A0_1 l0_1.length c0_1) := (blk_cell BK648.out 1).trans rfl
        have hcz17_2 : wc.cell? ⟨gb648, 2, none⟩ = some (.int .i64 a0_2) := (blk_cell BK648.out 2).trans rfl
        have hcz17_3 : wc.cell? ⟨gb648, 3, none⟩ = some (.bool a0_3) := (blk_cell BK648.out 3).trans rfl
        have hfz17_0 := blk_frozen BK648.out 0
        have hfz17_1 := blk_frozen BK648.out 1
        have hfz17_2 := blk_frozen BK648.out 2
        have hfz17_3 := blk_frozen BK648.out 3
        go_upto_region 5 with (first | ((with_reducible refine gate_callee (f := 25) rfl ?_); refine goesL_ (some 23) rfl rfl Try.func25 (by kernel_rfl) rfl #[.agg #[.slice A0_0 l0_0.length c0_0, .slice A0_1 l0_1.length c0_1, .int .i64 a0_2, .bool a0_3], .slice A1 l1.length c1] rfl (by (try simp only [List.map_toArray, List.map_cons, List.map_nil]); first | done | rfl | (simp only [List.length_drop, List.length_take]; rfl)) ?_; (with_reducible refine (device_Crash.calls kj2 _ _ l0_0 _ _ l0_1 a0_2 a0_3 _ _ l1 t651 t654 t657 t658 _ ?side1 ?side2 ?side3 ?side4 ?side5 ?side6 A14.out).mono ?_); (case side1 => repeat (first | exact (Kd.V_reads' HO_649000.out).2.2 | (with_reducible refine Kd.C_alloc ?_ _) | (with_reducible refine Kd.C_drewN ?_ _) | (with_reducible refine Kd.C_drew ?_))); (case side2 => exact (Kd.V_reads' HO_649000.out).2.1); (case side3 => repeat (first | exact (Kd.V_reads' HO_649001.out).2.2 | (with_reducible refine Kd.C_alloc ?_ _) | (with_reducible refine Kd.C_drewN ?_ _) | (with_reducible refine Kd.C_drew ?_))); (case side4 => exact (Kd.V_reads' HO_649001.out).2.1); (case side5 => repeat (first | exact (Kd.C_below HR1.out HB.out) | (with_reducible refine Kd.C_alloc ?_ _) | (with_reducible refine Kd.C_drewN ?_ _) | (with_reducible refine Kd.C_drew ?_))); (case side6 => exact HC1.out); rintro e w18 ⟨v652, v655, rfl, ho0, ho1, hb⟩; refine ⟨_, rfl, ?_⟩; have n0_ := Aside0.mk (Kd.V_mono (Kd.V_told (Kd.V_told (Kd.V_old (by (with_reducible repeat (first | apply Kd.V_alloc | apply Kd.V_drewN | apply Kd.V_drew)); exact HO_649000.out) hb) (by first | exact Kd.N_base ho0 | exact Kd.S_base ho0)) (by first | exact Kd.N_base ho1 | exact Kd.S_base ho1)) (fun _ h_ => h_.1)); have n1_ := Aside0.mk (Kd.V_mono (Kd.V_told (Kd.V_told (Kd.V_old (by (with_reducible repeat (first | apply Kd.V_alloc | apply Kd.V_drewN | apply Kd.V_drew)); exact HO_649001.out) hb) (by first | exact Kd.N_base ho0 | exact Kd.S_base ho0)) (by first | exact Kd.N_base ho1 | exact Kd.S_base ho1)) (fun _ h_ => h_.1)); have n2_ := Aside0.mk (Kd.N_lower (Kd.N_mono (ok' := fun k_ => ((P0_0_ k_ ∨ P0_1_ k_) ∨ w.heap.size ≤ k_) ∧ some k_ ≠ (v655 : Value).ownBlock ∧ k_ ≠ gb648) ho0 (fun k_ hk_ => ⟨(.inr (Nat.le_trans (below_size (by repeat (first | (with_reducible first | exact HB.out | apply below_alloc | apply pw_below_drewN | apply below_drew1 | refine below_set ?_ GE648.out) | exact HB.out))) hk_.1)), hk_.2, (Kd.freshB (g := gb648) (o := .cells #[.slice A0_0 l0_0.length c0_0, .slice A0_1 l0_1.length c0_1, .int .i64 a0_2, .bool a0_3] 25 (0, 0)) (by (with_reducible repeat (first | refine blk_drewN ?_ _ | refine blk_drew ?_ | refine blk_alloc ?_ _)); exact BK648.out) k_ hk_.1)⟩)) (below_size (by repeat (first | (with_reducible first | exact HB.out | apply below_alloc | apply pw_below_drewN | apply below_drew1 | refine below_set ?_ GE648.out) | exact HB.out)))); have n3_ := Aside0.mk (Kd.N_lower (Kd.N_mono (ok' := fun k_ => ((P0_0_ k_ ∨ P0_1_ k_) ∨ w.heap.size ≤ k_) ∧ some k_ ≠ (v652 : Value).ownBlock ∧ k_ ≠ gb648) ho1 (fun k_ hk_ => ⟨(.inr (Nat.le_trans (below_size (by repeat (first | (with_reducible first | exact HB.out | apply below_alloc | apply pw_below_drewN | apply below_drew1 | refine below_set ?_ GE648.out) | exact HB.out))) hk_.1)), hk_.2, (Kd.freshB (g := gb648) (o := .cells #[.slice A0_0 l0_0.length c0_0, .slice A0_1 l0_1.length c0_1, .int .i64 a0_2, .bool a0_3] 25 (0, 0)) (by (with_reducible repeat (first | refine blk_drewN ?_ _ | refine blk_drew ?_ | refine blk_alloc ?_ _)); exact BK648.out) k_ hk_.1)⟩)) (below_size (by repeat (first | (with_reducible first | exact HB.out | apply below_alloc | apply pw_below_drewN | apply below_drew1 | refine below_set ?_ GE648.out) | exact HB.out)))); have n4_ := Aside0.mk (blk_below (g := gb648) (o := .cells #[.slice A0_0 l0_0.length c0_0, .slice A0_1 l0_1.length c0_1, .int .i64 a0_2, .bool a0_3] 25 (0, 0)) (by (with_reducible repeat (first | refine blk_drewN ?_ _ | refine blk_drew ?_ | refine blk_alloc ?_ _)); exact BK648.out) hb); have n5_ := Aside0.mk (below_step (by repeat (first | (with_reducible first | exact HB.out | apply below_alloc | apply pw_below_drewN | apply below_drew1 | refine below_set ?_ GE648.out) | exact HB.out)) hb); clear HO_649000; clear HO_649001; clear BK648; clear HB; have HO_649000 := n0_; have HO_649001 := n1_; have HO653 := n2_; have HO656 := n3_; have BK648 := n4_; have HB := n5_; clear n0_ n1_ n2_ n3_ n4_ n5_; (try clear hb); (try clear hb2); (try clear hk); (try clear hi); (try clear ho0); (try clear ho1)) | ((with_reducible refine gate_dst (N := 5) rfl ?_); (try (refine gate_guard (by rfl) ?_; dsimp only)); refine box_event ?hg (N := 5) ?hd (cs := #[.slice none 0 0, .slice none 0 0, .int .i64 0, .bool false]) (t := 25) ?hr ?_; (case hd => rfl); (case hg => rfl); (case hr => first | (go_simp; done) | (go_simp; rfl)); intro gb659 hg w19 hbox hb; have n0_ := Aside0.mk (Kd.V_below (Kd.V_elderB (by (with_reducible repeat (first | apply Kd.V_alloc | apply Kd.V_drewN | apply Kd.V_drew)); exact HO_649000.out) gb659 (Nat.le_of_eq hg.symm)) hb); have n1_ := Aside0.mk (Kd.V_below (Kd.V_elderB (by (with_reducible repeat (first | apply Kd.V_alloc | apply Kd.V_drewN | apply Kd.V_drew)); exact HO_649001.out) gb659 (Nat.le_of_eq hg.symm)) hb); have n2_ := Aside0.mk (Kd.N_below (Kd.N_elderB (by (with_reducible repeat (first | apply Kd.N_alloc | apply Kd.N_drewN | apply Kd.N_drew)); exact HO653.out) gb659 (Nat.le_of_eq hg.symm)) hb); have n3_ := Aside0.mk (Kd.N_below (Kd.N_elderB (by (with_reducible repeat (first | apply Kd.N_alloc | apply Kd.N_drewN | apply Kd.N_drew)); exact HO656.out) gb659 (Nat.le_of_eq hg.symm)) hb); have n4_ := Aside0.mk (blk_below (g := gb648) (o := .cells #[.slice A0_0 l0_0.length c0_0, .slice A0_1 l0_1.length c0_1, .int .i64 a0_2, .bool a0_3] 25 (0, 0)) (by (with_reducible repeat (first | refine blk_drewN ?_ _ | refine blk_drew ?_ | refine blk_alloc ?_ _)); exact BK648.out) hb); have n5_ := Aside0.mk (below_step (by repeat (first | (with_reducible first | exact HB.out | apply below_alloc | apply pw_below_drewN | apply below_drew1 | refine below_set ?_ GE648.out) | exact HB.out)) hb); have n6_ := Aside0.mk (hbox); have n7_ := Aside0.mk ((by rw [hg]; exact (below_size (by repeat (first | (with_reducible first | exact HB.out | apply below_alloc | apply pw_below_drewN | apply below_drew1 | refine below_set ?_ GE648.out) | exact HB.out))) : w.heap.size ≤ gb659)); have n8_ := Aside0.mk ((by rw [hg]; exact (below_size (by repeat (first | (with_reducible first | exact HB.out | apply below_alloc | apply pw_below_drewN | apply below_drew1 | refine below_set ?_ GE648.out) | exact HB.out))) : w.heap.size ≤ gb659)); have n9_ := Aside0.mk ((by rw [hg]; exact Nat.ne_of_lt (blk_lt (g := gb648) (o := .cells #[.slice A0_0 l0_0.length c0_0, .slice A0_1 l0_1.length c0_1, .int .i64 a0_2, .bool a0_3] 25 (0, 0)) (by (with_reducible repeat (first | refine blk_drewN ?_ _ | refine blk_drew ?_ | refine blk_alloc ?_ _)); exact BK648.out)) : gb648 ≠ gb659)); have n10_ := Aside0.mk ((by rw [hg]; exact Nat.ne_of_gt (blk_lt (g := gb648) (o := .cells #[.slice A0_0 l0_0.length c0_0, .slice A0_1 l0_1.length c0_1, .int .i64 a0_2, .bool a0_3] 25 (0, 0)) (by (with_reducible repeat (first | refine blk_drewN ?_ _ | refine blk_drew ?_ | refine blk_alloc ?_ _)); exact BK648.out)) : gb659 ≠ gb648)); clear HO_649000; clear HO_649001; clear HO653; clear HO656; clear BK648; clear HB; have HO_649000 := n0_; have HO_649001 := n1_; have HO653 := n2_; have HO656 := n3_; have BK648 := n4_; have HB := n5_; have BK659 := n6_; have GW659 := n7_; have GE659 := n8_; have NB648_659 := n9_; have NB659_648 := n10_; clear n0_ n1_ n2_ n3_ n4_ n5_ n6_ n7_ n8_ n9_ n10_; clear hb hbox hg; obtain ⟨Ao20, co20, eo20⟩ := Kd.N_slice HO653.out; subst eo20; have hnb21 := NB659_648.out; have hnc21 := NB648_659.out; have hcz22_0 : w19.cell? ⟨gb659, 0, none⟩ = some (.slice none 0 0) := (blk_cell BK659.out 0).trans rfl; have hcz22_1 : w19.cell? ⟨gb659, 1, none⟩ = some (.slice none 0 0) := (blk_cell BK659.out 1).trans rfl; have hcz22_2 : w19.cell? ⟨gb659, 2, none⟩ = some (.int .i64 0) := (blk_cell BK659.out 2).trans rfl; have hcz22_3 : w19.cell? ⟨gb659, 3, none⟩ = some (.bool false) := (blk_cell BK659.out 3).trans rfl; have hfz22_0 := blk_frozen BK659.out 0; have hfz22_1 := blk_frozen BK659.out 1; have hfz22_2 := blk_frozen BK659.out 2; have hfz22_3 := blk_frozen BK659.out 3; obtain ⟨Ao23, co23, eo23⟩ := Kd.N_slice HO656.out; subst eo23) | ((with_reducible refine gate_store (t := 25) (p := 5) rfl ?_); refine store_event (t := 25) (p := 5) (v := ?vo_w24) (w1 := ((((w19.setCell ⟨gb659, 0, none⟩ (.slice Ao20 t651.length co20)).setCell ⟨gb659, 1, none⟩ (.slice Ao23 t654.length co23)).setCell ⟨gb659, 2, none⟩ (.int .i64 t657)).setCell ⟨gb659, 3, none⟩ (.bool t658))) ?hg ?ho ?hn ?hr ?_; (case ho => rfl); (case hg => rfl); (case hn => rfl); (case hr => first | (go_simp; done) | (go_simp; rfl)); intro w24 hw; have n0_ : Aside0 (Kd.V (Kd.slice 5 (Kd.int .u8)) 26 w24 w.heap.size (fun k_ => ((P0_0_ k_ ∨ P0_1_ k_) ∨ w.heap.size ≤ k_) ∧ some k_ ≠ (.slice Ao20 t651.length co20 : Value).ownBlock ∧ some k_ ≠ (.slice Ao23 t654.length co23 : Value).ownBlock ∧ k_ ≠ gb648 ∧ k_ ≠ gb659) (.slice A0_0 l0_0.length c0_0) l0_0) := ⟨(by rw [hw]; exact (by (with_reducible repeat (first | apply Kd.V_alloc | apply Kd.V_drewN | apply Kd.V_drew)); exact Kd.V_mono (Kd.V_far (p := ⟨gb659, 3, none⟩) (Kd.V_far (p := ⟨gb659, 2, none⟩) (Kd.V_far (p := ⟨gb659, 1, none⟩) (Kd.V_far (p := ⟨gb659, 0, none⟩) (Kd.V_mono HO_649000.out (fun k_ hk => (⟨hk, hk.2⟩ : _ ∧ k_ ≠ gb659))) (fun _ hk => hk.2) (.slice Ao20 t651.length co20)) (fun _ hk => hk.2) (.slice Ao23 t654.length co23)) (fun _ hk => hk.2) (.int .i64 t657)) (fun _ hk => hk.2) (.bool t658)) (fun _ hk => ⟨hk.1.1.1.1.1, ⟨hk.1.1.1.2, ⟨hk.1.1.2, ⟨hk.1.1.1.1.2, hk.1.2⟩⟩⟩⟩)))⟩; have n1_ : Aside0 (Kd.V k53 53 w24 w.heap.size (fun k_ => ((P0_0_ k_ ∨ P0_1_ k_) ∨ w.heap.size ≤ k_) ∧ some k_ ≠ (.slice Ao20 t651.length co20 : Value).ownBlock ∧ some k_ ≠ (.slice Ao23 t654.length co23 : Value).ownBlock ∧ k_ ≠ gb648 ∧ k_ ≠ gb659) (.slice A0_1 l0_1.length c0_1) l0_1) := ⟨(by rw [hw]; exact (by (with_reducible repeat (first | apply Kd.V_alloc | apply Kd.V_drewN | apply Kd.V_drew)); exact Kd.V_mono (Kd.V_far (p := ⟨gb659, 3, none⟩) (Kd.V_far (p := ⟨gb659, 2, none⟩) (Kd.V_far (p := ⟨gb659, 1, none⟩) (Kd.V_far (p := ⟨gb659, 0, none⟩) (Kd.V_mono HO_649001.out (fun k_ hk => (⟨hk, hk.2⟩ : _ ∧ k_ ≠ gb659))) (fun _ hk => hk.2) (.slice Ao20 t651.length co20)) (fun _ hk => hk.2) (.slice Ao23 t654.length co23)) (fun _ hk => hk.2) (.int .i64 t657)) (fun _ hk => hk.2) (.bool t658)) (fun _ hk => ⟨hk.1.1.1.1.1, ⟨hk.1.1.1.2, ⟨hk.1.1.2, ⟨hk.1.1.1.1.2, hk.1.2⟩⟩⟩⟩)))⟩; have n2_ : Aside0 (Kd.N (Kd.slice 5 (Kd.int .u8)) 26 w24 w.heap.size (fun k_ => ((P0_0_ k_ ∨ P0_1_ k_) ∨ w.heap.size ≤ k_) ∧ some k_ ≠ (.slice Ao23 t654.length co23 : Value).ownBlock ∧ k_ ≠ gb648 ∧ k_ ≠ gb659) (.slice Ao20 t651.length co20) t651) := ⟨(by rw [hw]; exact (by (with_reducible repeat (first | apply Kd.N_alloc | apply Kd.N_drewN | apply Kd.N_drew)); exact Kd.N_mono (Kd.N_far (p := ⟨gb659, 3, none⟩) (Kd.N_far (p := ⟨gb659, 2, none⟩) (Kd.N_far (p := ⟨gb659, 1, none⟩) (Kd.N_far (p := ⟨gb659, 0, none⟩) (Kd.N_mono HO653.out (fun k_ hk => (⟨hk, hk.2⟩ : _ ∧ k_ ≠ gb659))) (fun _ hk => hk.2) (.slice Ao20 t651.length co20)) (fun _ hk => hk.2) (.slice Ao23 t654.length co23)) (fun _ hk => hk.2) (.int .i64 t657)) (fun _ hk => hk.2) (.bool t658)) (fun _ hk => ⟨hk.1.1.1, ⟨hk.1.1.2.1, ⟨hk.1.1.2.2, hk.1.2⟩⟩⟩)))⟩; have n3_ : Aside0 (Kd.N k53 53 w24 w.heap.size (fun k_ => ((P0_0_ k_ ∨ P0_1_ k_) ∨ w.heap.size ≤ k_) ∧ some k_ ≠ (.slice Ao20 t651.length co20 : Value).ownBlock ∧ k_ ≠ gb648 ∧ k_ ≠ gb659) (.slice Ao23 t654.length co23) t654) := ⟨(by rw [hw]; exact (by (with_reducible repeat (first | apply Kd.N_alloc | apply Kd.N_drewN | apply Kd.N_drew)); exact Kd.N_mono (Kd.N_far (p := ⟨gb659, 3, none⟩) (Kd.N_far (p := ⟨gb659, 2, none⟩) (Kd.N_far (p := ⟨gb659, 1, none⟩) (Kd.N_far (p := ⟨gb659, 0, none⟩) (Kd.N_mono HO656.out (fun k_ hk => (⟨hk, hk.2⟩ : _ ∧ k_ ≠ gb659))) (fun _ hk => hk.2) (.slice Ao20 t651.length co20)) (fun _ hk => hk.2) (.slice Ao23 t654.length co23)) (fun _ hk => hk.2) (.int .i64 t657)) (fun _ hk => hk.2) (.bool t658)) (fun _ hk => ⟨hk.1.1.1, ⟨hk.1.1.2.1, ⟨hk.1.1.2.2, hk.1.2⟩⟩⟩)))⟩; have n4_ : Aside0 (w24.heap[gb648]? = some (.cells #[.slice A0_0 l0_0.length c0_0, .slice A0_1 l0_1.length c0_1, .int .i64 a0_2, .bool a0_3] 25 (0, 0))) := ⟨(by rw [hw]; exact (by (with_reducible repeat (first | refine blk_drewN ?_ _ | refine blk_drew ?_ | refine blk_alloc ?_ _)); refine blk_far ?_ NB648_659.out _; (with_reducible repeat (first | refine blk_drewN ?_ _ | refine blk_drew ?_ | refine blk_alloc ?_ _)); refine blk_far ?_ NB648_659.out _; (with_reducible repeat (first | refine blk_drewN ?_ _ | refine blk_drew ?_ | refine blk_alloc ?_ _)); refine blk_far ?_ NB648_659.out _; (with_reducible repeat (first | refine blk_drewN ?_ _ | refine blk_drew ?_ | refine blk_alloc ?_ _)); refine blk_far ?_ NB648_659.out _; (with_reducible repeat (first | refine blk_drewN ?_ _ | refine blk_drew ?_ | refine blk_alloc ?_ _)); exact BK648.out))⟩; have n5_ : Aside0 (w24.heap[gb659]? = some (.cells #[.slice Ao20 t651.length co20, .slice Ao23 t654.length co23, .int .i64 t657, .bool t658] 25 (0, 0))) := ⟨(by rw [hw]; exact (by (with_reducible repeat (first | refine blk_drewN ?_ _ | refine blk_drew ?_ | refine blk_alloc ?_ _)); refine blk_put (cs := #[.slice Ao20 t651.length co20, .slice Ao23 t654.length co23, .int .i64 t657, .bool false]) ?_ 3 _ rfl; (with_reducible repeat (first | refine blk_drewN ?_ _ | refine blk_drew ?_ | refine blk_alloc ?_ _)); refine blk_put (cs := #[.slice Ao20 t651.length co20, .slice Ao23 t654.length co23, .int .i64 0, .bool false]) ?_ 2 _ rfl; (with_reducible repeat (first | refine blk_drewN ?_ _ | refine blk_drew ?_ | refine blk_alloc ?_ _)); refine blk_put (cs := #[.slice Ao20 t651.length co20, .slice none 0 0, .int .i64 0, .bool false]) ?_ 1 _ rfl; (with_reducible repeat (first | refine blk_drewN ?_ _ | refine blk_drew ?_ | refine blk_alloc ?_ _)); refine blk_put (cs := #[.slice none 0 0, .slice none 0 0, .int .i64 0, .bool false]) ?_ 0 _ rfl; (with_reducible repeat (first | refine blk_drewN ?_ _ | refine blk_drew ?_ | refine blk_alloc ?_ _)); exact BK659.out))⟩; have n6_ : Aside0 (Below w.heap.size w w24) := ⟨(by rw [hw]; exact (by repeat (first | (with_reducible first | exact HB.out | apply below_alloc | apply pw_below_drewN | apply below_drew1 | refine below_set ?_ GE648.out | refine below_set ?_ GE659.out) | exact HB.out)))⟩; clear hw; clear HO_649000; clear HO_649001; clear HO653; clear HO656; clear BK648; clear BK659; clear HB; have HO_649000 := n0_; have HO_649001 := n1_; have HO653 := n2_; have HO656 := n3_; have BK648 := n4_; have BK659 := n5_; have HB := n6_; clear n0_ n1_ n2_ n3_ n4_ n5_ n6_; have hcz25_0 : w24.cell? ⟨gb648, 0, none⟩ = some (.slice A0_0 l0_0.length c0_0) := (blk_cell BK648.out 0).trans rfl; have hcz25_1 : w24.cell? ⟨gb648, 1, none⟩ = some (.slice A0_1 l0_1.length c0_1) := (blk_cell BK648.out 1).trans rfl; have hcz25_2 : w24.cell? ⟨gb648, 2, none⟩ = some (.int .i64 a0_2) := (blk_cell BK648.out 2).trans rfl; have hcz25_3 : w24.cell? ⟨gb648, 3, none⟩ = some (.bool a0_3) := (blk_cell BK648.out 3).trans rfl; have hfz25_0 := blk_frozen BK648.out 0; have hfz25_1 := blk_frozen BK648.out 1; have hfz25_2 := blk_frozen BK648.out 2; have hfz25_3 := blk_frozen BK648.out 3) | ((with_reducible refine gate_callee (f := 30) rfl ?_); refine goesL_ (some 27) rfl rfl Try.func30 (by kernel_rfl) rfl #[.slice A0_1 l0_1.length c0_1, .slice A1 l1.length c1] rfl (by (try simp only [List.map_toArray, List.map_cons, List.map_nil]); first | done | rfl | (simp only [List.length_drop, List.length_take]; rfl)) ?_; (with_reducible refine (mapsheetsref24_Kept.calls kj2 (fun k_ => (((P0_0_ k_ ∨ P0_1_ k_) ∨ w.heap.size ≤ k_) ∧ (some k_ ≠ (.slice Ao20 t651.length co20 : Value).ownBlock ∧ (some k_ ≠ (.slice Ao23 t654.length co23 : Value).ownBlock ∧ (k_ ≠ gb648 ∧ k_ ≠ gb659))))) _ _ l0_1 _ _ l1 t660 _ ?side1 ?side2 ?side3 A15.out).mono ?_); (case side1 => exact HO_649001.out); (case side2 => repeat (first | exact (Kd.C_below HR1.out HB.out) | (with_reducible refine Kd.C_alloc ?_ _) | (with_reducible refine Kd.C_drewN ?_ _) | (with_reducible refine Kd.C_drew ?_))); (case side3 => exact HC1.out); rintro e w26 ⟨v661, rfl, ho0, hb⟩; refine ⟨_, rfl, ?_⟩; have n0_ := Aside0.mk (Kd.V_elder' (by (with_reducible repeat (first | apply Kd.V_alloc | apply Kd.V_drewN | apply Kd.V_drew)); exact HO_649000.out) (by first | exact Kd.N_base ho0 | exact Kd.S_base ho0) hb); have n1_ := Aside0.mk (Kd.V_elder' (by (with_reducible repeat (first | apply Kd.V_alloc | apply Kd.V_drewN | apply Kd.V_drew)); exact HO_649001.out) (by first | exact Kd.N_base ho0 | exact Kd.S_base ho0) hb); have n2_ := Aside0.mk (Kd.N_elder' (by (with_reducible repeat (first | apply Kd.N_alloc | apply Kd.N_drewN | apply Kd.N_drew)); exact HO653.out) (by first | exact Kd.N_base ho0 | exact Kd.S_base ho0) hb); have n3_ := Aside0.mk (Kd.N_elder' (by (with_reducible repeat (first | apply Kd.N_alloc | apply Kd.N_drewN | apply Kd.N_drew)); exact HO656.out) (by first | exact Kd.N_base ho0 | exact Kd.S_base ho0) hb); have n4_ := Aside0.mk (Kd.N_lower (Kd.N_mono (ok' := fun k_ => ((P0_0_ k_ ∨ P0_1_ k_) ∨ w.heap.size ≤ k_) ∧ some k_ ≠ (.slice Ao20 t651.length co20 : Value).ownBlock ∧ some k_ ≠ (.slice Ao23 t654.length co23 : Value).ownBlock ∧ k_ ≠ gb648 ∧ k_ ≠ gb659) ho0 (fun k_ hk_ => ⟨Or.elim hk_ (fun hs_ => hs_.1) (fun hn_ => (.inr (Nat.le_trans (below_size (by repeat (first | (with_reducible first | exact HB.out | apply below_alloc | apply pw_below_drewN | apply below_drew1 | refine below_set ?_ GE648.out | refine below_set ?_ GE659.out) | exact HB.out))) hn_))), Or.elim hk_ (fun hs_ => hs_.2.1) (fun hn_ => (Kd.fresh' (Kd.N_lt (by (with_reducible repeat (first | apply Kd.N_alloc | apply Kd.N_drewN | apply Kd.N_drew)); exact HO653.out)) k_ hn_)), Or.elim hk_ (fun hs_ => hs_.2.2.1) (fun hn_ => (Kd.fresh' (Kd.N_lt (by (with_reducible repeat (first | apply Kd.N_alloc | apply Kd.N_drewN | apply Kd.N_drew)); exact HO656.out)) k_ hn_)), Or.elim hk_ (fun hs_ => hs_.2.2.2.1) (fun hn_ => (Kd.freshB (g := gb648) (o := .cells #[.slice A0_0 l0_0.length c0_0, .slice A0_1 l0_1.length c0_1, .int .i64 a0_2, .bool a0_3] 25 (0, 0)) (by (with_reducible repeat (first | refine blk_drewN ?_ _ | refine blk_drew ?_ | refine blk_alloc ?_ _)); exact BK648.out) k_ hn_)), Or.elim hk_ (fun hs_ => hs_.2.2.2.2) (fun hn_ => (Kd.freshB (g := gb659) (o := .cells #[.slice Ao20 t651.length co20, .slice Ao23 t654.length co23, .int .i64 t657, .bool t658] 25 (0, 0)) (by (with_reducible repeat (first | refine blk_drewN ?_ _ | refine blk_drew ?_ | refine blk_alloc ?_ _)); exact BK659.out) k_ hn_))⟩)) (below_size (by repeat (first | (with_reducible first | exact HB.out | apply below_alloc | apply pw_below_drewN | apply below_drew1 | refine below_set ?_ GE648.out | refine below_set ?_ GE659.out) | exact HB.out)))); have n5_ := Aside0.mk (blk_below (g := gb648) (o := .cells #[.slice A0_0 l0_0.length c0_0, .slice A0_1 l0_1.length c0_1, .int .i64 a0_2, .bool a0_3] 25 (0, 0)) (by (with_reducible repeat (first | refine blk_drewN ?_ _ | refine blk_drew ?_ | refine blk_alloc ?_ _)); exact BK648.out) hb); have n6_ := Aside0.mk (blk_below (g := gb659) (o := .cells #[.slice Ao20 t651.length co20, .slice Ao23 t654.length co23, .int .i64 t657, .bool t658] 25 (0, 0)) (by (with_reducible repeat (first | refine blk_drewN ?_ _ | refine blk_drew ?_ | refine blk_alloc ?_ _)); exact BK659.out) hb); have n7_ := Aside0.mk (below_step (by repeat (first | (with_reducible first | exact HB.out | apply below_alloc | apply pw_below_drewN | apply below_drew1 | refine below_set ?_ GE648.out | refine below_set ?_ GE659.out) | exact HB.out)) hb); clear HO_649000; clear HO_649001; clear HO653; clear HO656; clear BK648; clear BK659; clear HB; have HO_649000 := n0_; have HO_649001 := n1_; have HO653 := n2_; have HO656 := n3_; have HO662 := n4_; have BK648 := n5_; have BK659 := n6_; have HB := n7_; clear n0_ n1_ n2_ n3_ n4_ n5_ n6_ n7_; (try clear hb); (try clear hb2); (try clear hk); (try clear hi); (try clear ho0)))
        (try simp only [Act.put, List.setIfInBounds_toArray, List.set_cons_zero, List.set_cons_succ])
        go_cut [49] (fun v49 wc => ∃ (kq : Nat) (x49_15 : Bool), v49 = .bool x49_15 ∧ Aside0 (mapsheetslaw24_DeviceSurvives.j1 kq t660 x49_15 l0_0 l0_1 a0_2 a0_3 t651 t654 t657 t658 = some r) ∧ Aside0 (kq ≤ kj2) ∧ Aside0 (Kd.N k53 53 wc w.heap.size (fun k_ => ((P0_0_ k_ ∨ P0_1_ k_) ∨ w.heap.size ≤ k_) ∧ some k_ ≠ ((.slice Ao20 t651.length co20) : Value).ownBlock ∧ some k_ ≠ ((.slice Ao23 t654.length co23) : Value).ownBlock ∧ k_ ≠ gb648 ∧ k_ ≠ gb659) v661 t660) ∧ Aside0 (Kd.V (Kd.slice 5 (Kd.int .u8)) 26 wc w.heap.size (fun k_ => ((P0_0_ k_ ∨ P0_1_ k_) ∨ w.heap.size ≤ k_) ∧ some k_ ≠ (v661 : Value).ownBlock ∧ some k_ ≠ ((.slice Ao20 t651.length co20) : Value).ownBlock ∧ some k_ ≠ ((.slice Ao23 t654.length co23) : Value).ownBlock ∧ k_ ≠ gb648 ∧ k_ ≠ gb659) (.slice A0_0 l0_0.length c0_0) l0_0) ∧ Aside0 (Kd.V k53 53 wc w.heap.size (fun k_ => ((P0_0_ k_ ∨ P0_1_ k_) ∨ w.heap.size ≤ k_) ∧ some k_ ≠ (v661 : Value).ownBlock ∧ some k_ ≠ ((.slice Ao20 t651.length co20) : Value).ownBlock ∧ some k_ ≠ ((.slice Ao23 t654.length co23) : Value).ownBlock ∧ k_ ≠ gb648 ∧ k_ ≠ gb659) (.slice A0_1 l0_1.length c0_1) l0_1) ∧ Aside0 (Kd.N (Kd.slice 5 (Kd.int .u8)) 26 wc w.heap.size (fun k_ => ((P0_0_ k_ ∨ P0_1_ k_) ∨ w.heap.size ≤ k_) ∧ some k_ ≠ (v661 : Value).ownBlock ∧ some k_ ≠ ((.slice Ao23 t654.length co23) : Value).ownBlock ∧ k_ ≠ gb648 ∧ k_ ≠ gb659) (.slice Ao20 t651.length co20) t651) ∧ Aside0 (Kd.N k53 53 wc w.heap.size (fun k_ => ((P0_0_ k_ ∨ P0_1_ k_) ∨ w.heap.size ≤ k_) ∧ some k_ ≠ (v661 : Value).ownBlock ∧ some k_ ≠ ((.slice Ao20 t651.length co20) : Value).ownBlock ∧ k_ ≠ gb648 ∧ k_ ≠ gb659) (.slice Ao23 t654.length co23) t654) ∧ Aside0 (wc.heap[gb648]? = some (.cells #[(.slice A0_0 l0_0.length c0_0), (.slice A0_1 l0_1.length c0_1), .int .i64 a0_2, .bool a0_3] 25 (0, 0))) ∧ Aside0 (wc.heap[gb659]? = some (.cells #[(.slice Ao20 t651.length co20), (.slice Ao23 t654.length co23), .int .i64 t657, .bool t658] 25 (0, 0))) ∧ Aside0 (Below w.heap.size w wc))
        case first =>
          have H := HC16.out
          clear HC16
          by_cases c27 : (t651.length : Int) = (l0_0.length : Int)
          · rw [if_pos c27] at H
            have c27b0 : ((t651.length : Int) == (l0_0.length : Int)) = true := beq_iff_eq.mpr c27
            have c27b1 : ((t651.length : Int) != (l0_0.length : Int)) = false := bne_eq_false_iff_eq.mpr c27
            have c27b2 : (t651.length == l0_0.length) = true := by first | simpa using c27 | (simp at c27 ⊢; omega)
            clear c27
            (first | rw [c27b0] | (simp only [i64_w, i32_w]; rw [c27b0]) | skip)
            by_cases c28 : (t654.length : Int) > 0
            · rw [if_pos c28] at H
              have c28b0 : decide (0 < (t654.length : Int)) = true := decide_eq_true c28
              have c28b1 : decide (0 < t654.length) = true := decide_eq_true (by omega)
              clear c28
              have H' := Aside0.mk H
              clear H
              have hnb29 := NB659_648.out
              have hnc29 := NB648_659.out
              have hcz30_0 : w26.cell? ⟨gb659, 0, none⟩ = some (.slice Ao20 t651.length co20) := (blk_cell BK659.out 0).trans rfl
              have hcz30_1 : w26.cell? ⟨gb659, 1, none⟩ = some (.slice Ao23 t654.length co23) := (blk_cell BK659.out 1).trans rfl
              have hcz30_2 : w26.cell? ⟨gb659, 2, none⟩ = some (.int .i64 t657) := (blk_cell BK659.out 2).trans rfl
              have hcz30_3 : w26.cell? ⟨gb659, 3, none⟩ = some (.bool t658) := (blk_cell BK659.out 3).trans rfl
              have hfz30_0 := blk_frozen BK659.out 0
              have hfz30_1 := blk_frozen BK659.out 1
              have hfz30_2 := blk_frozen BK659.out 2
              have hfz30_3 := blk_frozen BK659.out 3
              have hcz31_0 : w26.cell? ⟨gb648, 0, none⟩ = some (.slice A0_0 l0_0.length c0_0) := (blk_cell BK648.out 0).trans rfl
              have hcz31_1 : w26.cell? ⟨gb648, 1, none⟩ = some (.slice A0_1 l0_1.length c0_1) := (blk_cell BK648.out 1).trans rfl
              have hcz31_2 : w26.cell? ⟨gb648, 2, none⟩ = some (.int .i64 a0_2) := (blk_cell BK648.out 2).trans rfl
              have hcz31_3 : w26.cell? ⟨gb648, 3, none⟩ = some (.bool a0_3) := (blk_cell BK648.out 3).trans rfl
              have hfz31_0 := blk_frozen BK648.out 0
              have hfz31_1 := blk_frozen BK648.out 1
              have hfz31_2 := blk_frozen BK648.out 2
              have hfz31_3 := blk_frozen BK648.out 3
              go_wp2
              go_meet
              case rel => exact ⟨_, (true), (by first | rfl | (simp; done) | (simp [*]; done)), H', ⟨by have := HJ2.out; first | omega | exact Nat.le_refl _⟩, ⟨by (with_reducible repeat (first | apply Kd.N_alloc | apply Kd.N_drewN | apply Kd.N_drew)); exact HO662.out⟩, ⟨by (with_reducible repeat (first | apply Kd.V_alloc | apply Kd.V_drewN | apply Kd.V_drew)); exact Kd.V_mono HO_649000.out (fun _ hk => ⟨hk.1.1, ⟨hk.2, ⟨hk.1.2.1, ⟨hk.1.2.2.1, ⟨hk.1.2.2.2.1, hk.1.2.2.2.2⟩⟩⟩⟩⟩)⟩, ⟨by (with_reducible repeat (first | apply Kd.V_alloc | apply Kd.V_drewN | apply Kd.V_drew)); exact Kd.V_mono HO_649001.out (fun _ hk => ⟨hk.1.1, ⟨hk.2, ⟨hk.1.2.1, ⟨hk.1.2.2.1, ⟨hk.1.2.2.2.1, hk.1.2.2.2.2⟩⟩⟩⟩⟩)⟩, ⟨by (with_reducible repeat (first | apply Kd.N_alloc | apply Kd.N_drewN | apply Kd.N_drew)); exact Kd.N_mono HO653.out (fun _ hk => ⟨hk.1.1, ⟨hk.2, ⟨hk.1.2.1, ⟨hk.1.2.2.1, hk.1.2.2.2⟩⟩⟩⟩)⟩, ⟨by (with_reducible repeat (first | apply Kd.N_alloc | apply Kd.N_drewN | apply Kd.N_drew)); exact Kd.N_mono HO656.out (fun _ hk => ⟨hk.1.1, ⟨hk.2, ⟨hk.1.2.1, ⟨hk.1.2.2.1, hk.1.2.2.2⟩⟩⟩⟩)⟩, ⟨by (with_reducible repeat (first | refine blk_drewN ?_ _ | refine blk_drew ?_ | refine blk_alloc ?_ _)); exact BK648.out⟩, ⟨by (with_reducible repeat (first | refine blk_drewN ?_ _ | refine blk_drew ?_ | refine blk_alloc ?_ _)); exact BK659.out⟩, ⟨by repeat (first | (with_reducible first | exact HB.out | apply below_alloc | apply pw_below_drewN | apply below_drew1 | refine below_set ?_ GE648.out | refine below_set ?_ GE659.out) | exact HB.out)⟩⟩
            · rw [if_neg c28] at H
              have c28b0 : decide (0 < (t654.length : Int)) = false := decide_eq_false c28
              have c28b1 : decide (0 < t654.length) = false := decide_eq_false (by omega)
              clear c28
              by_cases c32 : t658 = true
              · subst c32
                have H1 : (mapsheetslaw24_DeviceSurvives.j1 kj2 t660 true l0_0 l0_1 a0_2 a0_3 t651 t654 t657 true) = some r := by rw [if_pos rfl] at H; exact H
                clear H
                have H := H1
                clear H1
                have H' := Aside0.mk H
                clear H
                have hnb33 := NB659_648.out
                have hnc33 := NB648_659.out
                have hcz34_0 : w26.cell? ⟨gb659, 0, none⟩ = some (.slice Ao20 t651.length co20) := (blk_cell BK659.out 0).trans rfl
                have hcz34_1 : w26.cell? ⟨gb659, 1, none⟩ = some (.slice Ao23 t654.length co23) := (blk_cell BK659.out 1).trans rfl
                have hcz34_2 : w26.cell? ⟨gb659, 2, none⟩ = some (.int .i64 t657) := (blk_cell BK659.out 2).trans rfl
                have hcz34_3 : w26.cell? ⟨gb659, 3, none⟩ = some (.bool true) := (blk_cell BK659.out 3).trans rfl
                have hfz34_0 := blk_frozen BK659.out 0
                have hfz34_1 := blk_frozen BK659.out 1
                have hfz34_2 := blk_frozen BK659.out 2
                have hfz34_3 := blk_frozen BK659.out 3
                have hcz35_0 : w26.cell? ⟨gb648, 0, none⟩ = some (.slice A0_0 l0_0.length c0_0) := (blk_cell BK648.out 0).trans rfl
                have hcz35_1 : w26.cell? ⟨gb648, 1, none⟩ = some (.slice A0_1 l0_1.length c0_1) := (blk_cell BK648.out 1).trans rfl
                have hcz35_2 : w26.cell? ⟨gb648, 2, none⟩ = some (.int .i64 a0_2) := (blk_cell BK648.out 2).trans rfl
                have hcz35_3 : w26.cell? ⟨gb648, 3, none⟩ = some (.bool a0_3) := (blk_cell BK648.out 3).trans rfl
                have hfz35_0 := blk_frozen BK648.out 0
                have hfz35_1 := blk_frozen BK648.out 1
                have hfz35_2 := blk_frozen BK648.out 2
                have hfz35_3 := blk_frozen BK648.out 3
                go_wp2
                go_meet
                case rel => exact ⟨_, (true), (by first | rfl | (simp; done) | (simp [*]; done)), H', ⟨by have := HJ2.out; first | omega | exact Nat.le_refl _⟩, ⟨by (with_reducible repeat (first | apply Kd.N_alloc | apply Kd.N_drewN | apply Kd.N_drew)); exact HO662.out⟩, ⟨by (with_reducible repeat (first | apply Kd.V_alloc | apply Kd.V_drewN | apply Kd.V_drew)); exact Kd.V_mono HO_649000.out (fun _ hk => ⟨hk.1.1, ⟨hk.2, ⟨hk.1.2.1, ⟨hk.1.2.2.1, ⟨hk.1.2.2.2.1, hk.1.2.2.2.2⟩⟩⟩⟩⟩)⟩, ⟨by (with_reducible repeat (first | apply Kd.V_alloc | apply Kd.V_drewN | apply Kd.V_drew)); exact Kd.V_mono HO_649001.out (fun _ hk => ⟨hk.1.1, ⟨hk.2, ⟨hk.1.2.1, ⟨hk.1.2.2.1, ⟨hk.1.2.2.2.1, hk.1.2.2.2.2⟩⟩⟩⟩⟩)⟩, ⟨by (with_reducible repeat (first | apply Kd.N_alloc | apply Kd.N_drewN | apply Kd.N_drew)); exact Kd.N_mono HO653.out (fun _ hk => ⟨hk.1.1, ⟨hk.2, ⟨hk.1.2.1, ⟨hk.1.2.2.1, hk.1.2.2.2⟩⟩⟩⟩)⟩, ⟨by (with_reducible repeat (first | apply Kd.N_alloc | apply Kd.N_drewN | apply Kd.N_drew)); exact Kd.N_mono HO656.out (fun _ hk => ⟨hk.1.1, ⟨hk.2, ⟨hk.1.2.1, ⟨hk.1.2.2.1, hk.1.2.2.2⟩⟩⟩⟩)⟩, ⟨by (with_reducible repeat (first | refine blk_drewN ?_ _ | refine blk_drew ?_ | refine blk_alloc ?_ _)); exact BK648.out⟩, ⟨by (with_reducible repeat (first | refine blk_drewN ?_ _ | refine blk_drew ?_ | refine blk_alloc ?_ _)); exact BK659.out⟩, ⟨by repeat (first | (with_reducible first | exact HB.out | apply below_alloc | apply pw_below_drewN | apply below_drew1 | refine below_set ?_ GE648.out | refine below_set ?_ GE659.out) | exact HB.out)⟩⟩
              · replace c32 := Bool.eq_false_iff.mpr c32
                subst c32
                have H1 : (mapsheetslaw24_DeviceSurvives.j1 kj2 t660 (t657 != (-1)) l0_0 l0_1 a0_2 a0_3 t651 t654 t657 false) = some r := by rw [if_neg (show ¬ (false = true) by decide)] at H; exact H
                clear H
                have H := H1
                clear H1
                have H' := Aside0.mk H
                clear H
                have hnb36 := NB659_648.out
                have hnc36 := NB648_659.out
                have hcz37_0 : w26.cell? ⟨gb659, 0, none⟩ = some (.slice Ao20 t651.length co20) := (blk_cell BK659.out 0).trans rfl
                have hcz37_1 : w26.cell? ⟨gb659, 1, none⟩ = some (.slice Ao23 t654.length co23) := (blk_cell BK659.out 1).trans rfl
                have hcz37_2 : w26.cell? ⟨gb659, 2, none⟩ = some (.int .i64 t657) := (blk_cell BK659.out 2).trans rfl
                have hcz37_3 : w26.cell? ⟨gb659, 3, none⟩ = some (.bool false) := (blk_cell BK659.out 3).trans rfl
                have hfz37_0 := blk_frozen BK659.out 0
                have hfz37_1 := blk_frozen BK659.out 1
                have hfz37_2 := blk_frozen BK659.out 2
                have hfz37_3 := blk_frozen BK659.out 3
                have hcz38_0 : w26.cell? ⟨gb648, 0, none⟩ = some (.slice A0_0 l0_0.length c0_0) := (blk_cell BK648.out 0).trans rfl
                have hcz38_1 : w26.cell? ⟨gb648, 1, none⟩ = some (.slice A0_1 l0_1.length c0_1) := (blk_cell BK648.out 1).trans rfl
                have hcz38_2 : w26.cell? ⟨gb648, 2, none⟩ = some (.int .i64 a0_2) := (blk_cell BK648.out 2).trans rfl
                have hcz38_3 : w26.cell? ⟨gb648, 3, none⟩ = some (.bool a0_3) := (blk_cell BK648.out 3).trans rfl
                have hfz38_0 := blk_frozen BK648.out 0
                have hfz38_1 := blk_frozen BK648.out 1
                have hfz38_2 := blk_frozen BK648.out 2
                have hfz38_3 := blk_frozen BK648.out 3
                go_wp2
                go_meet
                case rel => exact ⟨_, ((t657 != (-1))), (by first | rfl | (simp; done) | (simp [*]; done)), H', ⟨by have := HJ2.out; first | omega | exact Nat.le_refl _⟩, ⟨by (with_reducible repeat (first | apply Kd.N_alloc | apply Kd.N_drewN | apply Kd.N_drew)); exact HO662.out⟩, ⟨by (with_reducible repeat (first | apply Kd.V_alloc | apply Kd.V_drewN | apply Kd.V_drew)); exact Kd.V_mono HO_649000.out (fun _ hk => ⟨hk.1.1, ⟨hk.2, ⟨hk.1.2.1, ⟨hk.1.2.2.1, ⟨hk.1.2.2.2.1, hk.1.2.2.2.2⟩⟩⟩⟩⟩)⟩, ⟨by (with_reducible repeat (first | apply Kd.V_alloc | apply Kd.V_drewN | apply Kd.V_drew)); exact Kd.V_mono HO_649001.out (fun _ hk => ⟨hk.1.1, ⟨hk.2, ⟨hk.1.2.1, ⟨hk.1.2.2.1, ⟨hk.1.2.2.2.1, hk.1.2.2.2.2⟩⟩⟩⟩⟩)⟩, ⟨by (with_reducible repeat (first | apply Kd.N_alloc | apply Kd.N_drewN | apply Kd.N_drew)); exact Kd.N_mono HO653.out (fun _ hk => ⟨hk.1.1, ⟨hk.2, ⟨hk.1.2.1, ⟨hk.1.2.2.1, hk.1.2.2.2⟩⟩⟩⟩)⟩, ⟨by (with_reducible repeat (first | apply Kd.N_alloc | apply Kd.N_drewN | apply Kd.N_drew)); exact Kd.N_mono HO656.out (fun _ hk => ⟨hk.1.1, ⟨hk.2, ⟨hk.1.2.1, ⟨hk.1.2.2.1, hk.1.2.2.2⟩⟩⟩⟩)⟩, ⟨by (with_reducible repeat (first | refine blk_drewN ?_ _ | refine blk_drew ?_ | refine blk_alloc ?_ _)); exact BK648.out⟩, ⟨by (with_reducible repeat (first | refine blk_drewN ?_ _ | refine blk_drew ?_ | refine blk_alloc ?_ _)); exact BK659.out⟩, ⟨by repeat (first | (with_reducible first | exact HB.out | apply below_alloc | apply pw_below_drewN | apply below_drew1 | refine below_set ?_ GE648.out | refine below_set ?_ GE659.out) | exact HB.out)⟩⟩
          · rw [if_neg c27] at H
            have c27b0 : ((t651.length : Int) == (l0_0.length : Int)) = false := beq_eq_false_iff_ne.mpr c27
            have c27b1 : ((t651.length : Int) != (l0_0.length : Int)) = true := bne_iff_ne.mpr c27
            have c27b2 : (t651.length == l0_0.length) = false := by first | simpa using c27 | (simp at c27 ⊢; omega)
            (first | rw [c27b0] | (simp only [i64_w, i32_w]; rw [c27b0]) | skip)
            have H' := Aside0.mk H
            clear H
            have hnb39 := NB659_648.out
            have hnc39 := NB648_659.out
            have hcz40_0 : w26.cell? ⟨gb659, 0, none⟩ = some (.slice Ao20 t651.length co20) := (blk_cell BK659.out 0).trans rfl
            have hcz40_1 : w26.cell? ⟨gb659, 1, none⟩ = some (.slice Ao23 t654.length co23) := (blk_cell BK659.out 1).trans rfl
            have hcz40_2 : w26.cell? ⟨gb659, 2, none⟩ = some (.int .i64 t657) := (blk_cell BK659.out 2).trans rfl
            have hcz40_3 : w26.cell? ⟨gb659, 3, none⟩ = some (.bool t658) := (blk_cell BK659.out 3).trans rfl
            have hfz40_0 := blk_frozen BK659.out 0
            have hfz40_1 := blk_frozen BK659.out 1
            have hfz40_2 := blk_frozen BK659.out 2
            have hfz40_3 := blk_frozen BK659.out 3
            have hcz41_0 : w26.cell? ⟨gb648, 0, none⟩ = some (.slice A0_0 l0_0.length c0_0) := (blk_cell BK648.out 0).trans rfl
            have hcz41_1 : w26.cell? ⟨gb648, 1, none⟩ = some (.slice A0_1 l0_1.length c0_1) := (blk_cell BK648.out 1).trans rfl
            have hcz41_2 : w26.cell? ⟨gb648, 2, none⟩ = some (.int .i64 a0_2) := (blk_cell BK648.out 2).trans rfl
            have hcz41_3 : w26.cell? ⟨gb648, 3, none⟩ = some (.bool a0_3) := (blk_cell BK648.out 3).trans rfl
            have hfz41_0 := blk_frozen BK648.out 0
            have hfz41_1 := blk_frozen BK648.out 1
            have hfz41_2 := blk_frozen BK648.out 2
            have hfz41_3 := blk_frozen BK648.out 3
            go_wp2
            go_meet
            case rel => exact ⟨_, (true), (by first | rfl | (simp; done) | (simp [*]; done)), H', ⟨by have := HJ2.out; first | omega | exact Nat.le_refl _⟩, ⟨by (with_reducible repeat (first | apply Kd.N_alloc | apply Kd.N_drewN | apply Kd.N_drew)); exact HO662.out⟩, ⟨by (with_reducible repeat (first | apply Kd.V_alloc | apply Kd.V_drewN | apply Kd.V_drew)); exact Kd.V_mono HO_649000.out (fun _ hk => ⟨hk.1.1, ⟨hk.2, ⟨hk.1.2.1, ⟨hk.1.2.2.1, ⟨hk.1.2.2.2.1, hk.1.2.2.2.2⟩⟩⟩⟩⟩)⟩, ⟨by (with_reducible repeat (first | apply Kd.V_alloc | apply Kd.V_drewN | apply Kd.V_drew)); exact Kd.V_mono HO_649001.out (fun _ hk => ⟨hk.1.1, ⟨hk.2, ⟨hk.1.2.1, ⟨hk.1.2.2.1, ⟨hk.1.2.2.2.1, hk.1.2.2.2.2⟩⟩⟩⟩⟩)⟩, ⟨by (with_reducible repeat (first | apply Kd.N_alloc | apply Kd.N_drewN | apply Kd.N_drew)); exact Kd.N_mono HO653.out (fun _ hk => ⟨hk.1.1, ⟨hk.2, ⟨hk.1.2.1, ⟨hk.1.2.2.1, hk.1.2.2.2⟩⟩⟩⟩)⟩, ⟨by (with_reducible repeat (first | apply Kd.N_alloc | apply Kd.N_drewN | apply Kd.N_drew)); exact Kd.N_mono HO656.out (fun _ hk => ⟨hk.1.1, ⟨hk.2, ⟨hk.1.2.1, ⟨hk.1.2.2.1, hk.1.2.2.2⟩⟩⟩⟩)⟩, ⟨by (with_reducible repeat (first | refine blk_drewN ?_ _ | refine blk_drew ?_ | refine blk_alloc ?_ _)); exact BK648.out⟩, ⟨by (with_reducible repeat (first | refine blk_drewN ?_ _ | refine blk_drew ?_ | refine blk_alloc ?_ _)); exact BK659.out⟩, ⟨by repeat (first | (with_reducible first | exact HB.out | apply below_alloc | apply pw_below_drewN | apply below_drew1 | refine below_set ?_ GE648.out | refine below_set ?_ GE659.out) | exact HB.out)⟩⟩
        case rest =>
          clear HC16
          try clear c1
          try clear c2
          try clear p2
          try clear c3
          try clear c6
          try clear c8
          try clear c11
          try clear c12
          try clear c21
          try clear c25
          try clear c27
          try clear c27b0
          try clear c27b1
          try clear c27b2
          try clear c28
          try clear c28b0
          try clear c28b1
          try clear c29
          try clear c30
          try clear c32
          try clear c33
          try clear c36
          try clear c39
          try clear hcz17_0
          try clear hcz17_1
          try clear hcz17_2
          try clear hcz17_3
          try clear hcz22_0
          try clear hcz22_1
          try clear hcz22_2
          try clear hcz22_3
          try clear hcz25_0
          try clear hcz25_1
          try clear hcz25_2
          try clear hcz25_3
          try clear hcz30_0
          try clear hcz30_1
          try clear hcz30_2
          try clear hcz30_3
          try clear hcz31_0
          try clear hcz31_1
          try clear hcz31_2
          try clear hcz31_3
          try clear hcz34_0
          try clear hcz34_1
          try clear hcz34_2
          try clear hcz34_3
          try clear hcz35_0
          try clear hcz35_1
          try clear hcz35_2
          try clear hcz35_3
          try clear hcz37_0
          try clear hcz37_1
          try clear hcz37_2
          try clear hcz37_3
          try clear hcz38_0
          try clear hcz38_1
          try clear hcz38_2
          try clear hcz38_3
          try clear hcz40_0
          try clear hcz40_1
          try clear hcz40_2
          try clear hcz40_3
          try clear hcz41_0
          try clear hcz41_1
          try clear hcz41_2
          try clear hcz41_3
          try clear hcz7_0
          try clear hcz7_1
          try clear hcz7_2
          try clear hcz7_3
          try clear hcz9_0
          try clear hcz9_1
          try clear hcz9_2
          try clear hcz9_3
          try clear hfz17_0
          try clear hfz17_1
          try clear hfz17_2
          try clear hfz17_3
          try clear hfz22_0
          try clear hfz22_1
          try clear hfz22_2
          try clear hfz22_3
          try clear hfz25_0
          try clear hfz25_1
          try clear hfz25_2
          try clear hfz25_3
          try clear hfz30_0
          try clear hfz30_1
          try clear hfz30_2
          try clear hfz30_3
          try clear hfz31_0
          try clear hfz31_1
          try clear hfz31_2
          try clear hfz31_3
          try clear hfz34_0
          try clear hfz34_1
          try clear hfz34_2
          try clear hfz34_3
          try clear hfz35_0
          try clear hfz35_1
          try clear hfz35_2
          try clear hfz35_3
          try clear hfz37_0
          try clear hfz37_1
          try clear hfz37_2
          try clear hfz37_3
          try clear hfz38_0
          try clear hfz38_1
          try clear hfz38_2
          try clear hfz38_3
          try clear hfz40_0
          try clear hfz40_1
          try clear hfz40_2
          try clear hfz40_3
          try clear hfz41_0
          try clear hfz41_1
          try clear hfz41_2
          try clear hfz41_3
          try clear hfz7_0
          try clear hfz7_1
          try clear hfz7_2
          try clear hfz7_3
          try clear hfz9_0
          try clear hfz9_1
          try clear hfz9_2
          try clear hfz9_3
          try clear p2
          obtain ⟨kq, x49_15, rfl, HA, HJ15, HO_6, HO_649000, HO_649001, HO_660000, HO_660001, BK648, BK659, HB⟩ := hcut
          cases kq with
          | zero => exact absurd HA.out (by simp [mapsheetslaw24_DeviceSurvives.j1])
          | succ kj15 =>
            have H := HA.out
            clear HA
            simp only [mapsheetslaw24_DeviceSurvives.j1] at H
            by_cases c42 : x49_15 = true
            · subst c42
              have H1 : (none) = some r := by rw [if_pos rfl] at H; exact H
              clear H
              have H := H1
              clear H1
              exact absurd H (by simp)
            · replace c42 := Bool.eq_false_iff.mpr c42
              subst c42
              have H1 : (mapsheetslaw24_DeviceSurvives.l0 kj15 t660 0 l0_0 l0_1 a0_2 a0_3 t651 t654 t657 t658) = some r := by rw [if_neg (show ¬ (false = true) by decide)] at H; exact H
              clear H
              have H := H1
              clear H1
              have H' := Aside0.mk H
              clear H
              go_wp2
              go_loopg [7] kj15 (fun kq v7 w' => ∃ (x7_3 : Int), v7 = .int .i64 x7_3 ∧ Aside0 (mapsheetslaw24_DeviceSurvives.l0 kq t660 x7_3 l0_0 l0_1 a0_2 a0_3 t651 t654 t657 t658 = some r) ∧ Aside0 (kq ≤ kj15) ∧ Aside0 (Kd.N k53 53 w' w.heap.size (fun k_ => ((P0_0_ k_ ∨ P0_1_ k_) ∨ w.heap.size ≤ k_) ∧ some k_ ≠ ((.slice Ao20 t651.length co20) : Value).ownBlock ∧ some k_ ≠ ((.slice Ao23 t654.length co23) : Value).ownBlock ∧ k_ ≠ gb648 ∧ k_ ≠ gb659) v661 t660) ∧ Aside0 (Kd.V (Kd.slice 5 (Kd.int .u8)) 26 w' w.heap.size (fun k_ => ((P0_0_ k_ ∨ P0_1_ k_) ∨ w.heap.size ≤ k_) ∧ some k_ ≠ (v661 : Value).ownBlock ∧ some k_ ≠ ((.slice Ao20 t651.length co20) : Value).ownBlock ∧ some k_ ≠ ((.slice Ao23 t654.length co23) : Value).ownBlock ∧ k_ ≠ gb648 ∧ k_ ≠ gb659) (.slice A0_0 l0_0.length c0_0) l0_0) ∧ Aside0 (Kd.V k53 53 w' w.heap.size (fun k_ => ((P0_0_ k_ ∨ P0_1_ k_) ∨ w.heap.size ≤ k_) ∧ some k_ ≠ (v661 : Value).ownBlock ∧ some k_ ≠ ((.slice Ao20 t651.length co20) : Value).ownBlock ∧ some k_ ≠ ((.slice Ao23 t654.length co23) : Value).ownBlock ∧ k_ ≠ gb648 ∧ k_ ≠ gb659) (.slice A0_1 l0_1.length c0_1) l0_1) ∧ Aside0 (Kd.N (Kd.slice 5 (Kd.int .u8)) 26 w' w.heap.size (fun k_ => ((P0_0_ k_ ∨ P0_1_ k_) ∨ w.heap.size ≤ k_) ∧ some k_ ≠ (v661 : Value).ownBlock ∧ some k_ ≠ ((.slice Ao23 t654.length co23) : Value).ownBlock ∧ k_ ≠ gb648 ∧ k_ ≠ gb659) (.slice Ao20 t651.length co20) t651) ∧ Aside0 (Kd.N k53 53 w' w.heap.size (fun k_ => ((P0_0_ k_ ∨ P0_1_ k_) ∨ w.heap.size ≤ k_) ∧ some k_ ≠ (v661 : Value).ownBlock ∧ some k_ ≠ ((.slice Ao20 t651.length co20) : Value).ownBlock ∧ k_ ≠ gb648 ∧ k_ ≠ gb659) (.slice Ao23 t654.length co23) t654) ∧ Aside0 (w'.heap[gb648]? = some (.cells #[(.slice A0_0 l0_0.length c0_0), (.slice A0_1 l0_1.length c0_1), .int .i64 a0_2, .bool a0_3] 25 (0, 0))) ∧ Aside0 (w'.heap[gb659]? = some (.cells #[(.slice Ao20 t651.length co20), (.slice Ao23 t654.length co23), .int .i64 t657, .bool t658] 25 (0, 0))) ∧ Aside0 (Below w.heap.size w w'))
              case atStart => exact ⟨(0), (by first | rfl | (simp; done) | (simp [*]; done)), H', ⟨Nat.le_refl _⟩, ⟨by (with_reducible repeat (first | apply Kd.N_alloc | apply Kd.N_drewN | apply Kd.N_drew)); exact HO_6.out⟩, ⟨by (with_reducible repeat (first | apply Kd.V_alloc | apply Kd.V_drewN | apply Kd.V_drew)); exact HO_649000.out⟩, ⟨by (with_reducible repeat (first | apply Kd.V_alloc | apply Kd.V_drewN | apply Kd.V_drew)); exact HO_649001.out⟩, ⟨by (with_reducible repeat (first | apply Kd.N_alloc | apply Kd.N_drewN | apply Kd.N_drew)); exact HO_660000.out⟩, ⟨by (with_reducible repeat (first | apply Kd.N_alloc | apply Kd.N_drewN | apply Kd.N_drew)); exact HO_660001.out⟩, ⟨by (with_reducible repeat (first | refine blk_drewN ?_ _ | refine blk_drew ?_ | refine blk_alloc ?_ _)); exact BK648.out⟩, ⟨by (with_reducible repeat (first | refine blk_drewN ?_ _ | refine blk_drew ?_ | refine blk_alloc ?_ _)); exact BK659.out⟩, ⟨by repeat (first | (with_reducible first | exact HB.out | apply below_alloc | apply pw_below_drewN | apply below_drew1 | refine below_set ?_ GE648.out | refine below_set ?_ GE659.out) | exact HB.out)⟩⟩
              case round =>
                clear H'
                try clear c1
                try clear c2
                try clear p2
                try clear c3
                try clear c4
                try clear c6
                try clear c8
                try clear c11
                try clear c12
                try clear c21
                try clear c25
                try clear c27
                try clear c27b0
                try clear c27b1
                try clear c27b2
                try clear c28
                try clear c28b0
                try clear c28b1
                try clear c29
                try clear c30
                try clear c32
                try clear c33
                try clear c36
                try clear c39
                try clear c42
                try clear hcz17_0
                try clear hcz17_1
                try clear hcz17_2
                try clear hcz17_3
                try clear hcz22_0
                try clear hcz22_1
                try clear hcz22_2
                try clear hcz22_3
                try clear hcz25_0
                try clear hcz25_1
                try clear hcz25_2
                try clear hcz25_3
                try clear hcz30_0
                try clear hcz30_1
                try clear hcz30_2
                try clear hcz30_3
                try clear hcz31_0
                try clear hcz31_1
                try clear hcz31_2
                try clear hcz31_3
                try clear hcz34_0
                try clear hcz34_1
                try clear hcz34_2
                try clear hcz34_3
                try clear hcz35_0
                try clear hcz35_1
                try clear hcz35_2
                try clear hcz35_3
                try clear hcz37_0
                try clear hcz37_1
                try clear hcz37_2
                try clear hcz37_3
                try clear hcz38_0
                try clear hcz38_1
                try clear hcz38_2
                try clear hcz38_3
                try clear hcz40_0
                try clear hcz40_1
                try clear hcz40_2
                try clear hcz40_3
                try clear hcz41_0
                try clear hcz41_1
                try clear hcz41_2
                try clear hcz41_3
                try clear hcz7_0
                try clear hcz7_1
                try clear hcz7_2
                try clear hcz7_3
                try clear hcz9_0
                try clear hcz9_1
                try clear hcz9_2
                try clear hcz9_3
                try clear hfz17_0
                try clear hfz17_1
                try clear hfz17_2
                try clear hfz17_3
                try clear hfz22_0
                try clear hfz22_1
                try clear hfz22_2
                try clear hfz22_3
                try clear hfz25_0
                try clear hfz25_1
                try clear hfz25_2
                try clear hfz25_3
                try clear hfz30_0
                try clear hfz30_1
                try clear hfz30_2
                try clear hfz30_3
                try clear hfz31_0
                try clear hfz31_1
                try clear hfz31_2
                try clear hfz31_3
                try clear hfz34_0
                try clear hfz34_1
                try clear hfz34_2
                try clear hfz34_3
                try clear hfz35_0
                try clear hfz35_1
                try clear hfz35_2
                try clear hfz35_3
                try clear hfz37_0
                try clear hfz37_1
                try clear hfz37_2
                try clear hfz37_3
                try clear hfz38_0
                try clear hfz38_1
                try clear hfz38_2
                try clear hfz38_3
                try clear hfz40_0
                try clear hfz40_1
                try clear hfz40_2
                try clear hfz40_3
                try clear hfz41_0
                try clear hfz41_1
                try clear hfz41_2
                try clear hfz41_3
                try clear hfz7_0
                try clear hfz7_1
                try clear hfz7_2
                try clear hfz7_3
                try clear hfz9_0
                try clear hfz9_1
                try clear hfz9_2
                try clear hfz9_3
                try clear p2
                obtain ⟨x7_3, rfl, HA, HK3, HO_6, HO_649000, HO_649001, HO_660000, HO_660001, BK648, BK659, HB⟩ := hrel
                cases gk with
                | zero => exact absurd HA.out (by simp [mapsheetslaw24_DeviceSurvives.l0])
                | succ k3 =>
                  have H := HA.out
                  clear HA
                  simp only [mapsheetslaw24_DeviceSurvives.l0] at H
                  by_cases c43 : x7_3 < (l0_0.length : Int)
                  · rw [if_pos c43] at H
                    have c43b0 : decide (x7_3 < (l0_0.length : Int)) = true := decide_eq_true c43
                    clear c43
                    by_cases c44 : 0 ≤ x7_3
                    · rw [if_pos c44] at H
                      have c44b0 : decide (0 ≤ x7_3) = true := decide_eq_true c44
                      clear c44
                      have H' := Aside0.mk H
                      clear H
                      have hnb45 := NB648_659.out
                      have hnc45 := NB659_648.out
                      have hcz46_0 : wr.cell? ⟨gb648, 0, none⟩ = some (.slice A0_0 l0_0.length c0_0) := (blk_cell BK648.out 0).trans rfl
                      have hcz46_1 : wr.cell? ⟨gb648, 1, none⟩ = some (.slice A0_1 l0_1.length c0_1) := (blk_cell BK648.out 1).trans rfl
                      have hcz46_2 : wr.cell? ⟨gb648, 2, none⟩ = some (.int .i64 a0_2) := (blk_cell BK648.out 2).trans rfl
                      have hcz46_3 : wr.cell? ⟨gb648, 3, none⟩ = some (.bool a0_3) := (blk_cell BK648.out 3).trans rfl
                      have hfz46_0 := blk_frozen BK648.out 0
                      have hfz46_1 := blk_frozen BK648.out 1
                      have hfz46_2 := blk_frozen BK648.out 2
                      have hfz46_3 := blk_frozen BK648.out 3
                      have p664 : 0 ≤ (x7_3 : Int) := of_decide_eq_true (by first | (with_reducible assumption) | assumption)
                      have q664 : x7_3 < (l0_0.length : Int) := of_decide_eq_true (by first | (with_reducible assumption) | assumption)
                      obtain ⟨ad664, A664_0, c664_0, e664, hx664_0, hl664_0, hi664_0⟩ := at_L1 (Kd.V_reads' HO_649000.out).2.2 x7_3 p664 q664
                      cases e664
                      obtain ⟨ce664, hce664, hMe664, hcc664⟩ := Kd.V_get HO_649000.out [] x7_3 p664 (by first | exact q664 | exact of_decide_eq_true (by first | (with_reducible assumption) | assumption) | (have e_ := (Kd.V_reads' HO_649000.out).1; omega))
                      obtain ⟨ua664_0, uc664_0, rfl, ul664_0, ge664_0⟩ := Kd.FK_slice_open hMe664
                      have hv664_0 := hcc664 0 _ rfl
                      rw [Nat.add_zero, show ((Kd.slice 5 (Kd.int .u8))).sz = 1 from rfl, Nat.mul_one] at hv664_0
                      replace hv664_0 := Option.some.inj (hv664_0.symm.trans hx664_0)
                      injection hv664_0 with hva_ hvn_ hvc_
                      rw [hva_] at ge664_0
                      rw [hvc_] at ul664_0
                      have HL664_0 := Aside0.mk (show Kd.V (Kd.int .u8) 5 _ w.heap.size _ _ (rd_L1 l0_0 x7_3) from Kd.V_mk ul664_0 ge664_0)
                      clear hva_ hvn_ hvc_ ge664_0 ul664_0
                      clear hcc664 hce664
                      have HR664_0 := Aside0.mk hi664_0
                      have HC664_0 := Aside0.mk hl664_0
                      clear hi664_0 hl664_0
                      replace p664 := eq_true p664
                      replace q664 := eq_true q664
                      go_wp2
                      go_loopg [8, 9] k3 (fun kq v8 v9 w' => ∃ (x8_4 : List Int) (x9_4 : Int), v9 = .int .i64 x9_4 ∧ Aside0 (mapsheetslaw24_DeviceSurvives.l1 kq t660 x7_3 x8_4 x9_4 l0_0 l0_1 a0_2 a0_3 t651 t654 t657 t658 = some r) ∧ Aside0 (kq ≤ k3) ∧ Aside0 (Kd.N k53 53 w' w.heap.size (fun k_ => ((P0_0_ k_ ∨ P0_1_ k_) ∨ w.heap.size ≤ k_) ∧ some k_ ≠ ((.slice Ao20 t651.length co20) : Value).ownBlock ∧ some k_ ≠ ((.slice Ao23 t654.length co23) : Value).ownBlock ∧ k_ ≠ gb648 ∧ k_ ≠ gb659) v661 t660) ∧ Aside0 (Kd.V (Kd.int .u8) 5 w' w.heap.size (fun k_ => ((P0_0_ k_ ∨ P0_1_ k_) ∨ w.heap.size ≤ k_) ∧ some k_ ≠ (v661 : Value).ownBlock ∧ some k_ ≠ ((.slice Ao20 t651.length co20) : Value).ownBlock ∧ some k_ ≠ ((.slice Ao23 t654.length co23) : Value).ownBlock ∧ k_ ≠ gb648 ∧ k_ ≠ gb659) v8 x8_4) ∧ Aside0 (Kd.V (Kd.slice 5 (Kd.int .u8)) 26 w' w.heap.size (fun k_ => ((P0_0_ k_ ∨ P0_1_ k_) ∨ w.heap.size ≤ k_) ∧ some k_ ≠ (v661 : Value).ownBlock ∧ some k_ ≠ ((.slice Ao20 t651.length co20) : Value).ownBlock ∧ some k_ ≠ ((.slice Ao23 t654.length co23) : Value).ownBlock ∧ k_ ≠ gb648 ∧ k_ ≠ gb659) (.slice (some ad664) l0_0.length c0_0) l0_0) ∧ Aside0 (Kd.V k53 53 w' w.heap.size (fun k_ => ((P0_0_ k_ ∨ P0_1_ k_) ∨ w.heap.size ≤ k_) ∧ some k_ ≠ (v661 : Value).ownBlock ∧ some k_ ≠ ((.slice Ao20 t651.length co20) : Value).ownBlock ∧ some k_ ≠ ((.slice Ao23 t654.length co23) : Value).ownBlock ∧ k_ ≠ gb648 ∧ k_ ≠ gb659) (.slice A0_1 l0_1.length c0_1) l0_1) ∧ Aside0 (Kd.N (Kd.slice 5 (Kd.int .u8)) 26 w' w.heap.size (fun k_ => ((P0_0_ k_ ∨ P0_1_ k_) ∨ w.heap.size ≤ k_) ∧ some k_ ≠ (v661 : Value).ownBlock ∧ some k_ ≠ ((.slice Ao23 t654.length co23) : Value).ownBlock ∧ k_ ≠ gb648 ∧ k_ ≠ gb659) (.slice Ao20 t651.length co20) t651) ∧ Aside0 (Kd.N k53 53 w' w.heap.size (fun k_ => ((P0_0_ k_ ∨ P0_1_ k_) ∨ w.heap.size ≤ k_) ∧ some k_ ≠ (v661 : Value).ownBlock ∧ some k_ ≠ ((.slice Ao20 t651.length co20) : Value).ownBlock ∧ k_ ≠ gb648 ∧ k_ ≠ gb659) (.slice Ao23 t654.length co23) t654) ∧ Aside0 (w'.heap[gb648]? = some (.cells #[(.slice (some ad664) l0_0.length c0_0), (.slice A0_1 l0_1.length c0_1), .int .i64 a0_2, .bool a0_3] 25 (0, 0))) ∧ Aside0 (w'.heap[gb659]? = some (.cells #[(.slice Ao20 t651.length co20), (.slice Ao23 t654.length co23), .int .i64 t657, .bool t658] 25 (0, 0))) ∧ Aside0 (Kd.C (Kd.int .u8) w' A664_0 (rd_L1 l0_0 x7_3).length (rd_L1 l0_0 x7_3)) ∧ Aside0 (Below w.heap.size w w'))
                      case atStart => exact ⟨(rd_L1 l0_0 x7_3), (0), (by first | rfl | (simp; done) | (simp [*]; done)), H', ⟨Nat.le_refl _⟩, ⟨by (with_reducible repeat (first | apply Kd.N_alloc | apply Kd.N_drewN | apply Kd.N_drew)); exact HO_6.out⟩, ⟨by (with_reducible repeat (first | apply Kd.V_alloc | apply Kd.V_drewN | apply Kd.V_drew)); exact HL664_0.out⟩, ⟨by (with_reducible repeat (first | apply Kd.V_alloc | apply Kd.V_drewN | apply Kd.V_drew)); exact HO_649000.out⟩, ⟨by (with_reducible repeat (first | apply Kd.V_alloc | apply Kd.V_drewN | apply Kd.V_drew)); exact HO_649001.out⟩, ⟨by (with_reducible repeat (first | apply Kd.N_alloc | apply Kd.N_drewN | apply Kd.N_drew)); exact HO_660000.out⟩, ⟨by (with_reducible repeat (first | apply Kd.N_alloc | apply Kd.N_drewN | apply Kd.N_drew)); exact HO_660001.out⟩, ⟨by (with_reducible repeat (first | refine blk_drewN ?_ _ | refine blk_drew ?_ | refine blk_alloc ?_ _)); exact BK648.out⟩, ⟨by (with_reducible repeat (first | refine blk_drewN ?_ _ | refine blk_drew ?_ | refine blk_alloc ?_ _)); exact BK659.out⟩, ⟨by repeat (first | (with_reducible exact HR664_0.out) | (with_reducible refine Kd.C_alloc ?_ _) | (with_reducible refine Kd.C_drewN ?_ _) | (with_reducible refine Kd.C_drew ?_) | exact HR664_0.out)⟩, ⟨by repeat (first | (with_reducible first | exact HB.out | apply below_alloc | apply pw_below_drewN | apply below_drew1 | refine below_set ?_ GE648.out | refine below_set ?_ GE659.out) | exact HB.out)⟩⟩
                      case round =>
                        clear H'
                        try clear c1
                        try clear c2
                        try clear p2
                        try clear c3
                        try clear c4
                        try clear c6
                        try clear p6
                        try clear q6
                        try clear hx6
                        try clear c8
                        try clear c11
                        try clear c12
                        try clear c21
                        try clear c25
                        try clear c27
                        try clear c27b0
                        try clear c27b1
                        try clear c27b2
                        try clear c28
                        try clear c28b0
                        try clear c28b1
                        try clear c29
                        try clear c30
                        try clear c32
                        try clear c33
                        try clear c36
                        try clear c39
                        try clear c42
                        try clear c43
                        try clear c43b0
                        try clear c44
                        try clear c44b0
                        try clear c45
                        try clear hcz17_0
                        try clear hcz17_1
                        try clear hcz17_2
                        try clear hcz17_3
                        try clear hcz22_0
                        try clear hcz22_1
                        try clear hcz22_2
                        try clear hcz22_3
                        try clear hcz25_0
                        try clear hcz25_1
                        try clear hcz25_2
                        try clear hcz25_3
                        try clear hcz30_0
                        try clear hcz30_1
                        try clear hcz30_2
                        try clear hcz30_3
                        try clear hcz31_0
                        try clear hcz31_1
                        try clear hcz31_2
                        try clear hcz31_3
                        try clear hcz34_0
                        try clear hcz34_1
                        try clear hcz34_2
                        try clear hcz34_3
                        try clear hcz35_0
                        try clear hcz35_1
                        try clear hcz35_2
                        try clear hcz35_3
                        try clear hcz37_0
                        try clear hcz37_1
                        try clear hcz37_2
                        try clear hcz37_3
                        try clear hcz38_0
                        try clear hcz38_1
                        try clear hcz38_2
                        try clear hcz38_3
                        try clear hcz40_0
                        try clear hcz40_1
                        try clear hcz40_2
                        try clear hcz40_3
                        try clear hcz41_0
                        try clear hcz41_1
                        try clear hcz41_2
                        try clear hcz41_3
                        try clear hcz46_0
                        try clear hcz46_1
                        try clear hcz46_2
                        try clear hcz46_3
                        try clear hcz7_0
                        try clear hcz7_1
                        try clear hcz7_2
                        try clear hcz7_3
                        try clear hcz9_0
                        try clear hcz9_1
                        try clear hcz9_2
                        try clear hcz9_3
                        try clear hfz17_0
                        try clear hfz17_1
                        try clear hfz17_2
                        try clear hfz17_3
                        try clear hfz22_0
                        try clear hfz22_1
                        try clear hfz22_2
                        try clear hfz22_3
                        try clear hfz25_0
                        try clear hfz25_1
                        try clear hfz25_2
                        try clear hfz25_3
                        try clear hfz30_0
                        try clear hfz30_1
                        try clear hfz30_2
                        try clear hfz30_3
                        try clear hfz31_0
                        try clear hfz31_1
                        try clear hfz31_2
                        try clear hfz31_3
                        try clear hfz34_0
                        try clear hfz34_1
                        try clear hfz34_2
                        try clear hfz34_3
                        try clear hfz35_0
                        try clear hfz35_1
                        try clear hfz35_2
                        try clear hfz35_3
                        try clear hfz37_0
                        try clear hfz37_1
                        try clear hfz37_2
                        try clear hfz37_3
                        try clear hfz38_0
                        try clear hfz38_1
                        try clear hfz38_2
                        try clear hfz38_3
                        try clear hfz40_0
                        try clear hfz40_1
                        try clear hfz40_2
                        try clear hfz40_3
                        try clear hfz41_0
                        try clear hfz41_1
                        try clear hfz41_2
                        try clear hfz41_3
                        try clear hfz46_0
                        try clear hfz46_1
                        try clear hfz46_2
                        try clear hfz46_3
                        try clear hfz7_0
                        try clear hfz7_1
                        try clear hfz7_2
                        try clear hfz7_3
                        try clear hfz9_0
                        try clear hfz9_1
                        try clear hfz9_2
                        try clear hfz9_3
                        try clear hx664_0
                        try clear p2
                        try clear p664
                        try clear q664
                        obtain ⟨x8_4, x9_4, rfl, HA, HK4, HO_6, HO_8, HO_649000, HO_649001, HO_660000, HO_660001, BK648, BK659, HR664_0, HB⟩ := hrel
                        cases gk with
                        | zero => exact absurd HA.out (by simp [mapsheetslaw24_DeviceSurvives.l1])
                        | succ k4 =>
                          have H := HA.out
                          clear HA
                          simp only [mapsheetslaw24_DeviceSurvives.l1] at H
                          by_cases c47 : x9_4 < (t660.length : Int)
                          · rw [if_pos c47] at H
                            have c47b0 : decide (x9_4 < (t660.length : Int)) = true := decide_eq_true c47
                            clear c47
                            by_cases c48 : 0 ≤ x9_4
                            · rw [if_pos c48] at H
                              have c48b0 : decide (0 ≤ x9_4) = true := decide_eq_true c48
                              clear c48
                              by_cases c49 : ((rd_T53 t660 x9_4).f0) = x7_3
                              · rw [if_pos c49] at H
                                have c49b0 : (((rd_T53 t660 x9_4).f0) == x7_3) = true := beq_iff_eq.mpr c49
                                have c49b1 : (((rd_T53 t660 x9_4).f0) != x7_3) = false := bne_eq_false_iff_eq.mpr c49
                                clear c49
                                have H' := Aside0.mk H
                                clear H
                                obtain ⟨Ao50, co50, eo50⟩ := Kd.N_slice HO_6.out
                                subst eo50
                                have p665 : 0 ≤ (x9_4 : Int) := of_decide_eq_true (by first | (with_reducible assumption) | assumption)
                                have q665 : x9_4 < (t660.length : Int) := of_decide_eq_true (by first | (with_reducible assumption) | assumption)
                                obtain ⟨ad665, A665_1, c665_1, e665, hx665_0, hx665_1, hl665_1, hi665_1⟩ := at_T53 (Kd.N_reads' HO_6.out).2.2 x9_4 p665 q665
                                cases e665
                                obtain ⟨ce665, hce665, hMe665, hcc665⟩ := Kd.N_get HO_6.out z53 x9_4 p665 (by first | exact q665 | exact of_decide_eq_true (by first | (with_reducible assumption) | assumption) | (have e_ := (Kd.N_reads' HO_6.out).1; omega))
                                obtain ⟨ua665_1, uc665_1, rfl, ul665_1, ge665_1⟩ := k53_openF hMe665
                                have hv665_1 := hcc665 1 _ rfl
                                rw [add_field _ _ 1 (by omega)] at hv665_1
                                replace hv665_1 := Option.some.inj (hv665_1.symm.trans hx665_1)
                                injection hv665_1 with hva_ hvn_ hvc_
                                rw [hva_] at ge665_1
                                rw [hvc_] at ul665_1
                                have HL665_1 := Aside0.mk (show Kd.V (Kd.int .u8) 5 _ w.heap.size _ _ ((rd_T53 t660 x9_4).f1) from Kd.V_mk ul665_1 ge665_1)
                                clear hva_ hvn_ hvc_ ge665_1 ul665_1
                                clear hcc665 hce665
                                have HR665_1 := Aside0.mk hi665_1
                                have HC665_1 := Aside0.mk hl665_1
                                clear hi665_1 hl665_1
                                replace p665 := eq_true p665
                                replace q665 := eq_true q665
                                have p666 : 0 ≤ (x9_4 : Int) := of_decide_eq_true (by first | (with_reducible assumption) | assumption)
                                have q666 : x9_4 < (t660.length : Int) := of_decide_eq_true (by first | (with_reducible assumption) | assumption)
                                obtain ⟨ad666, A666_1, c666_1, e666, hx666_0, hx666_1, hl666_1, hi666_1⟩ := at_T53 (Kd.N_reads' HO_6.out).2.2 x9_4 p666 q666
                                obtain rfl : ad665 = ad666 := (by injection e666)
                                obtain ⟨ce666, hce666, hMe666, hcc666⟩ := Kd.N_get HO_6.out z53 x9_4 p666 (by first | exact q666 | exact of_decide_eq_true (by first | (with_reducible assumption) | assumption) | (have e_ := (Kd.N_reads' HO_6.out).1; omega))
                                obtain ⟨ua666_1, uc666_1, rfl, ul666_1, ge666_1⟩ := k53_openF hMe666
                                have hv666_1 := hcc666 1 _ rfl
                                rw [add_field _ _ 1 (by omega)] at hv666_1
                                replace hv666_1 := Option.some.inj (hv666_1.symm.trans hx666_1)
                                injection hv666_1 with hva_ hvn_ hvc_
                                rw [hva_] at ge666_1
                                rw [hvc_] at ul666_1
                                have HL666_1 := Aside0.mk (show Kd.V (Kd.int .u8) 5 _ w.heap.size _ _ ((rd_T53 t660 x9_4).f1) from Kd.V_mk ul666_1 ge666_1)
                                clear hva_ hvn_ hvc_ ge666_1 ul666_1
                                clear hcc666 hce666
                                have HR666_1 := Aside0.mk hi666_1
                                have HC666_1 := Aside0.mk hl666_1
                                clear hi666_1 hl666_1
                                replace p666 := eq_true p666
                                replace q666 := eq_true q666
                                have ea_ := Option.some.inj (hx665_1.symm.trans hx666_1)
                                injection ea_ with ea_ en_ ec_
                                subst ea_
                                subst ec_
                                clear en_
                                go_wp2
                                go_roundg k4
                                case measure => have := HJ2.out; have := HJ15.out; have := HK3.out; have := HK4.out; omega
                                case rel => exact ⟨((rd_T53 t660 x9_4).f1), (wrap64 (x9_4 + 1)), (by first | rfl | (simp; done) | (simp [*]; done)), H', ⟨by have := HJ2.out; have := HJ15.out; have := HK3.out; have := HK4.out; omega⟩, ⟨by (with_reducible repeat (first | apply Kd.N_alloc | apply Kd.N_drewN | apply Kd.N_drew)); exact HO_6.out⟩, ⟨by (with_reducible repeat (first | apply Kd.V_alloc | apply Kd.V_drewN | apply Kd.V_drew)); exact Kd.V_mono HL666_1.out (fun _ hk => ⟨hk.1.1, ⟨hk.2, ⟨hk.1.2.1, ⟨hk.1.2.2.1, ⟨hk.1.2.2.2.1, hk.1.2.2.2.2⟩⟩⟩⟩⟩)⟩, ⟨by (with_reducible repeat (first | apply Kd.V_alloc | apply Kd.V_drewN | apply Kd.V_drew)); exact HO_649000.out⟩, ⟨by (with_reducible repeat (first | apply Kd.V_alloc | apply Kd.V_drewN | apply Kd.V_drew)); exact HO_649001.out⟩, ⟨by (with_reducible repeat (first | apply Kd.N_alloc | apply Kd.N_drewN | apply Kd.N_drew)); exact HO_660000.out⟩, ⟨by (with_reducible repeat (first | apply Kd.N_alloc | apply Kd.N_drewN | apply Kd.N_drew)); exact HO_660001.out⟩, ⟨by (with_reducible repeat (first | refine blk_drewN ?_ _ | refine blk_drew ?_ | refine blk_alloc ?_ _)); exact BK648.out⟩, ⟨by (with_reducible repeat (first | refine blk_drewN ?_ _ | refine blk_drew ?_ | refine blk_alloc ?_ _)); exact BK659.out⟩, ⟨by repeat (first | (with_reducible exact HR664_0.out) | (with_reducible refine Kd.C_alloc ?_ _) | (with_reducible refine Kd.C_drewN ?_ _) | (with_reducible refine Kd.C_drew ?_) | exact HR664_0.out)⟩, ⟨by repeat (first | (with_reducible first | exact HB.out | apply below_alloc | apply pw_below_drewN | apply below_drew1 | refine below_set ?_ GE648.out | refine below_set ?_ GE659.out) | exact HB.out)⟩⟩
                              · rw [if_neg c49] at H
                                have c49b0 : (((rd_T53 t660 x9_4).f0) == x7_3) = false := beq_eq_false_iff_ne.mpr c49
                                have c49b1 : (((rd_T53 t660 x9_4).f0) != x7_3) = true := bne_iff_ne.mpr c49
                                have H' := Aside0.mk H
                                clear H
                                obtain ⟨Ao51, co51, eo51⟩ := Kd.N_slice HO_6.out
                                subst eo51
                                have p665 : 0 ≤ (x9_4 : Int) := of_decide_eq_true (by first | (with_reducible assumption) | assumption)
                                have q665 : x9_4 < (t660.length : Int) := of_decide_eq_true (by first | (with_reducible assumption) | assumption)
                                obtain ⟨ad665, A665_1, c665_1, e665, hx665_0, hx665_1, hl665_1, hi665_1⟩ := at_T53 (Kd.N_reads' HO_6.out).2.2 x9_4 p665 q665
                                cases e665
                                obtain ⟨ce665, hce665, hMe665, hcc665⟩ := Kd.N_get HO_6.out z53 x9_4 p665 (by first | exact q665 | exact of_decide_eq_true (by first | (with_reducible assumption) | assumption) | (have e_ := (Kd.N_reads' HO_6.out).1; omega))
                                obtain ⟨ua665_1, uc665_1, rfl, ul665_1, ge665_1⟩ := k53_openF hMe665
                                have hv665_1 := hcc665 1 _ rfl
                                rw [add_field _ _ 1 (by omega)] at hv665_1
                                replace hv665_1 := Option.some.inj (hv665_1.symm.trans hx665_1)
                                injection hv665_1 with hva_ hvn_ hvc_
                                rw [hva_] at ge665_1
                                rw [hvc_] at ul665_1
                                have HL665_1 := Aside0.mk (show Kd.V (Kd.int .u8) 5 _ w.heap.size _ _ ((rd_T53 t660 x9_4).f1) from Kd.V_mk ul665_1 ge665_1)
                                clear hva_ hvn_ hvc_ ge665_1 ul665_1
                                clear hcc665 hce665
                                have HR665_1 := Aside0.mk hi665_1
                                have HC665_1 := Aside0.mk hl665_1
                                clear hi665_1 hl665_1
                                replace p665 := eq_true p665
                                replace q665 := eq_true q665
                                go_wp2
                                go_roundg k4
                                case measure => have := HJ2.out; have := HJ15.out; have := HK3.out; have := HK4.out; omega
                                case rel => exact ⟨(x8_4), (wrap64 (x9_4 + 1)), (by first | rfl | (simp; done) | (simp [*]; done)), H', ⟨by have := HJ2.out; have := HJ15.out; have := HK3.out; have := HK4.out; omega⟩, ⟨by (with_reducible repeat (first | apply Kd.N_alloc | apply Kd.N_drewN | apply Kd.N_drew)); exact HO_6.out⟩, ⟨by (with_reducible repeat (first | apply Kd.V_alloc | apply Kd.V_drewN | apply Kd.V_drew)); exact HO_8.out⟩, ⟨by (with_reducible repeat (first | apply Kd.V_alloc | apply Kd.V_drewN | apply Kd.V_drew)); exact HO_649000.out⟩, ⟨by (with_reducible repeat (first | apply Kd.V_alloc | apply Kd.V_drewN | apply Kd.V_drew)); exact HO_649001.out⟩, ⟨by (with_reducible repeat (first | apply Kd.N_alloc | apply Kd.N_drewN | apply Kd.N_drew)); exact HO_660000.out⟩, ⟨by (with_reducible repeat (first | apply Kd.N_alloc | apply Kd.N_drewN | apply Kd.N_drew)); exact HO_660001.out⟩, ⟨by (with_reducible repeat (first | refine blk_drewN ?_ _ | refine blk_drew ?_ | refine blk_alloc ?_ _)); exact BK648.out⟩, ⟨by (with_reducible repeat (first | refine blk_drewN ?_ _ | refine blk_drew ?_ | refine blk_alloc ?_ _)); exact BK659.out⟩, ⟨by repeat (first | (with_reducible exact HR664_0.out) | (with_reducible refine Kd.C_alloc ?_ _) | (with_reducible refine Kd.C_drewN ?_ _) | (with_reducible refine Kd.C_drew ?_) | exact HR664_0.out)⟩, ⟨by repeat (first | (with_reducible first | exact HB.out | apply below_alloc | apply pw_below_drewN | apply below_drew1 | refine below_set ?_ GE648.out | refine below_set ?_ GE659.out) | exact HB.out)⟩⟩
                            · rw [if_neg c48] at H
                              exact absurd H (by simp)
                          · rw [if_neg c47] at H
                            have c47b0 : decide (x9_4 < (t660.length : Int)) = false := decide_eq_false c47
                            clear c47
                            replace H := Option.bind_eq_some_iff.mp H
                            obtain ⟨⟨t667, t670⟩, A520, H⟩ := H
                            replace H : (if t670 = 0 then ((mapsheetsref24_SameBytes.f k4 t667 x8_4).bind fun t671 => (if t671 = true then (mapsheetslaw24_DeviceSurvives.l0 k4 t660 (wrap64 (x7_3 + 1)) l0_0 l0_1 a0_2 a0_3 t651 t654 t657 t658) else (none))) else (none)) = some r := H
                            have A52 := Aside0.mk A520
                            clear A520
                            by_cases c53 : t670 = 0
                            · rw [if_pos c53] at H
                              have c53b0 : (t670 == 0) = true := beq_iff_eq.mpr c53
                              have c53b1 : (t670 != 0) = false := bne_eq_false_iff_eq.mpr c53
                              clear c53
                              replace H := Option.bind_eq_some_iff.mp H
                              obtain ⟨t671, A540, H⟩ := H
                              replace H : (if t671 = true then (mapsheetslaw24_DeviceSurvives.l0 k4 t660 (wrap64 (x7_3 + 1)) l0_0 l0_1 a0_2 a0_3 t651 t654 t657 t658) else (none)) = some r := H
                              have A54 := Aside0.mk A540
                              clear A540
                              by_cases c55 : t671 = true
                              · subst c55
                                have H1 : (mapsheetslaw24_DeviceSurvives.l0 k4 t660 (wrap64 (x7_3 + 1)) l0_0 l0_1 a0_2 a0_3 t651 t654 t657 t658) = some r := by rw [if_pos rfl] at H; exact H
                                clear H
                                have H := H1
                                clear H1
                                have H' := Aside0.mk H
                                clear H
                                obtain ⟨Ao56, co56, eo56⟩ := Kd.N_slice HO_6.out
                                subst eo56
                                have hnb57 := NB659_648.out
                                have hnc57 := NB648_659.out
                                have hcz58_0 : wr.cell? ⟨gb659, 0, none⟩ = some (.slice Ao20 t651.length co20) := (blk_cell BK659.out 0).trans rfl
                                have hcz58_1 : wr.cell? ⟨gb659, 1, none⟩ = some (.slice Ao23 t654.length co23) := (blk_cell BK659.out 1).trans rfl
                                have hcz58_2 : wr.cell? ⟨gb659, 2, none⟩ = some (.int .i64 t657) := (blk_cell BK659.out 2).trans rfl
                                have hcz58_3 : wr.cell? ⟨gb659, 3, none⟩ = some (.bool t658) := (blk_cell BK659.out 3).trans rfl
                                have hfz58_0 := blk_frozen BK659.out 0
                                have hfz58_1 := blk_frozen BK659.out 1
                                have hfz58_2 := blk_frozen BK659.out 2
                                have hfz58_3 := blk_frozen BK659.out 3
                                go_wp2_with (first | ((with_reducible refine gate_callee (f := 15) rfl ?_); refine goesL_ (some 83) rfl rfl Try.func15 (by kernel_rfl) rfl #[.agg #[.slice Ao20 t651.length co20, .slice Ao23 t654.length co23, .int .i64 t657, .bool t658], .int .i64 x7_3] rfl (by (try simp only [List.map_toArray, List.map_cons, List.map_nil]); first | done | rfl | (simp only [List.length_drop, List.length_take]; rfl)) ?_; (with_reducible refine (device_Read.calls k4 _ _ t651 _ _ t654 t657 t658 x7_3 t667 t670 _ ?side1 ?side2 ?side3 ?side4 A52.out).mono ?_); (case side1 => repeat (first | exact (Kd.N_reads' HO_660000.out).2.2 | (with_reducible refine Kd.C_alloc ?_ _) | (with_reducible refine Kd.C_drewN ?_ _) | (with_reducible refine Kd.C_drew ?_))); (case side2 => exact (Kd.N_reads' HO_660000.out).2.1); (case side3 => repeat (first | exact (Kd.N_reads' HO_660001.out).2.2 | (with_reducible refine Kd.C_alloc ?_ _) | (with_reducible refine Kd.C_drewN ?_ _) | (with_reducible refine Kd.C_drew ?_))); (case side4 => exact (Kd.N_reads' HO_660001.out).2.1); rintro e w59 ⟨v668, rfl, ho0, hb⟩; refine ⟨_, rfl, ?_⟩; have n0_ := Aside0.mk (Kd.N_elder' (by (with_reducible repeat (first | apply Kd.N_alloc | apply Kd.N_drewN | apply Kd.N_drew)); exact HO_6.out) (Kd.R_base ho0) hb); have n1_ := Aside0.mk (Kd.V_elder' (by (with_reducible repeat (first | apply Kd.V_alloc | apply Kd.V_drewN | apply Kd.V_drew)); exact HO_8.out) (Kd.R_base ho0) hb); have n2_ := Aside0.mk (Kd.V_elder' (by (with_reducible repeat (first | apply Kd.V_alloc | apply Kd.V_drewN | apply Kd.V_drew)); exact HO_649000.out) (Kd.R_base ho0) hb); have n3_ := Aside0.mk (Kd.V_elder' (by (with_reducible repeat (first | apply Kd.V_alloc | apply Kd.V_drewN | apply Kd.V_drew)); exact HO_649001.out) (Kd.R_base ho0) hb); have n4_ := Aside0.mk (Kd.N_elder' (by (with_reducible repeat (first | apply Kd.N_alloc | apply Kd.N_drewN | apply Kd.N_drew)); exact HO_660000.out) (Kd.R_base ho0) hb); have n5_ := Aside0.mk (Kd.N_elder' (by (with_reducible repeat (first | apply Kd.N_alloc | apply Kd.N_drewN | apply Kd.N_drew)); exact HO_660001.out) (Kd.R_base ho0) hb); have n6_ := Aside0.mk (Kd.R_lower (Kd.R_newM (M := fun k_ => (w.heap.size ≤ k_)) ho0 (below_size (by repeat (first | (with_reducible first | exact HB.out | apply below_alloc | apply pw_below_drewN | apply below_drew1 | refine below_set ?_ GE648.out | refine below_set ?_ GE659.out) | exact HB.out))) (fun k_ h_ => h_)) (below_size (by repeat (first | (with_reducible first | exact HB.out | apply below_alloc | apply pw_below_drewN | apply below_drew1 | refine below_set ?_ GE648.out | refine below_set ?_ GE659.out) | exact HB.out)))); have n7_ := Aside0.mk (blk_below (g := gb648) (o := .cells #[.slice (some ad664) l0_0.length c0_0, .slice A0_1 l0_1.length c0_1, .int .i64 a0_2, .bool a0_3] 25 (0, 0)) (by (with_reducible repeat (first | refine blk_drewN ?_ _ | refine blk_drew ?_ | refine blk_alloc ?_ _)); exact BK648.out) hb); have n8_ := Aside0.mk (blk_below (g := gb659) (o := .cells #[.slice Ao20 t651.length co20, .slice Ao23 t654.length co23, .int .i64 t657, .bool t658] 25 (0, 0)) (by (with_reducible repeat (first | refine blk_drewN ?_ _ | refine blk_drew ?_ | refine blk_alloc ?_ _)); exact BK659.out) hb); have n9_ := Aside0.mk (Kd.C_below (by repeat (first | (with_reducible exact HR664_0.out) | (with_reducible refine Kd.C_alloc ?_ _) | (with_reducible refine Kd.C_drewN ?_ _) | (with_reducible refine Kd.C_drew ?_) | exact HR664_0.out)) hb); have n10_ := Aside0.mk (below_step (by repeat (first | (with_reducible first | exact HB.out | apply below_alloc | apply pw_below_drewN | apply below_drew1 | refine below_set ?_ GE648.out | refine below_set ?_ GE659.out) | exact HB.out)) hb); clear HO_6; clear HO_8; clear HO_649000; clear HO_649001; clear HO_660000; clear HO_660001; clear BK648; clear BK659; clear HR664_0; clear HB; have HO_6 := n0_; have HO_8 := n1_; have HO_649000 := n2_; have HO_649001 := n3_; have HO_660000 := n4_; have HO_660001 := n5_; have HO669 := n6_; have BK648 := n7_; have BK659 := n8_; have HR664_0 := n9_; have HB := n10_; clear n0_ n1_ n2_ n3_ n4_ n5_ n6_ n7_ n8_ n9_ n10_; (try clear hb); (try clear hb2); (try clear hk); (try clear hi); (try clear ho0); obtain ⟨Ao60, co60, eo60⟩ := Kd.R_slice HO669.out; subst eo60; obtain ⟨Ao61, co61, eo61⟩ := Kd.V_slice HO_8.out; subst eo61) | (go_at_call 18; (with_reducible refine (mapsheetsref24_SameBytes.calls k4 _ _ t667 _ _ x8_4 true _ ?side1 ?side2 ?side3 ?side4 A54.out).mono ?_); (case side1 => repeat (first | exact (Kd.R_reads' HO669.out).2.2 | (with_reducible refine Kd.C_alloc ?_ _) | (with_reducible refine Kd.C_drewN ?_ _) | (with_reducible refine Kd.C_drew ?_))); (case side2 => exact (Kd.R_reads' HO669.out).2.1); (case side3 => repeat (first | exact (Kd.V_reads' HO_8.out).2.2 | (with_reducible refine Kd.C_alloc ?_ _) | (with_reducible refine Kd.C_drewN ?_ _) | (with_reducible refine Kd.C_drew ?_))); (case side4 => exact (Kd.V_reads' HO_8.out).2.1); rintro e w' ⟨rfl, ⟨nd, rfl⟩⟩))
                                go_roundg k4
                                case measure => have := HJ2.out; have := HJ15.out; have := HK3.out; have := HK4.out; omega
                                case rel => exact ⟨(wrap64 (x7_3 + 1)), (by first | rfl | (simp; done) | (simp [*]; done)), H', ⟨by have := HJ2.out; have := HJ15.out; have := HK3.out; have := HK4.out; omega⟩, ⟨by (with_reducible repeat (first | apply Kd.N_alloc | apply Kd.N_drewN | apply Kd.N_drew)); exact Kd.N_mono HO_6.out (fun _ hk => ⟨hk.1.1, ⟨hk.1.2.1, ⟨hk.1.2.2.1, ⟨hk.1.2.2.2.1, hk.1.2.2.2.2⟩⟩⟩⟩)⟩, ⟨by (with_reducible repeat (first | apply Kd.V_alloc | apply Kd.V_drewN | apply Kd.V_drew)); exact Kd.V_mono HO_649000.out (fun _ hk => ⟨hk.1.1, ⟨hk.1.2.1, ⟨hk.1.2.2.1, ⟨hk.1.2.2.2.1, ⟨hk.1.2.2.2.2.1, hk.1.2.2.2.2.2⟩⟩⟩⟩⟩)⟩, ⟨by (with_reducible repeat (first | apply Kd.V_alloc | apply Kd.V_drewN | apply Kd.V_drew)); exact Kd.V_mono HO_649001.out (fun _ hk => ⟨hk.1.1, ⟨hk.1.2.1, ⟨hk.1.2.2.1, ⟨hk.1.2.2.2.1, ⟨hk.1.2.2.2.2.1, hk.1.2.2.2.2.2⟩⟩⟩⟩⟩)⟩, ⟨by (with_reducible repeat (first | apply Kd.N_alloc | apply Kd.N_drewN | apply Kd.N_drew)); exact Kd.N_mono HO_660000.out (fun _ hk => ⟨hk.1.1, ⟨hk.1.2.1, ⟨hk.1.2.2.1, ⟨hk.1.2.2.2.1, hk.1.2.2.2.2⟩⟩⟩⟩)⟩, ⟨by (with_reducible repeat (first | apply Kd.N_alloc | apply Kd.N_drewN | apply Kd.N_drew)); exact Kd.N_mono HO_660001.out (fun _ hk => ⟨hk.1.1, ⟨hk.1.2.1, ⟨hk.1.2.2.1, ⟨hk.1.2.2.2.1, hk.1.2.2.2.2⟩⟩⟩⟩)⟩, ⟨by (with_reducible repeat (first | refine blk_drewN ?_ _ | refine blk_drew ?_ | refine blk_alloc ?_ _)); exact BK648.out⟩, ⟨by (with_reducible repeat (first | refine blk_drewN ?_ _ | refine blk_drew ?_ | refine blk_alloc ?_ _)); exact BK659.out⟩, ⟨by repeat (first | (with_reducible first | exact HB.out | apply below_alloc | apply pw_below_drewN | apply below_drew1 | refine below_set ?_ GE648.out | refine below_set ?_ GE659.out) | exact HB.out)⟩⟩
                              · replace c55 := Bool.eq_false_iff.mpr c55
                                subst c55
                                have H1 : (none) = some r := by rw [if_neg (show ¬ (false = true) by decide)] at H; exact H
                                clear H
                                have H := H1
                                clear H1
                                exact absurd H (by simp)
                            · rw [if_neg c53] at H
                              exact absurd H (by simp)
                    · rw [if_neg c44] at H
                      exact absurd H (by simp)
                  · rw [if_neg c43] at H
                    have c43b0 : decide (x7_3 < (l0_0.length : Int)) = false := decide_eq_false c43
                    clear c43
                    replace H := Option.bind_eq_some_iff.mp H
                    obtain ⟨t663, A620, H⟩ := H
                    replace H : (some t663) = some r := H
                    have A62 := Aside0.mk A620
                    clear A620
                    obtain rfl := Option.some.inj H
                    have hnb63 := NB648_659.out
                    have hnc63 := NB659_648.out
                    have hcz64_0 : wr.cell? ⟨gb648, 0, none⟩ = some (.slice A0_0 l0_0.length c0_0) := (blk_cell BK648.out 0).trans rfl
                    have hcz64_1 : wr.cell? ⟨gb648, 1, none⟩ = some (.slice A0_1 l0_1.length c0_1) := (blk_cell BK648.out 1).trans rfl
                    have hcz64_2 : wr.cell? ⟨gb648, 2, none⟩ = some (.int .i64 a0_2) := (blk_cell BK648.out 2).trans rfl
                    have hcz64_3 : wr.cell? ⟨gb648, 3, none⟩ = some (.bool a0_3) := (blk_cell BK648.out 3).trans rfl
                    have hfz64_0 := blk_frozen BK648.out 0
                    have hfz64_1 := blk_frozen BK648.out 1
                    have hfz64_2 := blk_frozen BK648.out 2
                    have hfz64_3 := blk_frozen BK648.out 3
                    go_wp2_with (first | ((with_reducible refine gate_callee (f := 12) rfl ?_); refine goesL_ (some 94) rfl rfl Try.func12 (by kernel_rfl) rfl #[] rfl (by (try simp only [List.map_toArray, List.map_cons, List.map_nil]); first | done | rfl | (simp only [List.length_drop, List.length_take]; rfl)) ?_; (with_reducible refine (mapsheetslaw24_awake.calls  t663 _ A62.out).mono ?_); rintro e w65 ⟨rfl, hb⟩; refine ⟨_, rfl, ?_⟩; have n0_ := Aside0.mk (Kd.N_below (by (with_reducible repeat (first | apply Kd.N_alloc | apply Kd.N_drewN | apply Kd.N_drew)); exact HO_6.out) hb); have n1_ := Aside0.mk (Kd.V_below (by (with_reducible repeat (first | apply Kd.V_alloc | apply Kd.V_drewN | apply Kd.V_drew)); exact HO_649000.out) hb); have n2_ := Aside0.mk (Kd.V_below (by (with_reducible repeat (first | apply Kd.V_alloc | apply Kd.V_drewN | apply Kd.V_drew)); exact HO_649001.out) hb); have n3_ := Aside0.mk (Kd.N_below (by (with_reducible repeat (first | apply Kd.N_alloc | apply Kd.N_drewN | apply Kd.N_drew)); exact HO_660000.out) hb); have n4_ := Aside0.mk (Kd.N_below (by (with_reducible repeat (first | apply Kd.N_alloc | apply Kd.N_drewN | apply Kd.N_drew)); exact HO_660001.out) hb); have n5_ := Aside0.mk (blk_below (g := gb648) (o := .cells #[.slice A0_0 l0_0.length c0_0, .slice A0_1 l0_1.length c0_1, .int .i64 a0_2, .bool a0_3] 25 (0, 0)) (by (with_reducible repeat (first | refine blk_drewN ?_ _ | refine blk_drew ?_ | refine blk_alloc ?_ _)); exact BK648.out) hb); have n6_ := Aside0.mk (blk_below (g := gb659) (o := .cells #[.slice Ao20 t651.length co20, .slice Ao23 t654.length co23, .int .i64 t657, .bool t658] 25 (0, 0)) (by (with_reducible repeat (first | refine blk_drewN ?_ _ | refine blk_drew ?_ | refine blk_alloc ?_ _)); exact BK659.out) hb); have n7_ := Aside0.mk (below_step (by repeat (first | (with_reducible first | exact HB.out | apply below_alloc | apply pw_below_drewN | apply below_drew1 | refine below_set ?_ GE648.out | refine below_set ?_ GE659.out) | exact HB.out)) hb); clear HO_6; clear HO_649000; clear HO_649001; clear HO_660000; clear HO_660001; clear BK648; clear BK659; clear HB; have HO_6 := n0_; have HO_649000 := n1_; have HO_649001 := n2_; have HO_660000 := n3_; have HO_660001 := n4_; have BK648 := n5_; have BK659 := n6_; have HB := n7_; clear n0_ n1_ n2_ n3_ n4_ n5_ n6_ n7_; (try clear hb); (try clear hb2); (try clear hk); (try clear hi)))
                    go_ret
                    exact ⟨by first | rfl | (simp [errW_none, errW_some] <;> rfl) | (simp [*, errW_none, errW_some] <;> rfl), by repeat (first | (with_reducible first | exact HB.out | apply below_alloc | apply pw_below_drewN | apply below_drew1 | refine below_set ?_ GE648.out | refine below_set ?_ GE659.out) | exact HB.out)⟩

end Go.Proofs.Ytjicigagejihhaa.PA
