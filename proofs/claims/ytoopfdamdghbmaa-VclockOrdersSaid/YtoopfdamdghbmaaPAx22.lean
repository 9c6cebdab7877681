-- Written by wip/pp.py of this repository, on the kit's print program. Not trusted: Lean checks it.
import Derived.Test.YtoopfdamdghbmaaPAx0
import Derived.Test.YtoopfdamdghbmaaPAx15
namespace Go.Proofs.Ytoopfdamdghbmaa.PA
open Go.RowKit Go.Proofs.YtoopfdamdghbmaaW.PrintWords Go.Proofs.YtoopfdamdghbmaaW.PrintLast Go.Proofs.YtoopfdamdghbmaaW.PrintMore
attribute [local go_sem] max2_int min2_int max_two min_two max_three min_three max_four min_four   -- for this text's walks alone
set_option linter.unusedVariables false
set_option linter.unusedSimpArgs false

/-! ### mapsheetsref27_Missing: function 26 -/
def mapsheetsref27_Missing.l0 : Nat → List (S46) → List (S46) → Int → List Int → Option ((List (S46)))
  | 0, _, _, _, _ => none
  | k + 1, x1, x5, x6, x275000 => if x6 < (x1.length : Int) then (if 0 ≤ x6 then ((mapsheetsref27_Knows.f x275000 ((rd_T46 x1 x6).f0) ((rd_T46 x1 x6).f1)).bind fun t277 => (if t277 = true then (mapsheetsref27_Missing.l0 k x1 x5 (wrap64 (x6 + 1)) x275000) else (if x5.length < 2199023255552 then (mapsheetsref27_Missing.l0 k x1 (x5 ++ [(⟨(rd_T46 x1 x6).f0, (rd_T46 x1 x6).f1, (rd_T46 x1 x6).f2, (rd_T46 x1 x6).f3, (rd_T46 x1 x6).f4⟩ : S46)]) (wrap64 (x6 + 1)) x275000) else (none)))) else (none)) else (some x5)
def mapsheetsref27_Missing.f (k : Nat) (l0_0 : List Int) (l1 : List (S46)) : Option ((List (S46))) := mapsheetsref27_Missing.l0 k l1 ([] : List (S46)) 0 l0_0
theorem mapsheetsref27_Missing.mono_l : ∀ k, (∀ y0 y1 y2 y3, LeO (mapsheetsref27_Missing.l0 k y0 y1 y2 y3) (mapsheetsref27_Missing.l0 (k + 1) y0 y1 y2 y3))
  | 0 => fun _ _ _ _ r h => by simp [mapsheetsref27_Missing.l0] at h
  | k + 1 => by
    have ih0 := mapsheetsref27_Missing.mono_l k
    · intro y0 y1 y2 y3
      unfold mapsheetsref27_Missing.l0
      repeat' first
      | (with_reducible exact ih0 _ _ _ _)
      | (with_reducible exact LeO.refl _)
      | (with_reducible exact LeO.none _)
      | (with_reducible refine LeO.ite ?_ ?_)
      | (with_reducible refine LeO.bind ?_ (fun _ => ?_))
      | exact ih0 _ _ _ _
      | exact LeO.none _
      | refine LeO.ite ?_ ?_
      | refine LeO.bind ?_ (fun _ => ?_)
theorem mapsheetsref27_Missing.mono : ∀ a0 a1 k, LeO (mapsheetsref27_Missing.f k a0 a1) (mapsheetsref27_Missing.f (k + 1) a0 a1) := by
  intro a0 a1 k
  have ih0 := mapsheetsref27_Missing.mono_l k
  unfold mapsheetsref27_Missing.f
  repeat' first
      | (with_reducible exact ih0 _ _ _ _)
      | (with_reducible exact LeO.refl _)
      | (with_reducible exact LeO.none _)
      | (with_reducible refine LeO.ite ?_ ?_)
      | (with_reducible refine LeO.bind ?_ (fun _ => ?_))
      | exact ih0 _ _ _ _
      | exact LeO.none _
      | refine LeO.ite ?_ ?_
      | refine LeO.bind ?_ (fun _ => ?_)
def mapsheetsref27_Missing.T5 : Bool × List (List Nat × List Nat) := (true, [([], []), ([], []), ([], []), ([1, 2], [1, 2]), ([3], [3]), ([4], [4]), ([], []), ([], []), ([6, 7], [6, 7]), ([8], [8]), ([9], [9]), ([0, 5, 10], [0, 5, 10]), ([11], [11])])
def mapsheetsref27_Missing.B5 : List Nat := [0, 0, 0, 6, 14, 30, 0, 0, 192, 448, 960, 2047, 4095]
theorem mapsheetsref27_Missing.tab5 : rtab .any (opsOf Try.f26 5) = mapsheetsref27_Missing.T5 := by kernel_rfl
theorem mapsheetsref27_Missing.bits5 : waitsOk mapsheetsref27_Missing.T5.2 mapsheetsref27_Missing.B5 = true := by kernel_rfl
set_option maxHeartbeats 8000000 in
set_option maxRecDepth 100000 in
theorem mapsheetsref27_Missing.calls (k : Nat) (A0_0 : Option Addr) (c0_0 : Nat) (l0_0 : List Int) (P1_ : Nat → Prop) (A1 : Option Addr) (c1 : Nat) (l1 : List (S46)) (r : List (S46)) (w : World) (hr0_0 : Kd.C (Kd.int .i64) w A0_0 l0_0.length l0_0) (hc0_0 : l0_0.length ≤ c0_0) (hs1 : Kd.V k46 46 w w.heap.size (fun k_ => P1_ k_) (.slice A1 l1.length c1) l1) (h : mapsheetsref27_Missing.f k l0_0 l1 = some r) :
    Calls Try.prog 26 #[.agg #[.slice A0_0 l0_0.length c0_0], .slice A1 l1.length c1] w fun e w' => ∃ v0_ : Value, e = .returned (v0_) ∧ Kd.N k46 46 w' w.heap.size (fun k_ => (P1_ k_ ∨ w.heap.size ≤ k_)) v0_ r ∧ Below w.heap.size w w' := by
  have hu27 := Try.underlying27
  have hu46 := Try.underlying46
  have HR0_0 := Aside0.mk hr0_0
  have HC0_0 := Aside0.mk hc0_0
  clear hr0_0 hc0_0
  have HO1 := Aside0.mk (show Kd.V k46 46 w w.heap.size (fun k_ => (P1_ k_ ∨ w.heap.size ≤ k_)) (.slice A1 l1.length c1) l1 from Kd.V_mono hs1 (fun k_ hk => .inl hk))
  have HB := Aside0.mk (Below.refl w.heap.size w)
  have H : (mapsheetsref27_Missing.l0 k l1 ([] : List (S46)) 0 l0_0) = some r := h
  clear h
  have H' := Aside0.mk H
  clear H
  go_enter Try.func26, Try.ntmps26
  go_wp2_with (first | ((with_reducible refine gate_dst (N := 2) rfl ?_); refine box_event ?hg (N := 2) ?hd (cs := #[.slice A0_0 l0_0.length c0_0]) (t := 27) ?hr ?_; (case hd => rfl); (case hg => rfl); (case hr => first | (go_simp; done) | (go_simp; rfl)); intro gb274 hg w3 hbox hb; have n0_ := Aside0.mk (Kd.V_below (Kd.V_elderB (by (with_reducible repeat (first | apply Kd.V_alloc | apply Kd.V_drewN | apply Kd.V_drew)); exact HO1.out) gb274 (Nat.le_of_eq hg.symm)) hb); have n1_ := Aside0.mk (below_step (by repeat (first | (with_reducible first | exact HB.out | apply below_alloc | apply pw_below_drewN | apply below_drew1) | exact HB.out)) hb); have n2_ := Aside0.mk (hbox); have n3_ := Aside0.mk ((by rw [hg]; exact (below_size (by repeat (first | (with_reducible first | exact HB.out | apply below_alloc | apply pw_below_drewN | apply below_drew1) | exact HB.out))) : w.heap.size ≤ gb274)); have n4_ := Aside0.mk ((by rw [hg]; exact (below_size (by repeat (first | (with_reducible first | exact HB.out | apply below_alloc | apply pw_below_drewN | apply below_drew1) | exact HB.out))) : w.heap.size ≤ gb274)); clear HO1; clear HB; have HO1 := n0_; have HB := n1_; have BK274 := n2_; have GW274 := n3_; have GE274 := n4_; clear n0_ n1_ n2_ n3_ n4_; clear hb hbox hg))
  go_loopg [5, 6] k (fun kq v5 v6 w' => ∃ (x5_1 : List (S46)) (x6_1 : Int), v6 = .int .i64 x6_1 ∧ Aside0 (mapsheetsref27_Missing.l0 kq l1 x5_1 x6_1 l0_0 = some r) ∧ Aside0 (kq ≤ k) ∧ Aside0 (Kd.V k46 46 w' w.heap.size (fun k_ => (P1_ k_ ∨ w.heap.size ≤ k_) ∧ some k_ ≠ (v5 : Value).ownBlock ∧ k_ ≠ gb274) (.slice A1 l1.length c1) l1) ∧ Aside0 (Kd.N k46 46 w' w.heap.size (fun k_ => (P1_ k_ ∨ w.heap.size ≤ k_) ∧ k_ ≠ gb274) v5 x5_1) ∧ Aside0 (w'.heap[gb274]? = some (.cells #[(.slice A0_0 l0_0.length c0_0)] 27 (0, 0))) ∧ Aside0 (Below w.heap.size w w'))
  case atStart => exact ⟨(([] : List (S46))), (0), (by first | rfl | (simp; done) | (simp [*]; done)), H', ⟨Nat.le_refl _⟩, ⟨by (with_reducible repeat (first | apply Kd.V_alloc | apply Kd.V_drewN | apply Kd.V_drew)); exact Kd.V_mono HO1.out (fun _ hk => ⟨hk.1, ⟨(by simp [Value.ownBlock]), hk.2⟩⟩)⟩, ⟨by first | exact Kd.R_nil _ _ _ _ _ | exact Kd.N_nil _ _ _ _ _ | exact Kd.V_nil _ _ _ _ _ | exact Kd.Q_nil _ _ _ _ _ | exact Kd.S_nil _ _ _ _ _⟩, ⟨by (with_reducible repeat (first | refine blk_drewN ?_ _ | refine blk_drew ?_ | refine blk_alloc ?_ _)); exact BK274.out⟩, ⟨by repeat (first | (with_reducible first | exact HB.out | apply below_alloc | apply pw_below_drewN | apply below_drew1 | refine below_set ?_ GE274.out) | exact HB.out)⟩⟩
  case round =>
    clear H'
    try clear c1
    try clear c2
    try clear p2
    obtain ⟨x5_1, x6_1, rfl, HA, HK1, HO_1, HO_5, BK274, HB⟩ := hrel
    cases gk with
    | zero => exact absurd HA.out (by simp [mapsheetsref27_Missing.l0])
    | succ k1 =>
      have H := HA.out
      clear HA
      simp only [mapsheetsref27_Missing.l0] at H
      by_cases c4 : x6_1 < (l1.length : Int)
      · rw [if_pos c4] at H
        have c4b0 : decide (x6_1 < (l1.length : Int)) = true := decide_eq_true c4
        clear c4
        by_cases c5 : 0 ≤ x6_1
        · rw [if_pos c5] at H
          have c5b0 : decide (0 ≤ x6_1) = true := decide_eq_true c5
          clear c5
          replace H := Option.bind_eq_some_iff.mp H
          obtain ⟨t277, A60, H⟩ := H
          replace H : (if t277 = true then (mapsheetsref27_Missing.l0 k1 l1 x5_1 (wrap64 (x6_1 + 1)) l0_0) else (if x5_1.length < 2199023255552 then (mapsheetsref27_Missing.l0 k1 l1 (x5_1 ++ [(⟨(rd_T46 l1 x6_1).f0, (rd_T46 l1 x6_1).f1, (rd_T46 l1 x6_1).f2, (rd_T46 l1 x6_1).f3, (rd_T46 l1 x6_1).f4⟩ : S46)]) (wrap64 (x6_1 + 1)) l0_0) else (none))) = some r := H
          have A6 := Aside0.mk A60
          clear A60
          by_cases c7 : t277 = true
          · subst c7
            have H1 : (mapsheetsref27_Missing.l0 k1 l1 x5_1 (wrap64 (x6_1 + 1)) l0_0) = some r := by rw [if_pos rfl] at H; exact H
            clear H
            have H := H1
            clear H1
            have H' := Aside0.mk H
            clear H
            try go_wp2
            have n0_ := Aside0.mk (Kd.V_drew HO_1.out)
            have n1_ := Aside0.mk (Kd.N_drew HO_5.out)
            have n2_ := Aside0.mk (blk_drew BK274.out)
            have n3_ := Aside0.mk (below_drew1 HB.out)
            clear HO_1
            clear HO_5
            clear BK274
            clear HB
            have HO_1 := n0_
            have HO_5 := n1_
            have BK274 := n2_
            have HB := n3_
            clear n0_ n1_ n2_ n3_
            have p275 : 0 ≤ (x6_1 : Int) := of_decide_eq_true (by first | (with_reducible assumption) | assumption)
            have q275 : x6_1 < (l1.length : Int) := of_decide_eq_true (by first | (with_reducible assumption) | assumption)
            obtain ⟨ad275, A275_4, c275_4, e275, hx275_0, hx275_1, hx275_2, hx275_3, hx275_4, hl275_4, hi275_4⟩ := at_T46 (Kd.V_reads' HO_1.out).2.2 x6_1 p275 q275
            cases e275
            obtain ⟨ce275, hce275, hMe275, hcc275⟩ := Kd.V_get HO_1.out z46 x6_1 p275 (by first | exact q275 | exact of_decide_eq_true (by first | (with_reducible assumption) | assumption) | (have e_ := (Kd.V_reads' HO_1.out).1; omega))
            obtain ⟨ua275_4, uc275_4, rfl, ul275_4, ge275_4⟩ := k46_openF hMe275
            have hv275_4 := hcc275 4 _ rfl
            rw [add_field _ _ 4 (by omega)] at hv275_4
            replace hv275_4 := Option.some.inj (hv275_4.symm.trans hx275_4)
            injection hv275_4 with hva_ hvn_ hvc_
            rw [hva_] at ge275_4
            rw [hvc_] at ul275_4
            have HL275_4 := Aside0.mk (show Kd.V k103 103 _ w.heap.size _ _ ((rd_T46 l1 x6_1).f4) from Kd.V_mk ul275_4 ge275_4)
            clear hva_ hvn_ hvc_ ge275_4 ul275_4
            clear hcc275 hce275
            have HR275_4 := Aside0.mk hi275_4
            have HC275_4 := Aside0.mk hl275_4
            clear hi275_4 hl275_4
            replace p275 := eq_true p275
            replace q275 := eq_true q275
            have p276 : 0 ≤ (x6_1 : Int) := of_decide_eq_true (by first | (with_reducible assumption) | assumption)
            have q276 : x6_1 < (l1.length : Int) := of_decide_eq_true (by first | (with_reducible assumption) | assumption)
            obtain ⟨ad276, A276_4, c276_4, e276, hx276_0, hx276_1, hx276_2, hx276_3, hx276_4, hl276_4, hi276_4⟩ := at_T46 (Kd.V_reads' HO_1.out).2.2 x6_1 p276 q276
            obtain rfl : ad275 = ad276 := (by injection e276)
            obtain ⟨ce276, hce276, hMe276, hcc276⟩ := Kd.V_get HO_1.out z46 x6_1 p276 (by first | exact q276 | exact of_decide_eq_true (by first | (with_reducible assumption) | assumption) | (have e_ := (Kd.V_reads' HO_1.out).1; omega))
            obtain ⟨ua276_4, uc276_4, rfl, ul276_4, ge276_4⟩ := k46_openF hMe276
            have hv276_4 := hcc276 4 _ rfl
            rw [add_field _ _ 4 (by omega)] at hv276_4
            replace hv276_4 := Option.some.inj (hv276_4.symm.trans hx276_4)
            injection hv276_4 with hva_ hvn_ hvc_
            rw [hva_] at ge276_4
            rw [hvc_] at ul276_4
            have HL276_4 := Aside0.mk (show Kd.V k103 103 _ w.heap.size _ _ ((rd_T46 l1 x6_1).f4) from Kd.V_mk ul276_4 ge276_4)
            clear hva_ hvn_ hvc_ ge276_4 ul276_4
            clear hcc276 hce276
            have HR276_4 := Aside0.mk hi276_4
            have HC276_4 := Aside0.mk hl276_4
            clear hi276_4 hl276_4
            replace p276 := eq_true p276
            replace q276 := eq_true q276
            have ea_ := Option.some.inj (hx275_4.symm.trans hx276_4)
            injection ea_ with ea_ en_ ec_
            subst ea_
            subst ec_
            clear en_
            refine start_ (n := 13) (S := fun w' => w'.cell? ⟨gb274, 0, none⟩ = some (.slice A0_0 l0_0.length c0_0) ∧ w'.cell? (ad275.add ((x6_1).toNat * 5)) = some (.int .i64 ((rd_T46 l1 x6_1).f0)) ∧ w'.cell? ⟨(ad275.add ((x6_1).toNat * 5)).block, (ad275.add ((x6_1).toNat * 5)).off + 1, none⟩ = some (.int .i64 ((rd_T46 l1 x6_1).f1)) ∧ w'.cell? ⟨(ad275.add ((x6_1).toNat * 5)).block, (ad275.add ((x6_1).toNat * 5)).off + 2, none⟩ = some (.int .i64 ((rd_T46 l1 x6_1).f2)) ∧ w'.cell? ⟨(ad275.add ((x6_1).toNat * 5)).block, (ad275.add ((x6_1).toNat * 5)).off + 3, none⟩ = some (.string ((rd_T46 l1 x6_1).f3)) ∧ w'.cell? ⟨(ad275.add ((x6_1).toNat * 5)).block, (ad275.add ((x6_1).toNat * 5)).off + 4, none⟩ = some (.slice A275_4 ((rd_T46 l1 x6_1).f4).length c275_4) ∧ w'.cell? (ad275.add ((x6_1).toNat * 5)) = some (.int .i64 ((rd_T46 l1 x6_1).f0)) ∧ w'.cell? ⟨(ad275.add ((x6_1).toNat * 5)).block, (ad275.add ((x6_1).toNat * 5)).off + 1, none⟩ = some (.int .i64 ((rd_T46 l1 x6_1).f1)) ∧ w'.cell? ⟨(ad275.add ((x6_1).toNat * 5)).block, (ad275.add ((x6_1).toNat * 5)).off + 2, none⟩ = some (.int .i64 ((rd_T46 l1 x6_1).f2)) ∧ w'.cell? ⟨(ad275.add ((x6_1).toNat * 5)).block, (ad275.add ((x6_1).toNat * 5)).off + 3, none⟩ = some (.string ((rd_T46 l1 x6_1).f3)) ∧ w'.cell? ⟨(ad275.add ((x6_1).toNat * 5)).block, (ad275.add ((x6_1).toNat * 5)).off + 4, none⟩ = some (.slice A275_4 ((rd_T46 l1 x6_1).f4).length c275_4)) (ds := []) #[false, false, false, false, false, false, false, false, false, false, false, false, false] (by kernel_rfl) rfl rfl ⟨(blk_cell BK274.out 0).trans rfl, hx275_0, hx275_1, hx275_2, hx275_3, hx275_4, hx276_0, hx276_1, hx276_2, hx276_3, hx276_4⟩ (fun hHeld => ?_); refine with_tabW mapsheetsref27_Missing.tab5 mapsheetsref27_Missing.bits5 (fun HT_ HW_ => ?_)
            generalize wr.drew = w8 at HO_1 HO_5 BK274 HB HL275_4 HL276_4 HR275_4 HR276_4 hx275_0 hx275_1 hx275_2 hx275_3 hx275_4 hx276_0 hx276_1 hx276_2 hx276_3 hx276_4 hHeld ⊢
            refine pure_ (i := 1) (N := some 14) (v := ?_) (a' := ?_) #[false, true, false, false, false, false, false, false, false, false, false, false, false] rfl rfl (any_of HT_.out (by kernel_rfl)) (fun _ _ _ h => h) (Or.inl ⟨by rfl, ?_⟩) ?_ ?_
            rotate_left
            · intro w'
              go_simp
              with_reducible rfl
            rotate_left
            · simp only [Act.put, List.setIfInBounds_toArray, List.set_cons_zero, List.set_cons_succ, i64_w, i32_w]
              rfl
            refine pure_ (i := 2) (N := some 15) (v := ?_) (a' := ?_) #[false, true, true, false, false, false, false, false, false, false, false, false, false] rfl rfl (any_of HT_.out (by kernel_rfl)) (fun _ _ _ h => h) (Or.inl ⟨by rfl, ?_⟩) ?_ ?_
            rotate_left
            · intro w'
              go_simp
              with_reducible rfl
            rotate_left
            · simp only [Act.put, List.setIfInBounds_toArray, List.set_cons_zero, List.set_cons_succ, i64_w, i32_w]
              rfl
            refine pure_ (i := 3) (N := some 16) (v := ?_) (a' := ?_) #[false, true, true, true, false, false, false, false, false, false, false, false, false] rfl rfl (any_of HT_.out (by kernel_rfl)) (fun _ _ _ h => h) (Or.inl ⟨by rfl, ?_⟩) ?_ ?_
            rotate_left
            · intro w'
              go_simp
              with_reducible rfl
            rotate_left
            · simp only [Act.put, List.setIfInBounds_toArray, List.set_cons_zero, List.set_cons_succ, i64_w, i32_w]
              rfl
            refine pure_ (i := 4) (N := some 17) (v := ?_) (a' := ?_) #[false, true, true, true, true, false, false, false, false, false, false, false, false] rfl rfl (any_of HT_.out (by kernel_rfl)) (fun _ _ _ h => h) (Or.inl ⟨by rfl, ?_⟩) ?_ ?_
            rotate_left
            · intro w'
              go_simp
              with_reducible rfl
            rotate_left
            · simp only [Act.put, List.setIfInBounds_toArray, List.set_cons_zero, List.set_cons_succ, i64_w, i32_w]
              rfl
            refine pure_ (i := 6) (N := some 19) (v := ?_) (a' := ?_) #[false, true, true, true, true, false, true, false, false, false, false, false, false] rfl rfl (any_of HT_.out (by kernel_rfl)) (fun _ _ _ h => h) (Or.inl ⟨by rfl, ?_⟩) ?_ ?_
            rotate_left
            · intro w'
              go_simp
              with_reducible rfl
            rotate_left
            · simp only [Act.put, List.setIfInBounds_toArray, List.set_cons_zero, List.set_cons_succ, i64_w, i32_w]
              rfl
            refine pure_ (i := 7) (N := some 20) (v := ?_) (a' := ?_) #[false, true, true, true, true, false, true, true, false, false, false, false, false] rfl rfl (any_of HT_.out (by kernel_rfl)) (fun _ _ _ h => h) (Or.inl ⟨by rfl, ?_⟩) ?_ ?_
            rotate_left
            · intro w'
              go_simp
              with_reducible rfl
            rotate_left
            · simp only [Act.put, List.setIfInBounds_toArray, List.set_cons_zero, List.set_cons_succ, i64_w, i32_w]
              rfl
            refine pure_ (i := 8) (N := some 21) (v := ?_) (a' := ?_) #[false, true, true, true, true, false, true, true, true, false, false, false, false] rfl rfl (any_of HT_.out (by kernel_rfl)) (fun _ _ _ h => h) (Or.inl ⟨by rfl, ?_⟩) ?_ ?_
            rotate_left
            · intro w'
              go_simp
              with_reducible rfl
            rotate_left
            · simp only [Act.put, List.setIfInBounds_toArray, List.set_cons_zero, List.set_cons_succ, i64_w, i32_w]
              rfl
            refine pure_ (i := 9) (N := some 22) (v := ?_) (a' := ?_) #[false, true, true, true, true, false, true, true, true, true, false, false, false] rfl rfl (any_of HT_.out (by kernel_rfl)) (fun _ _ _ h => h) (Or.inl ⟨by rfl, ?_⟩) ?_ ?_
            rotate_left
            · intro w'
              go_simp
              with_reducible rfl
            rotate_left
            · simp only [Act.put, List.setIfInBounds_toArray, List.set_cons_zero, List.set_cons_succ, i64_w, i32_w]
              rfl
            refine take_ (i := 0) (N := some 13) (v := ?_) (a' := ?_) #[true, true, true, true, true, false, true, true, true, true, false, false, false] rfl rfl (take_ofW HT_.out HW_.out (by kernel_rfl)) (fun _ _ _ h => h) (Or.inl ⟨by rfl, ?_⟩) hHeld ?_ ?_
            rotate_left
            · rintro w' ⟨s0, s1, s2, s3, s4, s5, s6, s7, s8, s9, s10⟩
              go_simp
              with_reducible rfl
            rotate_left
            · simp only [Act.put, List.setIfInBounds_toArray, List.set_cons_zero, List.set_cons_succ, i64_w, i32_w]
              rfl
            refine take_ (i := 5) (N := some 18) (v := ?_) (a' := ?_) #[true, true, true, true, true, true, true, true, true, true, false, false, false] rfl rfl (take_ofW HT_.out HW_.out (by kernel_rfl)) (fun _ _ _ h => h) (Or.inl ⟨by rfl, ?_⟩) hHeld ?_ ?_
            rotate_left
            · rintro w' ⟨s0, s1, s2, s3, s4, s5, s6, s7, s8, s9, s10⟩
              go_simp
              with_reducible rfl
            rotate_left
            · simp only [Act.put, List.setIfInBounds_toArray, List.set_cons_zero, List.set_cons_succ, i64_w, i32_w]
              rfl
            refine take_ (i := 10) (N := some 23) (v := ?_) (a' := ?_) #[true, true, true, true, true, true, true, true, true, true, true, false, false] rfl rfl (take_ofW HT_.out HW_.out (by kernel_rfl)) (fun _ _ _ h => h) (Or.inl ⟨by rfl, ?_⟩) hHeld ?_ ?_
            rotate_left
            · rintro w' ⟨s0, s1, s2, s3, s4, s5, s6, s7, s8, s9, s10⟩
              go_simp
              with_reducible rfl
            rotate_left
            · simp only [Act.put, List.setIfInBounds_toArray, List.set_cons_zero, List.set_cons_succ, i64_w, i32_w]
              rfl
            refine one_ (i := 11) (N := some 24) #[true, true, true, true, true, true, true, true, true, true, true, true, false] rfl rfl (one_of HT_.out (by kernel_rfl)) (by decide) (fun K hK => ?_)
            refine goes_ Try.func19 (by kernel_rfl) rfl #[.agg #[.slice A0_0 l0_0.length c0_0], .int .i64 ((rd_T46 l1 x6_1).f0), .int .i64 ((rd_T46 l1 x6_1).f1)] (by rfl) rfl rfl (by (try simp only [List.map_toArray, List.map_cons, List.map_nil]); first | done | rfl | (simp only [List.length_drop, List.length_take]; rfl)) ?_
            with_reducible refine (mapsheetsref27_Knows.calls _ _ l0_0 ((rd_T46 l1 x6_1).f0) ((rd_T46 l1 x6_1).f1) true _ ?side1 ?side2 A6.out).mono ?_
            (case side1 => repeat (first | exact (Kd.C_below HR0_0.out HB.out) | (with_reducible refine Kd.C_alloc ?_ _) | (with_reducible refine Kd.C_drewN ?_ _) | (with_reducible refine Kd.C_drew ?_)))
            (case side2 => exact HC0_0.out)
            rintro e w9 ⟨rfl, hb⟩
            have HS1_ := (hb.cell (World.block_lt_of_cell? _ _ (hHeld.2.1))).trans (hHeld.2.1)
            have HS2_ := (hb.cell (World.block_lt_of_cell? _ _ (hHeld.2.2.1))).trans (hHeld.2.2.1)
            have HS3_ := (hb.cell (World.block_lt_of_cell? _ _ (hHeld.2.2.2.1))).trans (hHeld.2.2.2.1)
            have HS4_ := (hb.cell (World.block_lt_of_cell? _ _ (hHeld.2.2.2.2.1))).trans (hHeld.2.2.2.2.1)
            have HS5_ := (hb.cell (World.block_lt_of_cell? _ _ (hHeld.2.2.2.2.2.1))).trans (hHeld.2.2.2.2.2.1)
            have HS6_ := (hb.cell (World.block_lt_of_cell? _ _ (hHeld.2.2.2.2.2.2.1))).trans (hHeld.2.2.2.2.2.2.1)
            have HS7_ := (hb.cell (World.block_lt_of_cell? _ _ (hHeld.2.2.2.2.2.2.2.1))).trans (hHeld.2.2.2.2.2.2.2.1)
            have HS8_ := (hb.cell (World.block_lt_of_cell? _ _ (hHeld.2.2.2.2.2.2.2.2.1))).trans (hHeld.2.2.2.2.2.2.2.2.1)
            have HS9_ := (hb.cell (World.block_lt_of_cell? _ _ (hHeld.2.2.2.2.2.2.2.2.2.1))).trans (hHeld.2.2.2.2.2.2.2.2.2.1)
            have HS10_ := (hb.cell (World.block_lt_of_cell? _ _ (hHeld.2.2.2.2.2.2.2.2.2.2))).trans (hHeld.2.2.2.2.2.2.2.2.2.2)
            refine ⟨_, rfl, ?_⟩
            have n0_ := Aside0.mk (Kd.V_below (by (with_reducible repeat (first | apply Kd.V_alloc | apply Kd.V_drewN | apply Kd.V_drew)); exact HO_1.out) hb)
            have n1_ := Aside0.mk (Kd.N_below (by (with_reducible repeat (first | apply Kd.N_alloc | apply Kd.N_drewN | apply Kd.N_drew)); exact HO_5.out) hb)
            have n2_ := Aside0.mk (Kd.V_below (by (with_reducible repeat (first | apply Kd.V_alloc | apply Kd.V_drewN | apply Kd.V_drew)); exact HL275_4.out) hb)
            have n3_ := Aside0.mk (Kd.V_below (by (with_reducible repeat (first | apply Kd.V_alloc | apply Kd.V_drewN | apply Kd.V_drew)); exact HL276_4.out) hb)
            have n4_ := Aside0.mk (blk_below (g := gb274) (o := .cells #[.slice A0_0 l0_0.length c0_0] 27 (0, 0)) (by (with_reducible repeat (first | refine blk_drewN ?_ _ | refine blk_drew ?_ | refine blk_alloc ?_ _)); exact BK274.out) hb)
            have n5_ := Aside0.mk (Kd.C_below (by repeat (first | (with_reducible exact HR275_4.out) | (with_reducible refine Kd.C_alloc ?_ _) | (with_reducible refine Kd.C_drewN ?_ _) | (with_reducible refine Kd.C_drew ?_) | exact HR275_4.out)) hb)
            have n6_ := Aside0.mk (Kd.C_below (by repeat (first | (with_reducible exact HR276_4.out) | (with_reducible refine Kd.C_alloc ?_ _) | (with_reducible refine Kd.C_drewN ?_ _) | (with_reducible refine Kd.C_drew ?_) | exact HR276_4.out)) hb)
            have n7_ := Aside0.mk (below_step (by repeat (first | (with_reducible first | exact HB.out | apply below_alloc | apply pw_below_drewN | apply below_drew1 | refine below_set ?_ GE274.out) | exact HB.out)) hb)
            clear HO_1
            clear HO_5
            clear HL275_4
            clear HL276_4
            clear BK274
            clear HR275_4
            clear HR276_4
            clear HB
            have HO_1 := n0_
            have HO_5 := n1_
            have HL275_4 := n2_
            have HL276_4 := n3_
            have BK274 := n4_
            have HR275_4 := n5_
            have HR276_4 := n6_
            have HB := n7_
            clear n0_ n1_ n2_ n3_ n4_ n5_ n6_ n7_
            (try clear hb)
            (try clear hb2)
            (try clear hk)
            (try clear hi)
            refine hK.out _ _ ⟨(blk_cell BK274.out 0).trans rfl, HS1_, HS2_, HS3_, HS4_, HS5_, HS6_, HS7_, HS8_, HS9_, HS10_⟩ (fun hHeld => ?_)
            clear hK K
            refine norm_ (a' := ?_) ?_ ?_
            rotate_left
            · show Act.put _ (some 24) _ = _
              simp only [Act.put, List.setIfInBounds_toArray, List.set_cons_zero, List.set_cons_succ, i64_w, i32_w]
              rfl
            refine pure_ (i := 12) (N := some 25) (v := ?_) (a' := ?_) #[true, true, true, true, true, true, true, true, true, true, true, true, true] rfl rfl (any_of HT_.out (by kernel_rfl)) (fun _ _ _ h => h) (Or.inl ⟨by rfl, ?_⟩) ?_ ?_
            rotate_left
            · intro w'
              go_simp
              with_reducible rfl
            rotate_left
            · simp only [Act.put, List.setIfInBounds_toArray, List.set_cons_zero, List.set_cons_succ, i64_w, i32_w]
              rfl
            refine done_ (done_of HT_.out (by kernel_rfl)) ?_
            try go_wp2
            go_roundg k1
            case measure => have := HK1.out; omega
            case rel => exact ⟨(x5_1), (wrap64 (x6_1 + 1)), (by first | rfl | (simp; done) | (simp [*]; done)), H', ⟨by have := HK1.out; omega⟩, ⟨by (with_reducible repeat (first | apply Kd.V_alloc | apply Kd.V_drewN | apply Kd.V_drew)); exact HO_1.out⟩, ⟨by (with_reducible repeat (first | apply Kd.N_alloc | apply Kd.N_drewN | apply Kd.N_drew)); exact HO_5.out⟩, ⟨by (with_reducible repeat (first | refine blk_drewN ?_ _ | refine blk_drew ?_ | refine blk_alloc ?_ _)); exact BK274.out⟩, ⟨by repeat (first | (with_reducible first | exact HB.out | apply below_alloc | apply pw_below_drewN | apply below_drew1 | refine below_set ?_ GE274.out) | exact HB.out)⟩⟩
          · replace c7 := Bool.eq_false_iff.mpr c7
            subst c7
            have H1 : (if x5_1.length < 2199023255552 then (mapsheetsref27_Missing.l0 k1 l1 (x5_1 ++ [(⟨(rd_T46 l1 x6_1).f0, (rd_T46 l1 x6_1).f1, (rd_T46 l1 x6_1).f2, (rd_T46 l1 x6_1).f3, (rd_T46 l1 x6_1).f4⟩ : S46)]) (wrap64 (x6_1 + 1)) l0_0) else (none)) = some r := by rw [if_neg (show ¬ (false = true) by decide)] at H; exact H
            clear H
            have H := H1
            clear H1
            by_cases c10 : x5_1.length < 2199023255552
            · rw [if_pos c10] at H
              have LMc10 := Aside0.mk c10
              clear c10
              obtain ⟨y279, hy279⟩ : ∃ y_ : List (S46), y_ = (x5_1 ++ [(⟨(rd_T46 l1 x6_1).f0, (rd_T46 l1 x6_1).f1, (rd_T46 l1 x6_1).f2, (rd_T46 l1 x6_1).f3, (rd_T46 l1 x6_1).f4⟩ : S46)]) := ⟨_, rfl⟩
              replace H : (mapsheetsref27_Missing.l0 k1 l1 y279 (wrap64 (x6_1 + 1)) l0_0) = some r := by first | (rw [hy279]; with_reducible exact H) | (have H2_ := (Option.bind_some _ _).symm.trans H; rw [hy279]; with_reducible exact H2_) | (have H2_ := (Option.bind_some _ _).symm.trans H; with_reducible exact H2_) | with_reducible exact H | (rw [hy279]; exact H) | exact H
              have Ny279 := Aside0.mk hy279
              clear hy279
              have H' := Aside0.mk H
              clear H
              try go_wp2
              have n0_ := Aside0.mk (Kd.V_drew HO_1.out)
              have n1_ := Aside0.mk (Kd.N_drew HO_5.out)
              have n2_ := Aside0.mk (blk_drew BK274.out)
              have n3_ := Aside0.mk (below_drew1 HB.out)
              clear HO_1
              clear HO_5
              clear BK274
              clear HB
              have HO_1 := n0_
              have HO_5 := n1_
              have BK274 := n2_
              have HB := n3_
              clear n0_ n1_ n2_ n3_
              have p275 : 0 ≤ (x6_1 : Int) := of_decide_eq_true (by first | (with_reducible assumption) | assumption)
              have q275 : x6_1 < (l1.length : Int) := of_decide_eq_true (by first | (with_reducible assumption) | assumption)
              obtain ⟨ad275, A275_4, c275_4, e275, hx275_0, hx275_1, hx275_2, hx275_3, hx275_4, hl275_4, hi275_4⟩ := at_T46 (Kd.V_reads' HO_1.out).2.2 x6_1 p275 q275
              cases e275
              obtain ⟨ce275, hce275, hMe275, hcc275⟩ := Kd.V_get HO_1.out z46 x6_1 p275 (by first | exact q275 | exact of_decide_eq_true (by first | (with_reducible assumption) | assumption) | (have e_ := (Kd.V_reads' HO_1.out).1; omega))
              obtain ⟨ua275_4, uc275_4, rfl, ul275_4, ge275_4⟩ := k46_openF hMe275
              have hv275_4 := hcc275 4 _ rfl
              rw [add_field _ _ 4 (by omega)] at hv275_4
              replace hv275_4 := Option.some.inj (hv275_4.symm.trans hx275_4)
              injection hv275_4 with hva_ hvn_ hvc_
              rw [hva_] at ge275_4
              rw [hvc_] at ul275_4
              have HL275_4 := Aside0.mk (show Kd.V k103 103 _ w.heap.size _ _ ((rd_T46 l1 x6_1).f4) from Kd.V_mk ul275_4 ge275_4)
              clear hva_ hvn_ hvc_ ge275_4 ul275_4
              clear hcc275 hce275
              have HR275_4 := Aside0.mk hi275_4
              have HC275_4 := Aside0.mk hl275_4
              clear hi275_4 hl275_4
              replace p275 := eq_true p275
              replace q275 := eq_true q275
              have p276 : 0 ≤ (x6_1 : Int) := of_decide_eq_true (by first | (with_reducible assumption) | assumption)
              have q276 : x6_1 < (l1.length : Int) := of_decide_eq_true (by first | (with_reducible assumption) | assumption)
              obtain ⟨ad276, A276_4, c276_4, e276, hx276_0, hx276_1, hx276_2, hx276_3, hx276_4, hl276_4, hi276_4⟩ := at_T46 (Kd.V_reads' HO_1.out).2.2 x6_1 p276 q276
              obtain rfl : ad275 = ad276 := (by injection e276)
              obtain ⟨ce276, hce276, hMe276, hcc276⟩ := Kd.V_get HO_1.out z46 x6_1 p276 (by first | exact q276 | exact of_decide_eq_true (by first | (with_reducible assumption) | assumption) | (have e_ := (Kd.V_reads' HO_1.out).1; omega))
              obtain ⟨ua276_4, uc276_4, rfl, ul276_4, ge276_4⟩ := k46_openF hMe276
              have hv276_4 := hcc276 4 _ rfl
              rw [add_field _ _ 4 (by omega)] at hv276_4
              replace hv276_4 := Option.some.inj (hv276_4.symm.trans hx276_4)
              injection hv276_4 with hva_ hvn_ hvc_
              rw [hva_] at ge276_4
              rw [hvc_] at ul276_4
              have HL276_4 := Aside0.mk (show Kd.V k103 103 _ w.heap.size _ _ ((rd_T46 l1 x6_1).f4) from Kd.V_mk ul276_4 ge276_4)
              clear hva_ hvn_ hvc_ ge276_4 ul276_4
              clear hcc276 hce276
              have HR276_4 := Aside0.mk hi276_4
              have HC276_4 := Aside0.mk hl276_4
              clear hi276_4 hl276_4
              replace p276 := eq_true p276
              replace q276 := eq_true q276
              have ea_ := Option.some.inj (hx275_4.symm.trans hx276_4)
              injection ea_ with ea_ en_ ec_
              subst ea_
              subst ec_
              clear en_
              refine start_ (n := 13) (S := fun w' => w'.cell? ⟨gb274, 0, none⟩ = some (.slice A0_0 l0_0.length c0_0) ∧ w'.cell? (ad275.add ((x6_1).toNat * 5)) = some (.int .i64 ((rd_T46 l1 x6_1).f0)) ∧ w'.cell? ⟨(ad275.add ((x6_1).toNat * 5)).block, (ad275.add ((x6_1).toNat * 5)).off + 1, none⟩ = some (.int .i64 ((rd_T46 l1 x6_1).f1)) ∧ w'.cell? ⟨(ad275.add ((x6_1).toNat * 5)).block, (ad275.add ((x6_1).toNat * 5)).off + 2, none⟩ = some (.int .i64 ((rd_T46 l1 x6_1).f2)) ∧ w'.cell? ⟨(ad275.add ((x6_1).toNat * 5)).block, (ad275.add ((x6_1).toNat * 5)).off + 3, none⟩ = some (.string ((rd_T46 l1 x6_1).f3)) ∧ w'.cell? ⟨(ad275.add ((x6_1).toNat * 5)).block, (ad275.add ((x6_1).toNat * 5)).off + 4, none⟩ = some (.slice A275_4 ((rd_T46 l1 x6_1).f4).length c275_4) ∧ w'.cell? (ad275.add ((x6_1).toNat * 5)) = some (.int .i64 ((rd_T46 l1 x6_1).f0)) ∧ w'.cell? ⟨(ad275.add ((x6_1).toNat * 5)).block, (ad275.add ((x6_1).toNat * 5)).off + 1, none⟩ = some (.int .i64 ((rd_T46 l1 x6_1).f1)) ∧ w'.cell? ⟨(ad275.add ((x6_1).toNat * 5)).block, (ad275.add ((x6_1).toNat * 5)).off + 2, none⟩ = some (.int .i64 ((rd_T46 l1 x6_1).f2)) ∧ w'.cell? ⟨(ad275.add ((x6_1).toNat * 5)).block, (ad275.add ((x6_1).toNat * 5)).off + 3, none⟩ = some (.string ((rd_T46 l1 x6_1).f3)) ∧ w'.cell? ⟨(ad275.add ((x6_1).toNat * 5)).block, (ad275.add ((x6_1).toNat * 5)).off + 4, none⟩ = some (.slice A275_4 ((rd_T46 l1 x6_1).f4).length c275_4)) (ds := []) #[false, false, false, false, false, false, false, false, false, false, false, false, false] (by kernel_rfl) rfl rfl ⟨(blk_cell BK274.out 0).trans rfl, hx275_0, hx275_1, hx275_2, hx275_3, hx275_4, hx276_0, hx276_1, hx276_2, hx276_3, hx276_4⟩ (fun hHeld => ?_); refine with_tabW mapsheetsref27_Missing.tab5 mapsheetsref27_Missing.bits5 (fun HT_ HW_ => ?_)
              generalize wr.drew = w11 at HO_1 HO_5 BK274 HB HL275_4 HL276_4 HR275_4 HR276_4 hx275_0 hx275_1 hx275_2 hx275_3 hx275_4 hx276_0 hx276_1 hx276_2 hx276_3 hx276_4 hHeld ⊢
              refine pure_ (i := 1) (N := some 14) (v := ?_) (a' := ?_) #[false, true, false, false, false, false, false, false, false, false, false, false, false] rfl rfl (any_of HT_.out (by kernel_rfl)) (fun _ _ _ h => h) (Or.inl ⟨by rfl, ?_⟩) ?_ ?_
              rotate_left
              · intro w'
                go_simp
                with_reducible rfl
              rotate_left
              · simp only [Act.put, List.setIfInBounds_toArray, List.set_cons_zero, List.set_cons_succ, i64_w, i32_w]
                rfl
              refine pure_ (i := 2) (N := some 15) (v := ?_) (a' := ?_) #[false, true, true, false, false, false, false, false, false, false, false, false, false] rfl rfl (any_of HT_.out (by kernel_rfl)) (fun _ _ _ h => h) (Or.inl ⟨by rfl, ?_⟩) ?_ ?_
              rotate_left
              · intro w'
                go_simp
                with_reducible rfl
              rotate_left
              · simp only [Act.put, List.setIfInBounds_toArray, List.set_cons_zero, List.set_cons_succ, i64_w, i32_w]
                rfl
              refine pure_ (i := 3) (N := some 16) (v := ?_) (a' := ?_) #[false, true, true, true, false, false, false, false, false, false, false, false, false] rfl rfl (any_of HT_.out (by kernel_rfl)) (fun _ _ _ h => h) (Or.inl ⟨by rfl, ?_⟩) ?_ ?_
              rotate_left
              · intro w'
                go_simp
                with_reducible rfl
              rotate_left
              · simp only [Act.put, List.setIfInBounds_toArray, List.set_cons_zero, List.set_cons_succ, i64_w, i32_w]
                rfl
              refine pure_ (i := 4) (N := some 17) (v := ?_) (a' := ?_) #[false, true, true, true, true, false, false, false, false, false, false, false, false] rfl rfl (any_of HT_.out (by kernel_rfl)) (fun _ _ _ h => h) (Or.inl ⟨by rfl, ?_⟩) ?_ ?_
              rotate_left
              · intro w'
                go_simp
                with_reducible rfl
              rotate_left
              · simp only [Act.put, List.setIfInBounds_toArray, List.set_cons_zero, List.set_cons_succ, i64_w, i32_w]
                rfl
              refine pure_ (i := 6) (N := some 19) (v := ?_) (a' := ?_) #[false, true, true, true, true, false, true, false, false, false, false, false, false] rfl rfl (any_of HT_.out (by kernel_rfl)) (fun _ _ _ h => h) (Or.inl ⟨by rfl, ?_⟩) ?_ ?_
              rotate_left
              · intro w'
                go_simp
                with_reducible rfl
              rotate_left
              · simp only [Act.put, List.setIfInBounds_toArray, List.set_cons_zero, List.set_cons_succ, i64_w, i32_w]
                rfl
              refine pure_ (i := 7) (N := some 20) (v := ?_) (a' := ?_) #[false, true, true, true, true, false, true, true, false, false, false, false, false] rfl rfl (any_of HT_.out (by kernel_rfl)) (fun _ _ _ h => h) (Or.inl ⟨by rfl, ?_⟩) ?_ ?_
              rotate_left
              · intro w'
                go_simp
                with_reducible rfl
              rotate_left
              · simp only [Act.put, List.setIfInBounds_toArray, List.set_cons_zero, List.set_cons_succ, i64_w, i32_w]
                rfl
              refine pure_ (i := 8) (N := some 21) (v := ?_) (a' := ?_) #[false, true, true, true, true, false, true, true, true, false, false, false, false] rfl rfl (any_of HT_.out (by kernel_rfl)) (fun _ _ _ h => h) (Or.inl ⟨by rfl, ?_⟩) ?_ ?_
              rotate_left
              · intro w'
                go_simp
                with_reducible rfl
              rotate_left
              · simp only [Act.put, List.setIfInBounds_toArray, List.set_cons_zero, List.set_cons_succ, i64_w, i32_w]
                rfl
              refine pure_ (i := 9) (N := some 22) (v := ?_) (a' := ?_) #[false, true, true, true, true, false, true, true, true, true, false, false, false] rfl rfl (any_of HT_.out (by kernel_rfl)) (fun _ _ _ h => h) (Or.inl ⟨by rfl, ?_⟩) ?_ ?_
              rotate_left
              · intro w'
                go_simp
                with_reducible rfl
              rotate_left
              · simp only [Act.put, List.setIfInBounds_toArray, List.set_cons_zero, List.set_cons_succ, i64_w, i32_w]
                rfl
              refine take_ (i := 0) (N := some 13) (v := ?_) (a' := ?_) #[true, true, true, true, true, false, true, true, true, true, false, false, false] rfl rfl (take_ofW HT_.out HW_.out (by kernel_rfl)) (fun _ _ _ h => h) (Or.inl ⟨by rfl, ?_⟩) hHeld ?_ ?_
              rotate_left
              · rintro w' ⟨s0, s1, s2, s3, s4, s5, s6, s7, s8, s9, s10⟩
                go_simp
                with_reducible rfl
              rotate_left
              · simp only [Act.put, List.setIfInBounds_toArray, List.set_cons_zero, List.set_cons_succ, i64_w, i32_w]
                rfl
              refine take_ (i := 5) (N := some 18) (v := ?_) (a' := ?_) #[true, true, true, true, true, true, true, true, true, true, false, false, false] rfl rfl (take_ofW HT_.out HW_.out (by kernel_rfl)) (fun _ _ _ h => h) (Or.inl ⟨by rfl, ?_⟩) hHeld ?_ ?_
              rotate_left
              · rintro w' ⟨s0, s1, s2, s3, s4, s5, s6, s7, s8, s9, s10⟩
                go_simp
                with_reducible rfl
              rotate_left
              · simp only [Act.put, List.setIfInBounds_toArray, List.set_cons_zero, List.set_cons_succ, i64_w, i32_w]
                rfl
              refine take_ (i := 10) (N := some 23) (v := ?_) (a' := ?_) #[true, true, true, true, true, true, true, true, true, true, true, false, false] rfl rfl (take_ofW HT_.out HW_.out (by kernel_rfl)) (fun _ _ _ h => h) (Or.inl ⟨by rfl, ?_⟩) hHeld ?_ ?_
              rotate_left
              · rintro w' ⟨s0, s1, s2, s3, s4, s5, s6, s7, s8, s9, s10⟩
                go_simp
                with_reducible rfl
              rotate_left
              · simp only [Act.put, List.setIfInBounds_toArray, List.set_cons_zero, List.set_cons_succ, i64_w, i32_w]
                rfl
              refine one_ (i := 11) (N := some 24) #[true, true, true, true, true, true, true, true, true, true, true, true, false] rfl rfl (one_of HT_.out (by kernel_rfl)) (by decide) (fun K hK => ?_)
              refine goes_ Try.func19 (by kernel_rfl) rfl #[.agg #[.slice A0_0 l0_0.length c0_0], .int .i64 ((rd_T46 l1 x6_1).f0), .int .i64 ((rd_T46 l1 x6_1).f1)] (by rfl) rfl rfl (by (try simp only [List.map_toArray, List.map_cons, List.map_nil]); first | done | rfl | (simp only [List.length_drop, List.length_take]; rfl)) ?_
              with_reducible refine (mapsheetsref27_Knows.calls _ _ l0_0 ((rd_T46 l1 x6_1).f0) ((rd_T46 l1 x6_1).f1) false _ ?side1 ?side2 A6.out).mono ?_
              (case side1 => repeat (first | exact (Kd.C_below HR0_0.out HB.out) | (with_reducible refine Kd.C_alloc ?_ _) | (with_reducible refine Kd.C_drewN ?_ _) | (with_reducible refine Kd.C_drew ?_)))
              (case side2 => exact HC0_0.out)
              rintro e w12 ⟨rfl, hb⟩
              have HS1_ := (hb.cell (World.block_lt_of_cell? _ _ (hHeld.2.1))).trans (hHeld.2.1)
              have HS2_ := (hb.cell (World.block_lt_of_cell? _ _ (hHeld.2.2.1))).trans (hHeld.2.2.1)
              have HS3_ := (hb.cell (World.block_lt_of_cell? _ _ (hHeld.2.2.2.1))).trans (hHeld.2.2.2.1)
              have HS4_ := (hb.cell (World.block_lt_of_cell? _ _ (hHeld.2.2.2.2.1))).trans (hHeld.2.2.2.2.1)
              have HS5_ := (hb.cell (World.block_lt_of_cell? _ _ (hHeld.2.2.2.2.2.1))).trans (hHeld.2.2.2.2.2.1)
              have HS6_ := (hb.cell (World.block_lt_of_cell? _ _ (hHeld.2.2.2.2.2.2.1))).trans (hHeld.2.2.2.2.2.2.1)
              have HS7_ := (hb.cell (World.block_lt_of_cell? _ _ (hHeld.2.2.2.2.2.2.2.1))).trans (hHeld.2.2.2.2.2.2.2.1)
              have HS8_ := (hb.cell (World.block_lt_of_cell? _ _ (hHeld.2.2.2.2.2.2.2.2.1))).trans (hHeld.2.2.2.2.2.2.2.2.1)
              have HS9_ := (hb.cell (World.block_lt_of_cell? _ _ (hHeld.2.2.2.2.2.2.2.2.2.1))).trans (hHeld.2.2.2.2.2.2.2.2.2.1)
              have HS10_ := (hb.cell (World.block_lt_of_cell? _ _ (hHeld.2.2.2.2.2.2.2.2.2.2))).trans (hHeld.2.2.2.2.2.2.2.2.2.2)
              refine ⟨_, rfl, ?_⟩
              have n0_ := Aside0.mk (Kd.V_below (by (with_reducible repeat (first | apply Kd.V_alloc | apply Kd.V_drewN | apply Kd.V_drew)); exact HO_1.out) hb)
              have n1_ := Aside0.mk (Kd.N_below (by (with_reducible repeat (first | apply Kd.N_alloc | apply Kd.N_drewN | apply Kd.N_drew)); exact HO_5.out) hb)
              have n2_ := Aside0.mk (Kd.V_below (by (with_reducible repeat (first | apply Kd.V_alloc | apply Kd.V_drewN | apply Kd.V_drew)); exact HL275_4.out) hb)
              have n3_ := Aside0.mk (Kd.V_below (by (with_reducible repeat (first | apply Kd.V_alloc | apply Kd.V_drewN | apply Kd.V_drew)); exact HL276_4.out) hb)
              have n4_ := Aside0.mk (blk_below (g := gb274) (o := .cells #[.slice A0_0 l0_0.length c0_0] 27 (0, 0)) (by (with_reducible repeat (first | refine blk_drewN ?_ _ | refine blk_drew ?_ | refine blk_alloc ?_ _)); exact BK274.out) hb)
              have n5_ := Aside0.mk (Kd.C_below (by repeat (first | (with_reducible exact HR275_4.out) | (with_reducible refine Kd.C_alloc ?_ _) | (with_reducible refine Kd.C_drewN ?_ _) | (with_reducible refine Kd.C_drew ?_) | exact HR275_4.out)) hb)
              have n6_ := Aside0.mk (Kd.C_below (by repeat (first | (with_reducible exact HR276_4.out) | (with_reducible refine Kd.C_alloc ?_ _) | (with_reducible refine Kd.C_drewN ?_ _) | (with_reducible refine Kd.C_drew ?_) | exact HR276_4.out)) hb)
              have n7_ := Aside0.mk (below_step (by repeat (first | (with_reducible first | exact HB.out | apply below_alloc | apply pw_below_drewN | apply below_drew1 | refine below_set ?_ GE274.out) | exact HB.out)) hb)
              clear HO_1
              clear HO_5
              clear HL275_4
              clear HL276_4
              clear BK274
              clear HR275_4
              clear HR276_4
              clear HB
              have HO_1 := n0_
              have HO_5 := n1_
              have HL275_4 := n2_
              have HL276_4 := n3_
              have BK274 := n4_
              have HR275_4 := n5_
              have HR276_4 := n6_
              have HB := n7_
              clear n0_ n1_ n2_ n3_ n4_ n5_ n6_ n7_
              (try clear hb)
              (try clear hb2)
              (try clear hk)
              (try clear hi)
              refine hK.out _ _ ⟨(blk_cell BK274.out 0).trans rfl, HS1_, HS2_, HS3_, HS4_, HS5_, HS6_, HS7_, HS8_, HS9_, HS10_⟩ (fun hHeld => ?_)
              clear hK K
              refine norm_ (a' := ?_) ?_ ?_
              rotate_left
              · show Act.put _ (some 24) _ = _
                simp only [Act.put, List.setIfInBounds_toArray, List.set_cons_zero, List.set_cons_succ, i64_w, i32_w]
                rfl
              refine pure_ (i := 12) (N := some 25) (v := ?_) (a' := ?_) #[true, true, true, true, true, true, true, true, true, true, true, true, true] rfl rfl (any_of HT_.out (by kernel_rfl)) (fun _ _ _ h => h) (Or.inl ⟨by rfl, ?_⟩) ?_ ?_
              rotate_left
              · intro w'
                go_simp
                with_reducible rfl
              rotate_left
              · simp only [Act.put, List.setIfInBounds_toArray, List.set_cons_zero, List.set_cons_succ, i64_w, i32_w]
                rfl
              refine done_ (done_of HT_.out (by kernel_rfl)) ?_
              have p278 : 0 ≤ (x6_1 : Int) := of_decide_eq_true (by first | (with_reducible assumption) | assumption)
              have q278 : x6_1 < (l1.length : Int) := of_decide_eq_true (by first | (with_reducible assumption) | assumption)
              (try clear hx275_0); (try clear hx275_1); (try clear hx275_2); (try clear hx275_3); (try clear hx275_4); (try clear hx276_0); (try clear hx276_1); (try clear hx276_2); (try clear hx276_3); (try clear hx276_4); (try clear HS1_); (try clear HS2_); (try clear HS3_); (try clear HS4_); (try clear HS5_); (try clear HS6_); (try clear HS7_); (try clear HS8_); (try clear HS9_); (try clear HS10_); (try clear HS11_); (try clear HS12_); (try clear hHeld)
              obtain ⟨ad278, A278_4, c278_4, e278, hx278_0, hx278_1, hx278_2, hx278_3, hx278_4, hl278_4, hi278_4⟩ := at_T46 (Kd.V_reads' HO_1.out).2.2 x6_1 p278 q278
              obtain rfl : ad275 = ad278 := (by injection e278)
              obtain ⟨ce278, hce278, hMe278, hcc278⟩ := Kd.V_get HO_1.out z46 x6_1 p278 (by first | exact q278 | exact of_decide_eq_true (by first | (with_reducible assumption) | assumption) | (have e_ := (Kd.V_reads' HO_1.out).1; omega))
              obtain ⟨ua278_4, uc278_4, rfl, ul278_4, ge278_4⟩ := k46_openF hMe278
              have hv278_4 := hcc278 4 _ rfl
              rw [add_field _ _ 4 (by omega)] at hv278_4
              replace hv278_4 := Option.some.inj (hv278_4.symm.trans hx278_4)
              injection hv278_4 with hva_ hvn_ hvc_
              rw [hva_] at ge278_4
              rw [hvc_] at ul278_4
              have HL278_4 := Aside0.mk (show Kd.V k103 103 _ w.heap.size _ _ ((rd_T46 l1 x6_1).f4) from Kd.V_mk ul278_4 ge278_4)
              clear hva_ hvn_ hvc_ ge278_4 ul278_4
              clear hcc278 hce278
              have HR278_4 := Aside0.mk hi278_4
              have HC278_4 := Aside0.mk hl278_4
              clear hi278_4 hl278_4
              replace p278 := eq_true p278
              replace q278 := eq_true q278
              try go_wp2_with (first | ((with_reducible refine gate_builtin (b := .append) (xs := #[.tmp 26, .tmp 31]) rfl ?_); at_builtin; refine Kd.N_append k46 (w0 := w) w.heap.size rfl (.tmp 26) (.tmp 31) 29 46 (.agg #[(.int .i64 0), (.int .i64 0), (.int .i64 0), (.string ⟨#[]⟩), (.slice none 0 0)]) 64 rfl Try.underlying29 info46 rfl (by decide) (by omega) u5 x5_1 (⟨(rd_T46 l1 x6_1).f0, (rd_T46 l1 x6_1).f1, (rd_T46 l1 x6_1).f2, (rd_T46 l1 x6_1).f3, (rd_T46 l1 x6_1).f4⟩ : S46) [.int .i64 ((rd_T46 l1 x6_1).f0), .int .i64 ((rd_T46 l1 x6_1).f1), .int .i64 ((rd_T46 l1 x6_1).f2), .string ((rd_T46 l1 x6_1).f3), .slice A278_4 ((rd_T46 l1 x6_1).f4).length c278_4] (fun k_ => (P1_ k_ ∨ w.heap.size ≤ k_) ∧ k_ ≠ gb274) (fun k_ => ((fun k_ => (P1_ k_ ∨ w.heap.size ≤ k_) ∧ k_ ≠ gb274)) k_ ∧ some k_ ≠ (u5 : Value).ownBlock) rfl rfl ?aP (fun _ hk => hk) ?aF ?aO ?aB ?aS ?aL ?_; (case aP => exact (k46_mkF _ _ (⟨(rd_T46 l1 x6_1).f0, (rd_T46 l1 x6_1).f1, (rd_T46 l1 x6_1).f2, (rd_T46 l1 x6_1).f3, (rd_T46 l1 x6_1).f4⟩ : S46) (Kd.V_reads' (Kd.V_mono (ok' := (fun k_ => ((fun k_ => (P1_ k_ ∨ w.heap.size ≤ k_) ∧ k_ ≠ gb274)) k_ ∧ some k_ ≠ (u5 : Value).ownBlock)) (HL278_4.out) (fun k_ hk => ⟨⟨hk.1, hk.2.2⟩, hk.2.1⟩))).2.1 (Kd.V_F (Kd.V_mono (ok' := (fun k_ => ((fun k_ => (P1_ k_ ∨ w.heap.size ≤ k_) ∧ k_ ≠ gb274)) k_ ∧ some k_ ≠ (u5 : Value).ownBlock)) (HL278_4.out) (fun k_ hk => ⟨⟨hk.1, hk.2.2⟩, hk.2.1⟩))))); (case aB => exact (by repeat (first | (with_reducible first | exact HB.out | apply below_alloc | apply pw_below_drewN | apply below_drew1 | refine below_set ?_ GE274.out) | exact HB.out))); (case aF => exact (fun k_ hk => ⟨(.inr (Nat.le_trans (below_size (by repeat (first | (with_reducible first | exact HB.out | apply below_alloc | apply pw_below_drewN | apply below_drew1 | refine below_set ?_ GE274.out) | exact HB.out))) hk)), Kd.freshB (g := gb274) (o := .cells #[.slice A0_0 l0_0.length c0_0] 27 (0, 0)) (by (with_reducible repeat (first | refine blk_drewN ?_ _ | refine blk_drew ?_ | refine blk_alloc ?_ _)); exact BK274.out) k_ hk⟩)); (case aO => exact (by (with_reducible repeat (first | apply Kd.N_alloc | apply Kd.N_drewN | apply Kd.N_drew)); exact HO_5.out)); (case aS => exact (below_size (by repeat (first | (with_reducible first | exact HB.out | apply below_alloc | apply pw_below_drewN | apply below_drew1 | refine below_set ?_ GE274.out) | exact HB.out)))); (case aL => have := LMc10.out; omega); intro v280 w13 ho hb hg hat; rw [← Ny279.out] at ho; have n0_ := Aside0.mk (Kd.V_afterv (ok := (fun k_ => (P1_ k_ ∨ w.heap.size ≤ k_) ∧ k_ ≠ gb274)) (by (with_reducible repeat (first | apply Kd.V_alloc | apply Kd.V_drewN | apply Kd.V_drew)); exact Kd.V_mono HO_1.out (fun _ hk => ⟨⟨hk.1, hk.2.2⟩, hk.2.1⟩)) hg hat); have n1_ := Aside0.mk (blk_grown (g := gb274) (o := .cells #[.slice A0_0 l0_0.length c0_0] 27 (0, 0)) (by (with_reducible repeat (first | refine blk_drewN ?_ _ | refine blk_drew ?_ | refine blk_alloc ?_ _)); exact BK274.out) hg (Kd.N_ne HO_5.out BK274.out (by decide))); have n2_ := Aside0.mk (Kd.V_afterv (ok := (fun k_ => (P1_ k_ ∨ w.heap.size ≤ k_) ∧ k_ ≠ gb274)) (by (with_reducible repeat (first | apply Kd.V_alloc | apply Kd.V_drewN | apply Kd.V_drew)); exact Kd.V_mono HL275_4.out (fun _ hk => ⟨⟨hk.1, hk.2.2⟩, hk.2.1⟩)) hg hat); have n3_ := Aside0.mk (Kd.V_afterv (ok := (fun k_ => (P1_ k_ ∨ w.heap.size ≤ k_) ∧ k_ ≠ gb274)) (by (with_reducible repeat (first | apply Kd.V_alloc | apply Kd.V_drewN | apply Kd.V_drew)); exact Kd.V_mono HL276_4.out (fun _ hk => ⟨⟨hk.1, hk.2.2⟩, hk.2.1⟩)) hg hat); have n4_ := Aside0.mk (Kd.V_afterv (ok := (fun k_ => (P1_ k_ ∨ w.heap.size ≤ k_) ∧ k_ ≠ gb274)) (by (with_reducible repeat (first | apply Kd.V_alloc | apply Kd.V_drewN | apply Kd.V_drew)); exact Kd.V_mono HL278_4.out (fun _ hk => ⟨⟨hk.1, hk.2.2⟩, hk.2.1⟩)) hg hat); have n5_ := Aside0.mk (hb); have n6_ := Aside0.mk (ho); clear HO_1; clear BK274; clear HL275_4; clear HL276_4; clear HL278_4; clear HB; clear HO_5; have HO_1 := n0_; have BK274 := n1_; have HL275_4 := n2_; have HL276_4 := n3_; have HL278_4 := n4_; have HB := n5_; have HO281 := n6_; clear n0_ n1_ n2_ n3_ n4_ n5_ n6_; clear ho hb hg hat))
              go_roundg k1
              case measure => have := HK1.out; omega
              case rel => exact ⟨(y279), (wrap64 (x6_1 + 1)), (by first | rfl | (simp; done) | (simp [*]; done)), H', ⟨by have := HK1.out; omega⟩, ⟨by (with_reducible repeat (first | apply Kd.V_alloc | apply Kd.V_drewN | apply Kd.V_drew)); exact Kd.V_mono HO_1.out (fun _ hk => ⟨hk.1.1, ⟨hk.2, hk.1.2⟩⟩)⟩, ⟨by (with_reducible repeat (first | apply Kd.N_alloc | apply Kd.N_drewN | apply Kd.N_drew)); exact HO281.out⟩, ⟨by (with_reducible repeat (first | refine blk_drewN ?_ _ | refine blk_drew ?_ | refine blk_alloc ?_ _)); exact BK274.out⟩, ⟨by repeat (first | (with_reducible first | exact HB.out | apply below_alloc | apply pw_below_drewN | apply below_drew1 | refine below_set ?_ GE274.out) | exact HB.out)⟩⟩
            · rw [if_neg c10] at H
              exact absurd H (by simp)
        · rw [if_neg c5] at H
          exact absurd H (by simp)
      · rw [if_neg c4] at H
        have c4b0 : decide (x6_1 < (l1.length : Int)) = false := decide_eq_false c4
        clear c4
        obtain rfl := Option.some.inj H
        go_wp2
        go_ret
        exact ⟨_, by first | rfl | (simp [errW_none, errW_some] <;> rfl) | (simp [*, errW_none, errW_some] <;> rfl), by (with_reducible repeat (first | apply Kd.N_alloc | apply Kd.N_drewN | apply Kd.N_drew)); exact Kd.N_mono HO_5.out (fun _ hk => hk.1), by repeat (first | (with_reducible first | exact HB.out | apply below_alloc | apply pw_below_drewN | apply below_drew1 | refine below_set ?_ GE274.out) | exact HB.out)⟩

end Go.Proofs.Ytoopfdamdghbmaa.PA
