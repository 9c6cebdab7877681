-- Written by wip/pp.py of this repository, on the kit's print program. Not trusted: Lean checks it.
import Derived.Test.YtoopfdamdghbmaaPAx0
namespace Go.Proofs.Ytoopfdamdghbmaa.PA
open Go.RowKit Go.Proofs.YtoopfdamdghbmaaW.PrintWords Go.Proofs.YtoopfdamdghbmaaW.PrintLast Go.Proofs.YtoopfdamdghbmaaW.PrintMore
attribute [local go_sem] max2_int min2_int max_two min_two max_three min_three max_four min_four   -- for this text's walks alone
set_option linter.unusedVariables false
set_option linter.unusedSimpArgs false

/-! ### mapsheetslaw27_sameTxns: function 24 -/
def mapsheetslaw27_sameTxns.l0 : Nat → List (S46) → List (S46) → Int → Option (Bool)
  | 0, _, _, _ => none
  | k + 1, x0, x1, x5 => if x5 < (x0.length : Int) then (if 0 ≤ x5 then (if x5 < (x1.length : Int) then (if ((rd_T46 x0 x5).f0) = ((rd_T46 x1 x5).f0) then (if ((rd_T46 x0 x5).f1) = ((rd_T46 x1 x5).f1) then (if ((rd_T46 x0 x5).f2) = ((rd_T46 x1 x5).f2) then (if (((rd_T46 x0 x5).f4).length : Int) = (((rd_T46 x1 x5).f4).length : Int) then (if ((rd_T46 x0 x5).f3).toList = ((rd_T46 x1 x5).f3).toList then (mapsheetslaw27_sameTxns.l0 k x0 x1 (wrap64 (x5 + 1))) else (some false)) else (some false)) else (some false)) else (some false)) else (some false)) else (none)) else (none)) else (some true)
def mapsheetslaw27_sameTxns.f (k : Nat) (l0 : List (S46)) (l1 : List (S46)) : Option (Bool) := if (l0.length : Int) = (l1.length : Int) then (mapsheetslaw27_sameTxns.l0 k l0 l1 0) else (some false)
theorem mapsheetslaw27_sameTxns.mono_l : ∀ k, (∀ y0 y1 y2, LeO (mapsheetslaw27_sameTxns.l0 k y0 y1 y2) (mapsheetslaw27_sameTxns.l0 (k + 1) y0 y1 y2))
  | 0 => fun _ _ _ r h => by simp [mapsheetslaw27_sameTxns.l0] at h
  | k + 1 => by
    have ih0 := mapsheetslaw27_sameTxns.mono_l k
    · intro y0 y1 y2
      unfold mapsheetslaw27_sameTxns.l0
      repeat' first
      | (with_reducible exact ih0 _ _ _)
      | (with_reducible exact LeO.refl _)
      | (with_reducible exact LeO.none _)
      | (with_reducible refine LeO.ite ?_ ?_)
      | (with_reducible refine LeO.bind ?_ (fun _ => ?_))
      | exact ih0 _ _ _
      | exact LeO.none _
      | refine LeO.ite ?_ ?_
      | refine LeO.bind ?_ (fun _ => ?_)
theorem mapsheetslaw27_sameTxns.mono : ∀ a0 a1 k, LeO (mapsheetslaw27_sameTxns.f k a0 a1) (mapsheetslaw27_sameTxns.f (k + 1) a0 a1) := by
  intro a0 a1 k
  have ih0 := mapsheetslaw27_sameTxns.mono_l k
  unfold mapsheetslaw27_sameTxns.f
  repeat' first
      | (with_reducible exact ih0 _ _ _)
      | (with_reducible exact LeO.refl _)
      | (with_reducible exact LeO.none _)
      | (with_reducible refine LeO.ite ?_ ?_)
      | (with_reducible refine LeO.bind ?_ (fun _ => ?_))
      | exact ih0 _ _ _
      | exact LeO.none _
      | refine LeO.ite ?_ ?_
      | refine LeO.bind ?_ (fun _ => ?_)
set_option maxHeartbeats 8000000 in
set_option maxRecDepth 100000 in
theorem mapsheetslaw27_sameTxns.calls (k : Nat) (A0 : Option Addr) (c0 : Nat) (l0 : List (S46)) (A1 : Option Addr) (c1 : Nat) (l1 : List (S46)) (r : Bool) (w : World) (hr0 : Kd.C k46 w A0 l0.length l0) (hc0 : l0.length ≤ c0) (hr1 : Kd.C k46 w A1 l1.length l1) (hc1 : l1.length ≤ c1) (h : mapsheetslaw27_sameTxns.f k l0 l1 = some r) :
    Calls Try.prog 24 #[.slice A0 l0.length c0, .slice A1 l1.length c1] w fun e w' => e = .returned (.bool r) ∧ Drawn0 w w' := by
  have HR0 := Aside0.mk hr0
  have HC0 := Aside0.mk hc0
  clear hr0 hc0
  have HR1 := Aside0.mk hr1
  have HC1 := Aside0.mk hc1
  clear hr1 hc1
  have H : (if (l0.length : Int) = (l1.length : Int) then (mapsheetslaw27_sameTxns.l0 k l0 l1 0) else (some false)) = some r := h
  clear h
  by_cases c3 : (l0.length : Int) = (l1.length : Int)
  · rw [if_pos c3] at H
    have c3b0 : ((l0.length : Int) == (l1.length : Int)) = true := beq_iff_eq.mpr c3
    have c3b1 : ((l0.length : Int) != (l1.length : Int)) = false := bne_eq_false_iff_eq.mpr c3
    have c3b2 : (l0.length == l1.length) = true := by first | simpa using c3 | (simp at c3 ⊢; omega)
    clear c3
    have H' := Aside0.mk H
    clear H
    go_enter Try.func24, Try.ntmps24
    go_wp2
    repeat (go_quiet (fail); try go_wp2)
    go_loopg [5] k (fun kq v5 w' => ∃ (x5_1 : Int), v5 = .int .i64 x5_1 ∧ Aside0 (mapsheetslaw27_sameTxns.l0 kq l0 l1 x5_1 = some r) ∧ Aside0 (kq ≤ k) ∧ Drawn0 w w')
    case atStart => exact ⟨(0), (by first | rfl | (simp; done) | (simp [*]; done)), H', ⟨Nat.le_refl _⟩, by repeat (first | exact Drawn0.refl _ | apply Drawn0.step)⟩
    case round =>
      clear H'
      try clear c1
      try clear c2
      try clear p2
      try clear c3
      try clear c3b0
      try clear c3b1
      try clear c3b2
      obtain ⟨x5_1, rfl, HA, HK1, ⟨m1, rfl⟩⟩ := hrel
      cases gk with
      | zero => exact absurd HA.out (by simp [mapsheetslaw27_sameTxns.l0])
      | succ k1 =>
        have H := HA.out
        clear HA
        simp only [mapsheetslaw27_sameTxns.l0] at H
        by_cases c4 : x5_1 < (l0.length : Int)
        · rw [if_pos c4] at H
          have c4b0 : decide (x5_1 < (l0.length : Int)) = true := decide_eq_true c4
          clear c4
          by_cases c5 : 0 ≤ x5_1
          · rw [if_pos c5] at H
            have c5b0 : decide (0 ≤ x5_1) = true := decide_eq_true c5
            clear c5
            by_cases c6 : x5_1 < (l1.length : Int)
            · rw [if_pos c6] at H
              have c6b0 : decide (x5_1 < (l1.length : Int)) = true := decide_eq_true c6
              clear c6
              by_cases c7 : ((rd_T46 l0 x5_1).f0) = ((rd_T46 l1 x5_1).f0)
              · rw [if_pos c7] at H
                have c7b0 : (((rd_T46 l0 x5_1).f0) == ((rd_T46 l1 x5_1).f0)) = true := beq_iff_eq.mpr c7
                have c7b1 : (((rd_T46 l0 x5_1).f0) != ((rd_T46 l1 x5_1).f0)) = false := bne_eq_false_iff_eq.mpr c7
                clear c7
                by_cases c8 : ((rd_T46 l0 x5_1).f1) = ((rd_T46 l1 x5_1).f1)
                · rw [if_pos c8] at H
                  have c8b0 : (((rd_T46 l0 x5_1).f1) == ((rd_T46 l1 x5_1).f1)) = true := beq_iff_eq.mpr c8
                  have c8b1 : (((rd_T46 l0 x5_1).f1) != ((rd_T46 l1 x5_1).f1)) = false := bne_eq_false_iff_eq.mpr c8
                  clear c8
                  by_cases c9 : ((rd_T46 l0 x5_1).f2) = ((rd_T46 l1 x5_1).f2)
                  · rw [if_pos c9] at H
                    have c9b0 : (((rd_T46 l0 x5_1).f2) == ((rd_T46 l1 x5_1).f2)) = true := beq_iff_eq.mpr c9
                    have c9b1 : (((rd_T46 l0 x5_1).f2) != ((rd_T46 l1 x5_1).f2)) = false := bne_eq_false_iff_eq.mpr c9
                    clear c9
                    by_cases c10 : (((rd_T46 l0 x5_1).f4).length : Int) = (((rd_T46 l1 x5_1).f4).length : Int)
                    · rw [if_pos c10] at H
                      have c10b0 : ((((rd_T46 l0 x5_1).f4).length : Int) == (((rd_T46 l1 x5_1).f4).length : Int)) = true := beq_iff_eq.mpr c10
                      have c10b1 : ((((rd_T46 l0 x5_1).f4).length : Int) != (((rd_T46 l1 x5_1).f4).length : Int)) = false := bne_eq_false_iff_eq.mpr c10
                      have c10b2 : (((rd_T46 l0 x5_1).f4).length == ((rd_T46 l1 x5_1).f4).length) = true := by first | simpa using c10 | (simp at c10 ⊢; omega)
                      clear c10
                      by_cases c11 : ((rd_T46 l0 x5_1).f3).toList = ((rd_T46 l1 x5_1).f3).toList
                      · rw [if_pos c11] at H
                        have c11b0 : (((rd_T46 l0 x5_1).f3).toList == ((rd_T46 l1 x5_1).f3).toList) = true := beq_iff_eq.mpr c11
                        have c11b1 : (((rd_T46 l0 x5_1).f3).toList != ((rd_T46 l1 x5_1).f3).toList) = false := bne_eq_false_iff_eq.mpr c11
                        clear c11
                        have H' := Aside0.mk H
                        clear H
                        have p264 : 0 ≤ (x5_1 : Int) := of_decide_eq_true (by first | (with_reducible assumption) | assumption)
                        have q264 : x5_1 < (l0.length : Int) := of_decide_eq_true (by first | (with_reducible assumption) | assumption)
                        obtain ⟨ad264, A264_4, c264_4, e264, hx264_0, hx264_1, hx264_2, hx264_3, hx264_4, hl264_4, hi264_4⟩ := at_T46 HR0.out x5_1 p264 q264
                        cases e264
                        have HR264_4 := Aside0.mk hi264_4
                        have HC264_4 := Aside0.mk hl264_4
                        clear hi264_4 hl264_4
                        replace p264 := eq_true p264
                        replace q264 := eq_true q264
                        have p265 : 0 ≤ (x5_1 : Int) := of_decide_eq_true (by first | (with_reducible assumption) | assumption)
                        have q265 : x5_1 < (l1.length : Int) := of_decide_eq_true (by first | (with_reducible assumption) | assumption)
                        obtain ⟨ad265, A265_4, c265_4, e265, hx265_0, hx265_1, hx265_2, hx265_3, hx265_4, hl265_4, hi265_4⟩ := at_T46 HR1.out x5_1 p265 q265
                        cases e265
                        have HR265_4 := Aside0.mk hi265_4
                        have HC265_4 := Aside0.mk hl265_4
                        clear hi265_4 hl265_4
                        replace p265 := eq_true p265
                        replace q265 := eq_true q265
                        have p266 : 0 ≤ (x5_1 : Int) := of_decide_eq_true (by first | (with_reducible assumption) | assumption)
                        have q266 : x5_1 < (l0.length : Int) := of_decide_eq_true (by first | (with_reducible assumption) | assumption)
                        obtain ⟨ad266, A266_4, c266_4, e266, hx266_0, hx266_1, hx266_2, hx266_3, hx266_4, hl266_4, hi266_4⟩ := at_T46 HR0.out x5_1 p266 q266
                        obtain rfl : ad264 = ad266 := (by injection e266)
                        have HR266_4 := Aside0.mk hi266_4
                        have HC266_4 := Aside0.mk hl266_4
                        clear hi266_4 hl266_4
                        replace p266 := eq_true p266
                        replace q266 := eq_true q266
                        have ea_ := Option.some.inj (hx264_4.symm.trans hx266_4)
                        injection ea_ with ea_ en_ ec_
                        subst ea_
                        subst ec_
                        clear en_
                        have p267 : 0 ≤ (x5_1 : Int) := of_decide_eq_true (by first | (with_reducible assumption) | assumption)
                        have q267 : x5_1 < (l1.length : Int) := of_decide_eq_true (by first | (with_reducible assumption) | assumption)
                        obtain ⟨ad267, A267_4, c267_4, e267, hx267_0, hx267_1, hx267_2, hx267_3, hx267_4, hl267_4, hi267_4⟩ := at_T46 HR1.out x5_1 p267 q267
                        obtain rfl : ad265 = ad267 := (by injection e267)
                        have HR267_4 := Aside0.mk hi267_4
                        have HC267_4 := Aside0.mk hl267_4
                        clear hi267_4 hl267_4
                        replace p267 := eq_true p267
                        replace q267 := eq_true q267
                        have ea_ := Option.some.inj (hx265_4.symm.trans hx267_4)
                        injection ea_ with ea_ en_ ec_
                        subst ea_
                        subst ec_
                        clear en_
                        have p268 : 0 ≤ (x5_1 : Int) := of_decide_eq_true (by first | (with_reducible assumption) | assumption)
                        have q268 : x5_1 < (l0.length : Int) := of_decide_eq_true (by first | (with_reducible assumption) | assumption)
                        obtain ⟨ad268, A268_4, c268_4, e268, hx268_0, hx268_1, hx268_2, hx268_3, hx268_4, hl268_4, hi268_4⟩ := at_T46 HR0.out x5_1 p268 q268
                        obtain rfl : ad264 = ad268 := (by injection e268)
                        have HR268_4 := Aside0.mk hi268_4
                        have HC268_4 := Aside0.mk hl268_4
                        clear hi268_4 hl268_4
                        replace p268 := eq_true p268
                        replace q268 := eq_true q268
                        have ea_ := Option.some.inj (hx264_4.symm.trans hx268_4)
                        injection ea_ with ea_ en_ ec_
                        subst ea_
                        subst ec_
                        clear en_
                        have p269 : 0 ≤ (x5_1 : Int) := of_decide_eq_true (by first | (with_reducible assumption) | assumption)
                        have q269 : x5_1 < (l1.length : Int) := of_decide_eq_true (by first | (with_reducible assumption) | assumption)
                        obtain ⟨ad269, A269_4, c269_4, e269, hx269_0, hx269_1, hx269_2, hx269_3, hx269_4, hl269_4, hi269_4⟩ := at_T46 HR1.out x5_1 p269 q269
                        obtain rfl : ad265 = ad269 := (by injection e269)
                        have HR269_4 := Aside0.mk hi269_4
                        have HC269_4 := Aside0.mk hl269_4
                        clear hi269_4 hl269_4
                        replace p269 := eq_true p269
                        replace q269 := eq_true q269
                        have ea_ := Option.some.inj (hx265_4.symm.trans hx269_4)
                        injection ea_ with ea_ en_ ec_
                        subst ea_
                        subst ec_
                        clear en_
                        have p270 : 0 ≤ (x5_1 : Int) := of_decide_eq_true (by first | (with_reducible assumption) | assumption)
                        have q270 : x5_1 < (l0.length : Int) := of_decide_eq_true (by first | (with_reducible assumption) | assumption)
                        obtain ⟨ad270, A270_4, c270_4, e270, hx270_0, hx270_1, hx270_2, hx270_3, hx270_4, hl270_4, hi270_4⟩ := at_T46 HR0.out x5_1 p270 q270
                        obtain rfl : ad264 = ad270 := (by injection e270)
                        have HR270_4 := Aside0.mk hi270_4
                        have HC270_4 := Aside0.mk hl270_4
                        clear hi270_4 hl270_4
                        replace p270 := eq_true p270
                        replace q270 := eq_true q270
                        have ea_ := Option.some.inj (hx264_4.symm.trans hx270_4)
                        injection ea_ with ea_ en_ ec_
                        subst ea_
                        subst ec_
                        clear en_
                        have p271 : 0 ≤ (x5_1 : Int) := of_decide_eq_true (by first | (with_reducible assumption) | assumption)
                        have q271 : x5_1 < (l1.length : Int) := of_decide_eq_true (by first | (with_reducible assumption) | assumption)
                        obtain ⟨ad271, A271_4, c271_4, e271, hx271_0, hx271_1, hx271_2, hx271_3, hx271_4, hl271_4, hi271_4⟩ := at_T46 HR1.out x5_1 p271 q271
                        obtain rfl : ad265 = ad271 := (by injection e271)
                        have HR271_4 := Aside0.mk hi271_4
                        have HC271_4 := Aside0.mk hl271_4
                        clear hi271_4 hl271_4
                        replace p271 := eq_true p271
                        replace q271 := eq_true q271
                        have ea_ := Option.some.inj (hx265_4.symm.trans hx271_4)
                        injection ea_ with ea_ en_ ec_
                        subst ea_
                        subst ec_
                        clear en_
                        have p272 : 0 ≤ (x5_1 : Int) := of_decide_eq_true (by first | (with_reducible assumption) | assumption)
                        have q272 : x5_1 < (l0.length : Int) := of_decide_eq_true (by first | (with_reducible assumption) | assumption)
                        obtain ⟨ad272, A272_4, c272_4, e272, hx272_0, hx272_1, hx272_2, hx272_3, hx272_4, hl272_4, hi272_4⟩ := at_T46 HR0.out x5_1 p272 q272
                        obtain rfl : ad264 = ad272 := (by injection e272)
                        have HR272_4 := Aside0.mk hi272_4
                        have HC272_4 := Aside0.mk hl272_4
                        clear hi272_4 hl272_4
                        replace p272 := eq_true p272
                        replace q272 := eq_true q272
                        have ea_ := Option.some.inj (hx264_4.symm.trans hx272_4)
                        injection ea_ with ea_ en_ ec_
                        subst ea_
                        subst ec_
                        clear en_
                        have p273 : 0 ≤ (x5_1 : Int) := of_decide_eq_true (by first | (with_reducible assumption) | assumption)
                        have q273 : x5_1 < (l1.length : Int) := of_decide_eq_true (by first | (with_reducible assumption) | assumption)
                        obtain ⟨ad273, A273_4, c273_4, e273, hx273_0, hx273_1, hx273_2, hx273_3, hx273_4, hl273_4, hi273_4⟩ := at_T46 HR1.out x5_1 p273 q273
                        obtain rfl : ad265 = ad273 := (by injection e273)
                        have HR273_4 := Aside0.mk hi273_4
                        have HC273_4 := Aside0.mk hl273_4
                        clear hi273_4 hl273_4
                        replace p273 := eq_true p273
                        replace q273 := eq_true q273
                        have ea_ := Option.some.inj (hx265_4.symm.trans hx273_4)
                        injection ea_ with ea_ en_ ec_
                        subst ea_
                        subst ec_
                        clear en_
                        go_wp2
                        repeat (go_quiet (fail); try go_wp2)
                        go_roundg k1
                        case measure => have := HK1.out; omega
                        case rel => exact ⟨(wrap64 (x5_1 + 1)), (by first | rfl | (simp; done) | (simp [*]; done)), H', ⟨by have := HK1.out; omega⟩, by repeat (first | exact Drawn0.refl _ | apply Drawn0.step)⟩
                      · rw [if_neg c11] at H
                        have c11b0 : (((rd_T46 l0 x5_1).f3).toList == ((rd_T46 l1 x5_1).f3).toList) = false := beq_eq_false_iff_ne.mpr c11
                        have c11b1 : (((rd_T46 l0 x5_1).f3).toList != ((rd_T46 l1 x5_1).f3).toList) = true := bne_iff_ne.mpr c11
                        obtain rfl := Option.some.inj H
                        have p264 : 0 ≤ (x5_1 : Int) := of_decide_eq_true (by first | (with_reducible assumption) | assumption)
                        have q264 : x5_1 < (l0.length : Int) := of_decide_eq_true (by first | (with_reducible assumption) | assumption)
                        obtain ⟨ad264, A264_4, c264_4, e264, hx264_0, hx264_1, hx264_2, hx264_3, hx264_4, hl264_4, hi264_4⟩ := at_T46 HR0.out x5_1 p264 q264
                        cases e264
                        have HR264_4 := Aside0.mk hi264_4
                        have HC264_4 := Aside0.mk hl264_4
                        clear hi264_4 hl264_4
                        replace p264 := eq_true p264
                        replace q264 := eq_true q264
                        have p265 : 0 ≤ (x5_1 : Int) := of_decide_eq_true (by first | (with_reducible assumption) | assumption)
                        have q265 : x5_1 < (l1.length : Int) := of_decide_eq_true (by first | (with_reducible assumption) | assumption)
                        obtain ⟨ad265, A265_4, c265_4, e265, hx265_0, hx265_1, hx265_2, hx265_3, hx265_4, hl265_4, hi265_4⟩ := at_T46 HR1.out x5_1 p265 q265
                        cases e265
                        have HR265_4 := Aside0.mk hi265_4
                        have HC265_4 := Aside0.mk hl265_4
                        clear hi265_4 hl265_4
                        replace p265 := eq_true p265
                        replace q265 := eq_true q265
                        have p266 : 0 ≤ (x5_1 : Int) := of_decide_eq_true (by first | (with_reducible assumption) | assumption)
                        have q266 : x5_1 < (l0.length : Int) := of_decide_eq_true (by first | (with_reducible assumption) | assumption)
                        obtain ⟨ad266, A266_4, c266_4, e266, hx266_0, hx266_1, hx266_2, hx266_3, hx266_4, hl266_4, hi266_4⟩ := at_T46 HR0.out x5_1 p266 q266
                        obtain rfl : ad264 = ad266 := (by injection e266)
                        have HR266_4 := Aside0.mk hi266_4
                        have HC266_4 := Aside0.mk hl266_4
                        clear hi266_4 hl266_4
                        replace p266 := eq_true p266
                        replace q266 := eq_true q266
                        have ea_ := Option.some.inj (hx264_4.symm.trans hx266_4)
                        injection ea_ with ea_ en_ ec_
                        subst ea_
                        subst ec_
                        clear en_
                        have p267 : 0 ≤ (x5_1 : Int) := of_decide_eq_true (by first | (with_reducible assumption) | assumption)
                        have q267 : x5_1 < (l1.length : Int) := of_decide_eq_true (by first | (with_reducible assumption) | assumption)
                        obtain ⟨ad267, A267_4, c267_4, e267, hx267_0, hx267_1, hx267_2, hx267_3, hx267_4, hl267_4, hi267_4⟩ := at_T46 HR1.out x5_1 p267 q267
                        obtain rfl : ad265 = ad267 := (by injection e267)
                        have HR267_4 := Aside0.mk hi267_4
                        have HC267_4 := Aside0.mk hl267_4
                        clear hi267_4 hl267_4
                        replace p267 := eq_true p267
                        replace q267 := eq_true q267
                        have ea_ := Option.some.inj (hx265_4.symm.trans hx267_4)
                        injection ea_ with ea_ en_ ec_
                        subst ea_
                        subst ec_
                        clear en_
                        have p268 : 0 ≤ (x5_1 : Int) := of_decide_eq_true (by first | (with_reducible assumption) | assumption)
                        have q268 : x5_1 < (l0.length : Int) := of_decide_eq_true (by first | (with_reducible assumption) | assumption)
                        obtain ⟨ad268, A268_4, c268_4, e268, hx268_0, hx268_1, hx268_2, hx268_3, hx268_4, hl268_4, hi268_4⟩ := at_T46 HR0.out x5_1 p268 q268
                        obtain rfl : ad264 = ad268 := (by injection e268)
                        have HR268_4 := Aside0.mk hi268_4
                        have HC268_4 := Aside0.mk hl268_4
                        clear hi268_4 hl268_4
                        replace p268 := eq_true p268
                        replace q268 := eq_true q268
                        have ea_ := Option.some.inj (hx264_4.symm.trans hx268_4)
                        injection ea_ with ea_ en_ ec_
                        subst ea_
                        subst ec_
                        clear en_
                        have p269 : 0 ≤ (x5_1 : Int) := of_decide_eq_true (by first | (with_reducible assumption) | assumption)
                        have q269 : x5_1 < (l1.length : Int) := of_decide_eq_true (by first | (with_reducible assumption) | assumption)
                        obtain ⟨ad269, A269_4, c269_4, e269, hx269_0, hx269_1, hx269_2, hx269_3, hx269_4, hl269_4, hi269_4⟩ := at_T46 HR1.out x5_1 p269 q269
                        obtain rfl : ad265 = ad269 := (by injection e269)
                        have HR269_4 := Aside0.mk hi269_4
                        have HC269_4 := Aside0.mk hl269_4
                        clear hi269_4 hl269_4
                        replace p269 := eq_true p269
                        replace q269 := eq_true q269
                        have ea_ := Option.some.inj (hx265_4.symm.trans hx269_4)
                        injection ea_ with ea_ en_ ec_
                        subst ea_
                        subst ec_
                        clear en_
                        have p270 : 0 ≤ (x5_1 : Int) := of_decide_eq_true (by first | (with_reducible assumption) | assumption)
                        have q270 : x5_1 < (l0.length : Int) := of_decide_eq_true (by first | (with_reducible assumption) | assumption)
                        obtain ⟨ad270, A270_4, c270_4, e270, hx270_0, hx270_1, hx270_2, hx270_3, hx270_4, hl270_4, hi270_4⟩ := at_T46 HR0.out x5_1 p270 q270
                        obtain rfl : ad264 = ad270 := (by injection e270)
                        have HR270_4 := Aside0.mk hi270_4
                        have HC270_4 := Aside0.mk hl270_4
                        clear hi270_4 hl270_4
                        replace p270 := eq_true p270
                        replace q270 := eq_true q270
                        have ea_ := Option.some.inj (hx264_4.symm.trans hx270_4)
                        injection ea_ with ea_ en_ ec_
                        subst ea_
                        subst ec_
                        clear en_
                        have p271 : 0 ≤ (x5_1 : Int) := of_decide_eq_true (by first | (with_reducible assumption) | assumption)
                        have q271 : x5_1 < (l1.length : Int) := of_decide_eq_true (by first | (with_reducible assumption) | assumption)
                        obtain ⟨ad271, A271_4, c271_4, e271, hx271_0, hx271_1, hx271_2, hx271_3, hx271_4, hl271_4, hi271_4⟩ := at_T46 HR1.out x5_1 p271 q271
                        obtain rfl : ad265 = ad271 := (by injection e271)
                        have HR271_4 := Aside0.mk hi271_4
                        have HC271_4 := Aside0.mk hl271_4
                        clear hi271_4 hl271_4
                        replace p271 := eq_true p271
                        replace q271 := eq_true q271
                        have ea_ := Option.some.inj (hx265_4.symm.trans hx271_4)
                        injection ea_ with ea_ en_ ec_
                        subst ea_
                        subst ec_
                        clear en_
                        have p272 : 0 ≤ (x5_1 : Int) := of_decide_eq_true (by first | (with_reducible assumption) | assumption)
                        have q272 : x5_1 < (l0.length : Int) := of_decide_eq_true (by first | (with_reducible assumption) | assumption)
                        obtain ⟨ad272, A272_4, c272_4, e272, hx272_0, hx272_1, hx272_2, hx272_3, hx272_4, hl272_4, hi272_4⟩ := at_T46 HR0.out x5_1 p272 q272
                        obtain rfl : ad264 = ad272 := (by injection e272)
                        have HR272_4 := Aside0.mk hi272_4
                        have HC272_4 := Aside0.mk hl272_4
                        clear hi272_4 hl272_4
                        replace p272 := eq_true p272
                        replace q272 := eq_true q272
                        have ea_ := Option.some.inj (hx264_4.symm.trans hx272_4)
                        injection ea_ with ea_ en_ ec_
                        subst ea_
                        subst ec_
                        clear en_
                        have p273 : 0 ≤ (x5_1 : Int) := of_decide_eq_true (by first | (with_reducible assumption) | assumption)
                        have q273 : x5_1 < (l1.length : Int) := of_decide_eq_true (by first | (with_reducible assumption) | assumption)
                        obtain ⟨ad273, A273_4, c273_4, e273, hx273_0, hx273_1, hx273_2, hx273_3, hx273_4, hl273_4, hi273_4⟩ := at_T46 HR1.out x5_1 p273 q273
                        obtain rfl : ad265 = ad273 := (by injection e273)
                        have HR273_4 := Aside0.mk hi273_4
                        have HC273_4 := Aside0.mk hl273_4
                        clear hi273_4 hl273_4
                        replace p273 := eq_true p273
                        replace q273 := eq_true q273
                        have ea_ := Option.some.inj (hx265_4.symm.trans hx273_4)
                        injection ea_ with ea_ en_ ec_
                        subst ea_
                        subst ec_
                        clear en_
                        go_wp2
                        repeat (go_quiet (fail); try go_wp2)
                        go_ret
                        exact ⟨by first | rfl | (simp; done) | (simp [*]; done), by repeat (first | exact Drawn0.refl _ | apply Drawn0.step)⟩
                    · rw [if_neg c10] at H
                      have c10b0 : ((((rd_T46 l0 x5_1).f4).length : Int) == (((rd_T46 l1 x5_1).f4).length : Int)) = false := beq_eq_false_iff_ne.mpr c10
                      have c10b1 : ((((rd_T46 l0 x5_1).f4).length : Int) != (((rd_T46 l1 x5_1).f4).length : Int)) = true := bne_iff_ne.mpr c10
                      have c10b2 : (((rd_T46 l0 x5_1).f4).length == ((rd_T46 l1 x5_1).f4).length) = false := by first | simpa using c10 | (simp at c10 ⊢; omega)
                      obtain rfl := Option.some.inj H
                      have p264 : 0 ≤ (x5_1 : Int) := of_decide_eq_true (by first | (with_reducible assumption) | assumption)
                      have q264 : x5_1 < (l0.length : Int) := of_decide_eq_true (by first | (with_reducible assumption) | assumption)
                      obtain ⟨ad264, A264_4, c264_4, e264, hx264_0, hx264_1, hx264_2, hx264_3, hx264_4, hl264_4, hi264_4⟩ := at_T46 HR0.out x5_1 p264 q264
                      cases e264
                      have HR264_4 := Aside0.mk hi264_4
                      have HC264_4 := Aside0.mk hl264_4
                      clear hi264_4 hl264_4
                      replace p264 := eq_true p264
                      replace q264 := eq_true q264
                      have p265 : 0 ≤ (x5_1 : Int) := of_decide_eq_true (by first | (with_reducible assumption) | assumption)
                      have q265 : x5_1 < (l1.length : Int) := of_decide_eq_true (by first | (with_reducible assumption) | assumption)
                      obtain ⟨ad265, A265_4, c265_4, e265, hx265_0, hx265_1, hx265_2, hx265_3, hx265_4, hl265_4, hi265_4⟩ := at_T46 HR1.out x5_1 p265 q265
                      cases e265
                      have HR265_4 := Aside0.mk hi265_4
                      have HC265_4 := Aside0.mk hl265_4
                      clear hi265_4 hl265_4
                      replace p265 := eq_true p265
                      replace q265 := eq_true q265
                      have p266 : 0 ≤ (x5_1 : Int) := of_decide_eq_true (by first | (with_reducible assumption) | assumption)
                      have q266 : x5_1 < (l0.length : Int) := of_decide_eq_true (by first | (with_reducible assumption) | assumption)
                      obtain ⟨ad266, A266_4, c266_4, e266, hx266_0, hx266_1, hx266_2, hx266_3, hx266_4, hl266_4, hi266_4⟩ := at_T46 HR0.out x5_1 p266 q266
                      obtain rfl : ad264 = ad266 := (by injection e266)
                      have HR266_4 := Aside0.mk hi266_4
                      have HC266_4 := Aside0.mk hl266_4
                      clear hi266_4 hl266_4
                      replace p266 := eq_true p266
                      replace q266 := eq_true q266
                      have ea_ := Option.some.inj (hx264_4.symm.trans hx266_4)
                      injection ea_ with ea_ en_ ec_
                      subst ea_
                      subst ec_
                      clear en_
                      have p267 : 0 ≤ (x5_1 : Int) := of_decide_eq_true (by first | (with_reducible assumption) | assumption)
                      have q267 : x5_1 < (l1.length : Int) := of_decide_eq_true (by first | (with_reducible assumption) | assumption)
                      obtain ⟨ad267, A267_4, c267_4, e267, hx267_0, hx267_1, hx267_2, hx267_3, hx267_4, hl267_4, hi267_4⟩ := at_T46 HR1.out x5_1 p267 q267
                      obtain rfl : ad265 = ad267 := (by injection e267)
                      have HR267_4 := Aside0.mk hi267_4
                      have HC267_4 := Aside0.mk hl267_4
                      clear hi267_4 hl267_4
                      replace p267 := eq_true p267
                      replace q267 := eq_true q267
                      have ea_ := Option.some.inj (hx265_4.symm.trans hx267_4)
                      injection ea_ with ea_ en_ ec_
                      subst ea_
                      subst ec_
                      clear en_
                      have p268 : 0 ≤ (x5_1 : Int) := of_decide_eq_true (by first | (with_reducible assumption) | assumption)
                      have q268 : x5_1 < (l0.length : Int) := of_decide_eq_true (by first | (with_reducible assumption) | assumption)
                      obtain ⟨ad268, A268_4, c268_4, e268, hx268_0, hx268_1, hx268_2, hx268_3, hx268_4, hl268_4, hi268_4⟩ := at_T46 HR0.out x5_1 p268 q268
                      obtain rfl : ad264 = ad268 := (by injection e268)
                      have HR268_4 := Aside0.mk hi268_4
                      have HC268_4 := Aside0.mk hl268_4
                      clear hi268_4 hl268_4
                      replace p268 := eq_true p268
                      replace q268 := eq_true q268
                      have ea_ := Option.some.inj (hx264_4.symm.trans hx268_4)
                      injection ea_ with ea_ en_ ec_
                      subst ea_
                      subst ec_
                      clear en_
                      have p269 : 0 ≤ (x5_1 : Int) := of_decide_eq_true (by first | (with_reducible assumption) | assumption)
                      have q269 : x5_1 < (l1.length : Int) := of_decide_eq_true (by first | (with_reducible assumption) | assumption)
                      obtain ⟨ad269, A269_4, c269_4, e269, hx269_0, hx269_1, hx269_2, hx269_3, hx269_4, hl269_4, hi269_4⟩ := at_T46 HR1.out x5_1 p269 q269
                      obtain rfl : ad265 = ad269 := (by injection e269)
                      have HR269_4 := Aside0.mk hi269_4
                      have HC269_4 := Aside0.mk hl269_4
                      clear hi269_4 hl269_4
                      replace p269 := eq_true p269
                      replace q269 := eq_true q269
                      have ea_ := Option.some.inj (hx265_4.symm.trans hx269_4)
                      injection ea_ with ea_ en_ ec_
                      subst ea_
                      subst ec_
                      clear en_
                      have p270 : 0 ≤ (x5_1 : Int) := of_decide_eq_true (by first | (with_reducible assumption) | assumption)
                      have q270 : x5_1 < (l0.length : Int) := of_decide_eq_true (by first | (with_reducible assumption) | assumption)
                      obtain ⟨ad270, A270_4, c270_4, e270, hx270_0, hx270_1, hx270_2, hx270_3, hx270_4, hl270_4, hi270_4⟩ := at_T46 HR0.out x5_1 p270 q270
                      obtain rfl : ad264 = ad270 := (by injection e270)
                      have HR270_4 := Aside0.mk hi270_4
                      have HC270_4 := Aside0.mk hl270_4
                      clear hi270_4 hl270_4
                      replace p270 := eq_true p270
                      replace q270 := eq_true q270
                      have ea_ := Option.some.inj (hx264_4.symm.trans hx270_4)
                      injection ea_ with ea_ en_ ec_
                      subst ea_
                      subst ec_
                      clear en_
                      have p271 : 0 ≤ (x5_1 : Int) := of_decide_eq_true (by first | (with_reducible assumption) | assumption)
                      have q271 : x5_1 < (l1.length : Int) := of_decide_eq_true (by first | (with_reducible assumption) | assumption)
                      obtain ⟨ad271, A271_4, c271_4, e271, hx271_0, hx271_1, hx271_2, hx271_3, hx271_4, hl271_4, hi271_4⟩ := at_T46 HR1.out x5_1 p271 q271
                      obtain rfl : ad265 = ad271 := (by injection e271)
                      have HR271_4 := Aside0.mk hi271_4
                      have HC271_4 := Aside0.mk hl271_4
                      clear hi271_4 hl271_4
                      replace p271 := eq_true p271
                      replace q271 := eq_true q271
                      have ea_ := Option.some.inj (hx265_4.symm.trans hx271_4)
                      injection ea_ with ea_ en_ ec_
                      subst ea_
                      subst ec_
                      clear en_
                      go_wp2
                      repeat (go_quiet (fail); try go_wp2)
                      go_ret
                      exact ⟨by first | rfl | (simp; done) | (simp [*]; done), by repeat (first | exact Drawn0.refl _ | apply Drawn0.step)⟩
                  · rw [if_neg c9] at H
                    have c9b0 : (((rd_T46 l0 x5_1).f2) == ((rd_T46 l1 x5_1).f2)) = false := beq_eq_false_iff_ne.mpr c9
                    have c9b1 : (((rd_T46 l0 x5_1).f2) != ((rd_T46 l1 x5_1).f2)) = true := bne_iff_ne.mpr c9
                    obtain rfl := Option.some.inj H
                    have p264 : 0 ≤ (x5_1 : Int) := of_decide_eq_true (by first | (with_reducible assumption) | assumption)
                    have q264 : x5_1 < (l0.length : Int) := of_decide_eq_true (by first | (with_reducible assumption) | assumption)
                    obtain ⟨ad264, A264_4, c264_4, e264, hx264_0, hx264_1, hx264_2, hx264_3, hx264_4, hl264_4, hi264_4⟩ := at_T46 HR0.out x5_1 p264 q264
                    cases e264
                    have HR264_4 := Aside0.mk hi264_4
                    have HC264_4 := Aside0.mk hl264_4
                    clear hi264_4 hl264_4
                    replace p264 := eq_true p264
                    replace q264 := eq_true q264
                    have p265 : 0 ≤ (x5_1 : Int) := of_decide_eq_true (by first | (with_reducible assumption) | assumption)
                    have q265 : x5_1 < (l1.length : Int) := of_decide_eq_true (by first | (with_reducible assumption) | assumption)
                    obtain ⟨ad265, A265_4, c265_4, e265, hx265_0, hx265_1, hx265_2, hx265_3, hx265_4, hl265_4, hi265_4⟩ := at_T46 HR1.out x5_1 p265 q265
                    cases e265
                    have HR265_4 := Aside0.mk hi265_4
                    have HC265_4 := Aside0.mk hl265_4
                    clear hi265_4 hl265_4
                    replace p265 := eq_true p265
                    replace q265 := eq_true q265
                    have p266 : 0 ≤ (x5_1 : Int) := of_decide_eq_true (by first | (with_reducible assumption) | assumption)
                    have q266 : x5_1 < (l0.length : Int) := of_decide_eq_true (by first | (with_reducible assumption) | assumption)
                    obtain ⟨ad266, A266_4, c266_4, e266, hx266_0, hx266_1, hx266_2, hx266_3, hx266_4, hl266_4, hi266_4⟩ := at_T46 HR0.out x5_1 p266 q266
                    obtain rfl : ad264 = ad266 := (by injection e266)
                    have HR266_4 := Aside0.mk hi266_4
                    have HC266_4 := Aside0.mk hl266_4
                    clear hi266_4 hl266_4
                    replace p266 := eq_true p266
                    replace q266 := eq_true q266
                    have ea_ := Option.some.inj (hx264_4.symm.trans hx266_4)
                    injection ea_ with ea_ en_ ec_
                    subst ea_
                    subst ec_
                    clear en_
                    have p267 : 0 ≤ (x5_1 : Int) := of_decide_eq_true (by first | (with_reducible assumption) | assumption)
                    have q267 : x5_1 < (l1.length : Int) := of_decide_eq_true (by first | (with_reducible assumption) | assumption)
                    obtain ⟨ad267, A267_4, c267_4, e267, hx267_0, hx267_1, hx267_2, hx267_3, hx267_4, hl267_4, hi267_4⟩ := at_T46 HR1.out x5_1 p267 q267
                    obtain rfl : ad265 = ad267 := (by injection e267)
                    have HR267_4 := Aside0.mk hi267_4
                    have HC267_4 := Aside0.mk hl267_4
                    clear hi267_4 hl267_4
                    replace p267 := eq_true p267
                    replace q267 := eq_true q267
                    have ea_ := Option.some.inj (hx265_4.symm.trans hx267_4)
                    injection ea_ with ea_ en_ ec_
                    subst ea_
                    subst ec_
                    clear en_
                    have p268 : 0 ≤ (x5_1 : Int) := of_decide_eq_true (by first | (with_reducible assumption) | assumption)
                    have q268 : x5_1 < (l0.length : Int) := of_decide_eq_true (by first | (with_reducible assumption) | assumption)
                    obtain ⟨ad268, A268_4, c268_4, e268, hx268_0, hx268_1, hx268_2, hx268_3, hx268_4, hl268_4, hi268_4⟩ := at_T46 HR0.out x5_1 p268 q268
                    obtain rfl : ad264 = ad268 := (by injection e268)
                    have HR268_4 := Aside0.mk hi268_4
                    have HC268_4 := Aside0.mk hl268_4
                    clear hi268_4 hl268_4
                    replace p268 := eq_true p268
                    replace q268 := eq_true q268
                    have ea_ := Option.some.inj (hx264_4.symm.trans hx268_4)
                    injection ea_ with ea_ en_ ec_
                    subst ea_
                    subst ec_
                    clear en_
                    have p269 : 0 ≤ (x5_1 : Int) := of_decide_eq_true (by first | (with_reducible assumption) | assumption)
                    have q269 : x5_1 < (l1.length : Int) := of_decide_eq_true (by first | (with_reducible assumption) | assumption)
                    obtain ⟨ad269, A269_4, c269_4, e269, hx269_0, hx269_1, hx269_2, hx269_3, hx269_4, hl269_4, hi269_4⟩ := at_T46 HR1.out x5_1 p269 q269
                    obtain rfl : ad265 = ad269 := (by injection e269)
                    have HR269_4 := Aside0.mk hi269_4
                    have HC269_4 := Aside0.mk hl269_4
                    clear hi269_4 hl269_4
                    replace p269 := eq_true p269
                    replace q269 := eq_true q269
                    have ea_ := Option.some.inj (hx265_4.symm.trans hx269_4)
                    injection ea_ with ea_ en_ ec_
                    subst ea_
                    subst ec_
                    clear en_
                    go_wp2
                    repeat (go_quiet (fail); try go_wp2)
                    go_ret
                    exact ⟨by first | rfl | (simp; done) | (simp [*]; done), by repeat (first | exact Drawn0.refl _ | apply Drawn0.step)⟩
                · rw [if_neg c8] at H
                  have c8b0 : (((rd_T46 l0 x5_1).f1) == ((rd_T46 l1 x5_1).f1)) = false := beq_eq_false_iff_ne.mpr c8
                  have c8b1 : (((rd_T46 l0 x5_1).f1) != ((rd_T46 l1 x5_1).f1)) = true := bne_iff_ne.mpr c8
                  obtain rfl := Option.some.inj H
                  have p264 : 0 ≤ (x5_1 : Int) := of_decide_eq_true (by first | (with_reducible assumption) | assumption)
                  have q264 : x5_1 < (l0.length : Int) := of_decide_eq_true (by first | (with_reducible assumption) | assumption)
                  obtain ⟨ad264, A264_4, c264_4, e264, hx264_0, hx264_1, hx264_2, hx264_3, hx264_4, hl264_4, hi264_4⟩ := at_T46 HR0.out x5_1 p264 q264
                  cases e264
                  have HR264_4 := Aside0.mk hi264_4
                  have HC264_4 := Aside0.mk hl264_4
                  clear hi264_4 hl264_4
                  replace p264 := eq_true p264
                  replace q264 := eq_true q264
                  have p265 : 0 ≤ (x5_1 : Int) := of_decide_eq_true (by first | (with_reducible assumption) | assumption)
                  have q265 : x5_1 < (l1.length : Int) := of_decide_eq_true (by first | (with_reducible assumption) | assumption)
                  obtain ⟨ad265, A265_4, c265_4, e265, hx265_0, hx265_1, hx265_2, hx265_3, hx265_4, hl265_4, hi265_4⟩ := at_T46 HR1.out x5_1 p265 q265
                  cases e265
                  have HR265_4 := Aside0.mk hi265_4
                  have HC265_4 := Aside0.mk hl265_4
                  clear hi265_4 hl265_4
                  replace p265 := eq_true p265
                  replace q265 := eq_true q265
                  have p266 : 0 ≤ (x5_1 : Int) := of_decide_eq_true (by first | (with_reducible assumption) | assumption)
                  have q266 : x5_1 < (l0.length : Int) := of_decide_eq_true (by first | (with_reducible assumption) | assumption)
                  obtain ⟨ad266, A266_4, c266_4, e266, hx266_0, hx266_1, hx266_2, hx266_3, hx266_4, hl266_4, hi266_4⟩ := at_T46 HR0.out x5_1 p266 q266
                  obtain rfl : ad264 = ad266 := (by injection e266)
                  have HR266_4 := Aside0.mk hi266_4
                  have HC266_4 := Aside0.mk hl266_4
                  clear hi266_4 hl266_4
                  replace p266 := eq_true p266
                  replace q266 := eq_true q266
                  have ea_ := Option.some.inj (hx264_4.symm.trans hx266_4)
                  injection ea_ with ea_ en_ ec_
                  subst ea_
                  subst ec_
                  clear en_
                  have p267 : 0 ≤ (x5_1 : Int) := of_decide_eq_true (by first | (with_reducible assumption) | assumption)
                  have q267 : x5_1 < (l1.length : Int) := of_decide_eq_true (by first | (with_reducible assumption) | assumption)
                  obtain ⟨ad267, A267_4, c267_4, e267, hx267_0, hx267_1, hx267_2, hx267_3, hx267_4, hl267_4, hi267_4⟩ := at_T46 HR1.out x5_1 p267 q267
                  obtain rfl : ad265 = ad267 := (by injection e267)
                  have HR267_4 := Aside0.mk hi267_4
                  have HC267_4 := Aside0.mk hl267_4
                  clear hi267_4 hl267_4
                  replace p267 := eq_true p267
                  replace q267 := eq_true q267
                  have ea_ := Option.some.inj (hx265_4.symm.trans hx267_4)
                  injection ea_ with ea_ en_ ec_
                  subst ea_
                  subst ec_
                  clear en_
                  go_wp2
                  repeat (go_quiet (fail); try go_wp2)
                  go_ret
                  exact ⟨by first | rfl | (simp; done) | (simp [*]; done), by repeat (first | exact Drawn0.refl _ | apply Drawn0.step)⟩
              · rw [if_neg c7] at H
                have c7b0 : (((rd_T46 l0 x5_1).f0) == ((rd_T46 l1 x5_1).f0)) = false := beq_eq_false_iff_ne.mpr c7
                have c7b1 : (((rd_T46 l0 x5_1).f0) != ((rd_T46 l1 x5_1).f0)) = true := bne_iff_ne.mpr c7
                obtain rfl := Option.some.inj H
                have p264 : 0 ≤ (x5_1 : Int) := of_decide_eq_true (by first | (with_reducible assumption) | assumption)
                have q264 : x5_1 < (l0.length : Int) := of_decide_eq_true (by first | (with_reducible assumption) | assumption)
                obtain ⟨ad264, A264_4, c264_4, e264, hx264_0, hx264_1, hx264_2, hx264_3, hx264_4, hl264_4, hi264_4⟩ := at_T46 HR0.out x5_1 p264 q264
                cases e264
                have HR264_4 := Aside0.mk hi264_4
                have HC264_4 := Aside0.mk hl264_4
                clear hi264_4 hl264_4
                replace p264 := eq_true p264
                replace q264 := eq_true q264
                have p265 : 0 ≤ (x5_1 : Int) := of_decide_eq_true (by first | (with_reducible assumption) | assumption)
                have q265 : x5_1 < (l1.length : Int) := of_decide_eq_true (by first | (with_reducible assumption) | assumption)
                obtain ⟨ad265, A265_4, c265_4, e265, hx265_0, hx265_1, hx265_2, hx265_3, hx265_4, hl265_4, hi265_4⟩ := at_T46 HR1.out x5_1 p265 q265
                cases e265
                have HR265_4 := Aside0.mk hi265_4
                have HC265_4 := Aside0.mk hl265_4
                clear hi265_4 hl265_4
                replace p265 := eq_true p265
                replace q265 := eq_true q265
                go_wp2
                repeat (go_quiet (fail); try go_wp2)
                go_ret
                exact ⟨by first | rfl | (simp; done) | (simp [*]; done), by repeat (first | exact Drawn0.refl _ | apply Drawn0.step)⟩
            · rw [if_neg c6] at H
              exact absurd H (by simp)
          · rw [if_neg c5] at H
            exact absurd H (by simp)
        · rw [if_neg c4] at H
          have c4b0 : decide (x5_1 < (l0.length : Int)) = false := decide_eq_false c4
          clear c4
          obtain rfl := Option.some.inj H
          go_wp2
          repeat (go_quiet (fail); try go_wp2)
          go_ret
          exact ⟨by first | rfl | (simp; done) | (simp [*]; done), by repeat (first | exact Drawn0.refl _ | apply Drawn0.step)⟩
  · rw [if_neg c3] at H
    have c3b0 : ((l0.length : Int) == (l1.length : Int)) = false := beq_eq_false_iff_ne.mpr c3
    have c3b1 : ((l0.length : Int) != (l1.length : Int)) = true := bne_iff_ne.mpr c3
    have c3b2 : (l0.length == l1.length) = false := by first | simpa using c3 | (simp at c3 ⊢; omega)
    obtain rfl := Option.some.inj H
    go_enter Try.func24, Try.ntmps24
    go_wp2
    repeat (go_quiet (fail); try go_wp2)
    go_ret
    exact ⟨by first | rfl | (simp; done) | (simp [*]; done), by repeat (first | exact Drawn0.refl _ | apply Drawn0.step)⟩

end Go.Proofs.Ytoopfdamdghbmaa.PA
