-- Written by wip/pp.py of this repository, on the kit's print program. Not trusted: Lean checks it.
import Derived.Test.YtjdijlijojembaaPAx0
import Derived.Test.YtjdijlijojembaaPAx1
import Derived.Test.YtjdijlijojembaaPAx2
import Derived.Test.YtjdijlijojembaaPAx4
import Derived.Test.YtjdijlijojembaaPAx5
namespace Go.Proofs.Ytjdijlijojembaa.PA
open Go.RowKit Go.Proofs.YtjdijlijojembaaW.PrintWords Go.Proofs.YtjdijlijojembaaW.PrintLast Go.Proofs.YtjdijlijojembaaW.PrintMore
attribute [local go_sem] max2_int min2_int max_two min_two max_three min_three max_four min_four   -- for this text's walks alone
set_option linter.unusedVariables false
set_option linter.unusedSimpArgs false

/-! ### mapsheetslaw04_IdsetMembers: function 6 -/
def mapsheetslaw04_IdsetMembers.f (k : Nat) (l0 : List Int) (l1 : List Int) (a2 : Int) : Option (Bool) := (mapsheetslaw04_few.f l0 l1 ([] : List Int)).bind fun t298 => (if t298 = true then ((idset_Has.f k l0 a2).bind fun t300 => ((idset_Has.f k l1 a2).bind fun t301 => ((mapsheetslaw04_awake.f k).bind fun t302 => (if t302 = true then ((idset_Union.f l0 l1).bind fun t303 => ((idset_Has.f k t303 a2).bind fun t306 => (if t300 = true then (if (t306 == true) = true then ((idset_Inter.f l0 l1).bind fun t307 => ((idset_Has.f k t307 a2).bind fun t310 => (if (t310 == t301) = true then ((idset_Minus.f l0 l1).bind fun t311 => ((idset_Has.f k t311 a2).bind fun t314 => (some (t314 == (!t301))))) else (none)))) else (none)) else (if (t306 == t301) = true then ((idset_Inter.f l0 l1).bind fun t315 => ((idset_Has.f k t315 a2).bind fun t318 => (if (t318 == false) = true then ((idset_Minus.f l0 l1).bind fun t319 => ((idset_Has.f k t319 a2).bind fun t322 => (some (t322 == false)))) else (none)))) else (none))))) else (none))))) else ((mapsheetslaw04_awake.f k).bind fun t299 => (some t299)))
theorem mapsheetslaw04_IdsetMembers.mono : ∀ a0 a1 a2 k, LeO (mapsheetslaw04_IdsetMembers.f k a0 a1 a2) (mapsheetslaw04_IdsetMembers.f (k + 1) a0 a1 a2) := by
  intro a0 a1 a2 k
  unfold mapsheetslaw04_IdsetMembers.f
  repeat' first
      | (with_reducible exact idset_Has.mono _ _ _)
      | (with_reducible exact mapsheetslaw04_awake.mono _)
      | (with_reducible exact LeO.refl _)
      | (with_reducible exact LeO.none _)
      | (with_reducible refine LeO.ite ?_ ?_)
      | (with_reducible refine LeO.bind ?_ (fun _ => ?_))
      | exact idset_Has.mono _ _ _
      | exact mapsheetslaw04_awake.mono _
      | exact LeO.none _
      | refine LeO.ite ?_ ?_
      | refine LeO.bind ?_ (fun _ => ?_)
set_option maxHeartbeats 8000000 in
set_option maxRecDepth 100000 in
theorem mapsheetslaw04_IdsetMembers.calls (k : Nat) (A0 : Option Addr) (c0 : Nat) (l0 : List Int) (A1 : Option Addr) (c1 : Nat) (l1 : List Int) (a2 : Int) (r : Bool) (w : World) (hr0 : Kd.C (Kd.int .i64) w A0 l0.length l0) (hc0 : l0.length ≤ c0) (hr1 : Kd.C (Kd.int .i64) w A1 l1.length l1) (hc1 : l1.length ≤ c1) (h : mapsheetslaw04_IdsetMembers.f k l0 l1 a2 = some r) :
    Calls Try.prog 6 #[.slice A0 l0.length c0, .slice A1 l1.length c1, .int .i64 a2] w fun e w' => e = .returned (.bool r) ∧ Below w.heap.size w w' := by
  have HR0 := Aside0.mk hr0
  have HC0 := Aside0.mk hc0
  clear hr0 hc0
  have HR1 := Aside0.mk hr1
  have HC1 := Aside0.mk hc1
  clear hr1 hc1
  have HB := Aside0.mk (Below.refl w.heap.size w)
  have H : ((mapsheetslaw04_few.f l0 l1 ([] : List Int)).bind fun t298 => (if t298 = true then ((idset_Has.f k l0 a2).bind fun t300 => ((idset_Has.f k l1 a2).bind fun t301 => ((mapsheetslaw04_awake.f k).bind fun t302 => (if t302 = true then ((idset_Union.f l0 l1).bind fun t303 => ((idset_Has.f k t303 a2).bind fun t306 => (if t300 = true then (if (t306 == true) = true then ((idset_Inter.f l0 l1).bind fun t307 => ((idset_Has.f k t307 a2).bind fun t310 => (if (t310 == t301) = true then ((idset_Minus.f l0 l1).bind fun t311 => ((idset_Has.f k t311 a2).bind fun t314 => (some (t314 == (!t301))))) else (none)))) else (none)) else (if (t306 == t301) = true then ((idset_Inter.f l0 l1).bind fun t315 => ((idset_Has.f k t315 a2).bind fun t318 => (if (t318 == false) = true then ((idset_Minus.f l0 l1).bind fun t319 => ((idset_Has.f k t319 a2).bind fun t322 => (some (t322 == false)))) else (none)))) else (none))))) else (none))))) else ((mapsheetslaw04_awake.f k).bind fun t299 => (some t299)))) = some r := h
  clear h
  replace H := Option.bind_eq_some_iff.mp H
  obtain ⟨t298, A40, H⟩ := H
  replace H : (if t298 = true then ((idset_Has.f k l0 a2).bind fun t300 => ((idset_Has.f k l1 a2).bind fun t301 => ((mapsheetslaw04_awake.f k).bind fun t302 => (if t302 = true then ((idset_Union.f l0 l1).bind fun t303 => ((idset_Has.f k t303 a2).bind fun t306 => (if t300 = true then (if (t306 == true) = true then ((idset_Inter.f l0 l1).bind fun t307 => ((idset_Has.f k t307 a2).bind fun t310 => (if (t310 == t301) = true then ((idset_Minus.f l0 l1).bind fun t311 => ((idset_Has.f k t311 a2).bind fun t314 => (some (t314 == (!t301))))) else (none)))) else (none)) else (if (t306 == t301) = true then ((idset_Inter.f l0 l1).bind fun t315 => ((idset_Has.f k t315 a2).bind fun t318 => (if (t318 == false) = true then ((idset_Minus.f l0 l1).bind fun t319 => ((idset_Has.f k t319 a2).bind fun t322 => (some (t322 == false)))) else (none)))) else (none))))) else (none))))) else ((mapsheetslaw04_awake.f k).bind fun t299 => (some t299))) = some r := H
  have A4 := Aside0.mk A40
  clear A40
  by_cases c5 : t298 = true
  · subst c5
    have H1 : ((idset_Has.f k l0 a2).bind fun t300 => ((idset_Has.f k l1 a2).bind fun t301 => ((mapsheetslaw04_awake.f k).bind fun t302 => (if t302 = true then ((idset_Union.f l0 l1).bind fun t303 => ((idset_Has.f k t303 a2).bind fun t306 => (if t300 = true then (if (t306 == true) = true then ((idset_Inter.f l0 l1).bind fun t307 => ((idset_Has.f k t307 a2).bind fun t310 => (if (t310 == t301) = true then ((idset_Minus.f l0 l1).bind fun t311 => ((idset_Has.f k t311 a2).bind fun t314 => (some (t314 == (!t301))))) else (none)))) else (none)) else (if (t306 == t301) = true then ((idset_Inter.f l0 l1).bind fun t315 => ((idset_Has.f k t315 a2).bind fun t318 => (if (t318 == false) = true then ((idset_Minus.f l0 l1).bind fun t319 => ((idset_Has.f k t319 a2).bind fun t322 => (some (t322 == false)))) else (none)))) else (none))))) else (none))))) = some r := by rw [if_pos rfl] at H; exact H
    clear H
    have H := H1
    clear H1
    replace H := Option.bind_eq_some_iff.mp H
    obtain ⟨t300, A60, H⟩ := H
    replace H : ((idset_Has.f k l1 a2).bind fun t301 => ((mapsheetslaw04_awake.f k).bind fun t302 => (if t302 = true then ((idset_Union.f l0 l1).bind fun t303 => ((idset_Has.f k t303 a2).bind fun t306 => (if t300 = true then (if (t306 == true) = true then ((idset_Inter.f l0 l1).bind fun t307 => ((idset_Has.f k t307 a2).bind fun t310 => (if (t310 == t301) = true then ((idset_Minus.f l0 l1).bind fun t311 => ((idset_Has.f k t311 a2).bind fun t314 => (some (t314 == (!t301))))) else (none)))) else (none)) else (if (t306 == t301) = true then ((idset_Inter.f l0 l1).bind fun t315 => ((idset_Has.f k t315 a2).bind fun t318 => (if (t318 == false) = true then ((idset_Minus.f l0 l1).bind fun t319 => ((idset_Has.f k t319 a2).bind fun t322 => (some (t322 == false)))) else (none)))) else (none))))) else (none)))) = some r := H
    have A6 := Aside0.mk A60
    clear A60
    replace H := Option.bind_eq_some_iff.mp H
    obtain ⟨t301, A70, H⟩ := H
    replace H : ((mapsheetslaw04_awake.f k).bind fun t302 => (if t302 = true then ((idset_Union.f l0 l1).bind fun t303 => ((idset_Has.f k t303 a2).bind fun t306 => (if t300 = true then (if (t306 == true) = true then ((idset_Inter.f l0 l1).bind fun t307 => ((idset_Has.f k t307 a2).bind fun t310 => (if (t310 == t301) = true then ((idset_Minus.f l0 l1).bind fun t311 => ((idset_Has.f k t311 a2).bind fun t314 => (some (t314 == (!t301))))) else (none)))) else (none)) else (if (t306 == t301) = true then ((idset_Inter.f l0 l1).bind fun t315 => ((idset_Has.f k t315 a2).bind fun t318 => (if (t318 == false) = true then ((idset_Minus.f l0 l1).bind fun t319 => ((idset_Has.f k t319 a2).bind fun t322 => (some (t322 == false)))) else (none)))) else (none))))) else (none))) = some r := H
    have A7 := Aside0.mk A70
    clear A70
    replace H := Option.bind_eq_some_iff.mp H
    obtain ⟨t302, A80, H⟩ := H
    replace H : (if t302 = true then ((idset_Union.f l0 l1).bind fun t303 => ((idset_Has.f k t303 a2).bind fun t306 => (if t300 = true then (if (t306 == true) = true then ((idset_Inter.f l0 l1).bind fun t307 => ((idset_Has.f k t307 a2).bind fun t310 => (if (t310 == t301) = true then ((idset_Minus.f l0 l1).bind fun t311 => ((idset_Has.f k t311 a2).bind fun t314 => (some (t314 == (!t301))))) else (none)))) else (none)) else (if (t306 == t301) = true then ((idset_Inter.f l0 l1).bind fun t315 => ((idset_Has.f k t315 a2).bind fun t318 => (if (t318 == false) = true then ((idset_Minus.f l0 l1).bind fun t319 => ((idset_Has.f k t319 a2).bind fun t322 => (some (t322 == false)))) else (none)))) else (none))))) else (none)) = some r := H
    have A8 := Aside0.mk A80
    clear A80
    by_cases c9 : t302 = true
    · subst c9
      have H1 : ((idset_Union.f l0 l1).bind fun t303 => ((idset_Has.f k t303 a2).bind fun t306 => (if t300 = true then (if (t306 == true) = true then ((idset_Inter.f l0 l1).bind fun t307 => ((idset_Has.f k t307 a2).bind fun t310 => (if (t310 == t301) = true then ((idset_Minus.f l0 l1).bind fun t311 => ((idset_Has.f k t311 a2).bind fun t314 => (some (t314 == (!t301))))) else (none)))) else (none)) else (if (t306 == t301) = true then ((idset_Inter.f l0 l1).bind fun t315 => ((idset_Has.f k t315 a2).bind fun t318 => (if (t318 == false) = true then ((idset_Minus.f l0 l1).bind fun t319 => ((idset_Has.f k t319 a2).bind fun t322 => (some (t322 == false)))) else (none)))) else (none))))) = some r := by rw [if_pos rfl] at H; exact H
      clear H
      have H := H1
      clear H1
      replace H := Option.bind_eq_some_iff.mp H
      obtain ⟨t303, A100, H⟩ := H
      replace H : ((idset_Has.f k t303 a2).bind fun t306 => (if t300 = true then (if (t306 == true) = true then ((idset_Inter.f l0 l1).bind fun t307 => ((idset_Has.f k t307 a2).bind fun t310 => (if (t310 == t301) = true then ((idset_Minus.f l0 l1).bind fun t311 => ((idset_Has.f k t311 a2).bind fun t314 => (some (t314 == (!t301))))) else (none)))) else (none)) else (if (t306 == t301) = true then ((idset_Inter.f l0 l1).bind fun t315 => ((idset_Has.f k t315 a2).bind fun t318 => (if (t318 == false) = true then ((idset_Minus.f l0 l1).bind fun t319 => ((idset_Has.f k t319 a2).bind fun t322 => (some (t322 == false)))) else (none)))) else (none)))) = some r := H
      have A10 := Aside0.mk A100
      clear A100
      replace H := Option.bind_eq_some_iff.mp H
      obtain ⟨t306, A110, H⟩ := H
      replace H : (if t300 = true then (if (t306 == true) = true then ((idset_Inter.f l0 l1).bind fun t307 => ((idset_Has.f k t307 a2).bind fun t310 => (if (t310 == t301) = true then ((idset_Minus.f l0 l1).bind fun t311 => ((idset_Has.f k t311 a2).bind fun t314 => (some (t314 == (!t301))))) else (none)))) else (none)) else (if (t306 == t301) = true then ((idset_Inter.f l0 l1).bind fun t315 => ((idset_Has.f k t315 a2).bind fun t318 => (if (t318 == false) = true then ((idset_Minus.f l0 l1).bind fun t319 => ((idset_Has.f k t319 a2).bind fun t322 => (some (t322 == false)))) else (none)))) else (none))) = some r := H
      have A11 := Aside0.mk A110
      clear A110
      by_cases c12 : t300 = true
      · subst c12
        have H1 : (if (t306 == true) = true then ((idset_Inter.f l0 l1).bind fun t307 => ((idset_Has.f k t307 a2).bind fun t310 => (if (t310 == t301) = true then ((idset_Minus.f l0 l1).bind fun t311 => ((idset_Has.f k t311 a2).bind fun t314 => (some (t314 == (!t301))))) else (none)))) else (none)) = some r := by rw [if_pos rfl] at H; exact H
        clear H
        have H := H1
        clear H1
        by_cases c13 : (t306 == true) = true
        · rw [if_pos c13] at H
          have c13b0 : (t306 == true) = true := c13
          (try (have c13b1 : decide (t306 = true) = true := by simpa using c13))
          (try (have c13b2 : (t306 == true) = true := by simpa using c13))
          clear c13
          replace H := Option.bind_eq_some_iff.mp H
          obtain ⟨t307, A140, H⟩ := H
          replace H : ((idset_Has.f k t307 a2).bind fun t310 => (if (t310 == t301) = true then ((idset_Minus.f l0 l1).bind fun t311 => ((idset_Has.f k t311 a2).bind fun t314 => (some (t314 == (!t301))))) else (none))) = some r := H
          have A14 := Aside0.mk A140
          clear A140
          replace H := Option.bind_eq_some_iff.mp H
          obtain ⟨t310, A150, H⟩ := H
          replace H : (if (t310 == t301) = true then ((idset_Minus.f l0 l1).bind fun t311 => ((idset_Has.f k t311 a2).bind fun t314 => (some (t314 == (!t301))))) else (none)) = some r := H
          have A15 := Aside0.mk A150
          clear A150
          by_cases c16 : (t310 == t301) = true
          · rw [if_pos c16] at H
            have c16b0 : (t310 == t301) = true := c16
            (try (have c16b1 : decide (t310 = t301) = true := by simpa using c16))
            (try (have c16b2 : (t310 == t301) = true := by simpa using c16))
            clear c16
            replace H := Option.bind_eq_some_iff.mp H
            obtain ⟨t311, A170, H⟩ := H
            replace H : ((idset_Has.f k t311 a2).bind fun t314 => (some (t314 == (!t301)))) = some r := H
            have A17 := Aside0.mk A170
            clear A170
            replace H := Option.bind_eq_some_iff.mp H
            obtain ⟨t314, A180, H⟩ := H
            replace H : (some (t314 == (!t301))) = some r := H
            have A18 := Aside0.mk A180
            clear A180
            obtain rfl := Option.some.inj H
            go_enter Try.func6, Try.ntmps6
            go_wp2_with (first | ((with_reducible refine gate_callee (f := 9) rfl ?_); refine goesL_ (some 11) rfl rfl Try.func9 (by kernel_rfl) rfl #[.slice A0 l0.length c0, .slice A1 l1.length c1, .slice none 0 0] rfl (by (try simp only [List.map_toArray, List.map_cons, List.map_nil]); first | done | rfl | (simp only [List.length_drop, List.length_take]; rfl)) ?_; (refine (mapsheetslaw04_few.calls _ _ l0 _ _ l1 _ _ ([] : List Int) true _ ?side1 ?side2 ?side3 ?side4 ?side5 ?side6 A4.out).mono ?_); (case side1 => repeat (first | exact HR0.out | (with_reducible refine Kd.C_alloc ?_ _) | (with_reducible refine Kd.C_drewN ?_ _) | (with_reducible refine Kd.C_drew ?_))); (case side2 => exact HC0.out); (case side3 => repeat (first | exact HR1.out | (with_reducible refine Kd.C_alloc ?_ _) | (with_reducible refine Kd.C_drewN ?_ _) | (with_reducible refine Kd.C_drew ?_))); (case side4 => exact HC1.out); (case side5 => exact Kd.C_nil _ _); (case side6 => exact Nat.le_refl _); rintro e w' ⟨rfl, ⟨nd, rfl⟩⟩; refine ⟨_, rfl, ?_⟩) | ((with_reducible refine gate_callee (f := 13) rfl ?_); refine goesL_ (some 16) rfl rfl Try.func13 (by kernel_rfl) rfl #[.slice A0 l0.length c0, .int .i64 a2] rfl (by (try simp only [List.map_toArray, List.map_cons, List.map_nil]); first | done | rfl | (simp only [List.length_drop, List.length_take]; rfl)) ?_; (with_reducible refine (idset_Has.calls k _ _ l0 a2 true _ ?side1 ?side2 A6.out).mono ?_); (case side1 => repeat (first | exact HR0.out | (with_reducible refine Kd.C_alloc ?_ _) | (with_reducible refine Kd.C_drewN ?_ _) | (with_reducible refine Kd.C_drew ?_))); (case side2 => exact HC0.out); rintro e w' ⟨rfl, ⟨nd, rfl⟩⟩; refine ⟨_, rfl, ?_⟩) | ((with_reducible refine gate_callee (f := 13) rfl ?_); refine goesL_ (some 19) rfl rfl Try.func13 (by kernel_rfl) rfl #[.slice A1 l1.length c1, .int .i64 a2] rfl (by (try simp only [List.map_toArray, List.map_cons, List.map_nil]); first | done | rfl | (simp only [List.length_drop, List.length_take]; rfl)) ?_; (with_reducible refine (idset_Has.calls k _ _ l1 a2 t301 _ ?side1 ?side2 A7.out).mono ?_); (case side1 => repeat (first | exact HR1.out | (with_reducible refine Kd.C_alloc ?_ _) | (with_reducible refine Kd.C_drewN ?_ _) | (with_reducible refine Kd.C_drew ?_))); (case side2 => exact HC1.out); rintro e w' ⟨rfl, ⟨nd, rfl⟩⟩; refine ⟨_, rfl, ?_⟩) | ((with_reducible refine gate_callee (f := 10) rfl ?_); refine goesL_ (some 20) rfl rfl Try.func10 (by kernel_rfl) rfl #[] rfl (by (try simp only [List.map_toArray, List.map_cons, List.map_nil]); first | done | rfl | (simp only [List.length_drop, List.length_take]; rfl)) ?_; (with_reducible refine (mapsheetslaw04_awake.calls k  true _ A8.out).mono ?_); rintro e w19 ⟨rfl, hb⟩; refine ⟨_, rfl, ?_⟩; have n0_ := Aside0.mk (below_step (by repeat (first | (with_reducible first | exact HB.out | apply below_alloc | apply pw_below_drewN | apply below_drew1) | exact HB.out)) hb); clear HB; have HB := n0_; clear n0_; (try clear hb); (try clear hb2); (try clear hk); (try clear hi)) | (go_at_call 18; (with_reducible refine (idset_Union.calls (fun k_ => k_ < w.heap.size) _ _ l0 (fun k_ => k_ < w.heap.size) _ _ l1 t303 _ ?side1 ?side2 A10.out).mono ?_); (case side1 => exact Kd.V_mk HC0.out (Kd.F_below (Kd.C_F (Kd.heap_int .i64) HR0.out) (by repeat (first | (with_reducible first | exact HB.out | apply below_alloc | apply pw_below_drewN | apply below_drew1) | exact HB.out)))); (case side2 => exact Kd.V_mk HC1.out (Kd.F_below (Kd.C_F (Kd.heap_int .i64) HR1.out) (by repeat (first | (with_reducible first | exact HB.out | apply below_alloc | apply pw_below_drewN | apply below_drew1) | exact HB.out)))); rintro e w20 ⟨v304, rfl, ho0, hb⟩; have n0_ := Aside0.mk (Kd.R_lower (Kd.R_mono (ok' := fun k_ => True) ho0 (fun _ hk_ => trivial)) (below_size (by repeat (first | (with_reducible first | exact HB.out | apply below_alloc | apply pw_below_drewN | apply below_drew1) | exact HB.out)))); have n1_ := Aside0.mk (below_step (by repeat (first | (with_reducible first | exact HB.out | apply below_alloc | apply pw_below_drewN | apply below_drew1) | exact HB.out)) hb); clear HB; have HO305 := n0_; have HB := n1_; clear n0_ n1_; (try clear hb); (try clear hb2); (try clear hk); (try clear hi); (try clear ho0); obtain ⟨Ao21, co21, eo21⟩ := Kd.R_slice HO305.out; subst eo21) | (go_at_call 13; (with_reducible refine (idset_Has.calls k _ _ t303 a2 t306 _ ?side1 ?side2 A11.out).mono ?_); (case side1 => repeat (first | exact (Kd.R_reads' HO305.out).2.2 | (with_reducible refine Kd.C_alloc ?_ _) | (with_reducible refine Kd.C_drewN ?_ _) | (with_reducible refine Kd.C_drew ?_))); (case side2 => exact (Kd.R_reads' HO305.out).2.1); rintro e w' ⟨rfl, ⟨nd, rfl⟩⟩) | (go_at_call 20; (with_reducible refine (idset_Inter.calls _ _ l0 _ _ l1 t307 _ ?side1 ?side2 ?side3 ?side4 A14.out).mono ?_); (case side1 => repeat (first | exact (Kd.C_below HR0.out (by repeat (first | (with_reducible first | exact HB.out | apply below_alloc | apply pw_below_drewN | apply below_drew1) | exact HB.out))) | (with_reducible refine Kd.C_alloc ?_ _) | (with_reducible refine Kd.C_drewN ?_ _) | (with_reducible refine Kd.C_drew ?_))); (case side2 => exact HC0.out); (case side3 => repeat (first | exact (Kd.C_below HR1.out (by repeat (first | (with_reducible first | exact HB.out | apply below_alloc | apply pw_below_drewN | apply below_drew1) | exact HB.out))) | (with_reducible refine Kd.C_alloc ?_ _) | (with_reducible refine Kd.C_drewN ?_ _) | (with_reducible refine Kd.C_drew ?_))); (case side4 => exact HC1.out); rintro e w22 ⟨v308, rfl, ho0, hb⟩; have n0_ := Aside0.mk (Kd.R_elder' (by (with_reducible repeat (first | apply Kd.R_alloc | apply Kd.R_drewN | apply Kd.R_drew)); exact HO305.out) (Kd.R_base ho0) hb); have n1_ := Aside0.mk (Kd.R_lower (Kd.R_new' ho0 (Kd.R_lt (by (with_reducible repeat (first | apply Kd.R_alloc | apply Kd.R_drewN | apply Kd.R_drew)); exact HO305.out))) (below_size (by repeat (first | (with_reducible first | exact HB.out | apply below_alloc | apply pw_below_drewN | apply below_drew1) | exact HB.out)))); have n2_ := Aside0.mk (below_step (by repeat (first | (with_reducible first | exact HB.out | apply below_alloc | apply pw_below_drewN | apply below_drew1) | exact HB.out)) hb); clear HO305; clear HB; have HO305 := n0_; have HO309 := n1_; have HB := n2_; clear n0_ n1_ n2_; (try clear hb); (try clear hb2); (try clear hk); (try clear hi); (try clear ho0); obtain ⟨Ao23, co23, eo23⟩ := Kd.R_slice HO309.out; subst eo23) | (go_at_call 13; (with_reducible refine (idset_Has.calls k _ _ t307 a2 t310 _ ?side1 ?side2 A15.out).mono ?_); (case side1 => repeat (first | exact (Kd.R_reads' HO309.out).2.2 | (with_reducible refine Kd.C_alloc ?_ _) | (with_reducible refine Kd.C_drewN ?_ _) | (with_reducible refine Kd.C_drew ?_))); (case side2 => exact (Kd.R_reads' HO309.out).2.1); rintro e w' ⟨rfl, ⟨nd, rfl⟩⟩) | (go_at_call 22; (with_reducible refine (idset_Minus.calls _ _ l0 _ _ l1 t311 _ ?side1 ?side2 ?side3 ?side4 A17.out).mono ?_); (case side1 => repeat (first | exact (Kd.C_below HR0.out (by repeat (first | (with_reducible first | exact HB.out | apply below_alloc | apply pw_below_drewN | apply below_drew1) | exact HB.out))) | (with_reducible refine Kd.C_alloc ?_ _) | (with_reducible refine Kd.C_drewN ?_ _) | (with_reducible refine Kd.C_drew ?_))); (case side2 => exact HC0.out); (case side3 => repeat (first | exact (Kd.C_below HR1.out (by repeat (first | (with_reducible first | exact HB.out | apply below_alloc | apply pw_below_drewN | apply below_drew1) | exact HB.out))) | (with_reducible refine Kd.C_alloc ?_ _) | (with_reducible refine Kd.C_drewN ?_ _) | (with_reducible refine Kd.C_drew ?_))); (case side4 => exact HC1.out); rintro e w24 ⟨v312, rfl, ho0, hb⟩; have n0_ := Aside0.mk (Kd.R_elder' (by (with_reducible repeat (first | apply Kd.R_alloc | apply Kd.R_drewN | apply Kd.R_drew)); exact HO305.out) (Kd.R_base ho0) hb); have n1_ := Aside0.mk (Kd.R_elder' (by (with_reducible repeat (first | apply Kd.R_alloc | apply Kd.R_drewN | apply Kd.R_drew)); exact HO309.out) (Kd.R_base ho0) hb); have n2_ := Aside0.mk (Kd.R_lower (Kd.R_new' (Kd.R_new' ho0 (Kd.R_lt (by (with_reducible repeat (first | apply Kd.R_alloc | apply Kd.R_drewN | apply Kd.R_drew)); exact HO305.out))) (Kd.R_lt (by (with_reducible repeat (first | apply Kd.R_alloc | apply Kd.R_drewN | apply Kd.R_drew)); exact HO309.out))) (below_size (by repeat (first | (with_reducible first | exact HB.out | apply below_alloc | apply pw_below_drewN | apply below_drew1) | exact HB.out)))); have n3_ := Aside0.mk (below_step (by repeat (first | (with_reducible first | exact HB.out | apply below_alloc | apply pw_below_drewN | apply below_drew1) | exact HB.out)) hb); clear HO305; clear HO309; clear HB; have HO305 := n0_; have HO309 := n1_; have HO313 := n2_; have HB := n3_; clear n0_ n1_ n2_ n3_; (try clear hb); (try clear hb2); (try clear hk); (try clear hi); (try clear ho0); obtain ⟨Ao25, co25, eo25⟩ := Kd.R_slice HO313.out; subst eo25) | (go_at_call 13; (with_reducible refine (idset_Has.calls k _ _ t311 a2 t314 _ ?side1 ?side2 A18.out).mono ?_); (case side1 => repeat (first | exact (Kd.R_reads' HO313.out).2.2 | (with_reducible refine Kd.C_alloc ?_ _) | (with_reducible refine Kd.C_drewN ?_ _) | (with_reducible refine Kd.C_drew ?_))); (case side2 => exact (Kd.R_reads' HO313.out).2.1); rintro e w' ⟨rfl, ⟨nd, rfl⟩⟩))
            go_ret
            exact ⟨by first | rfl | (simp [errW_none, errW_some] <;> rfl) | (simp [*, errW_none, errW_some] <;> rfl), by repeat (first | (with_reducible first | exact HB.out | apply below_alloc | apply pw_below_drewN | apply below_drew1) | exact HB.out)⟩
          · rw [if_neg c16] at H
            exact absurd H (by simp)
        · rw [if_neg c13] at H
          exact absurd H (by simp)
      · replace c12 := Bool.eq_false_iff.mpr c12
        subst c12
        have H1 : (if (t306 == t301) = true then ((idset_Inter.f l0 l1).bind fun t315 => ((idset_Has.f k t315 a2).bind fun t318 => (if (t318 == false) = true then ((idset_Minus.f l0 l1).bind fun t319 => ((idset_Has.f k t319 a2).bind fun t322 => (some (t322 == false)))) else (none)))) else (none)) = some r := by rw [if_neg (show ¬ (false = true) by decide)] at H; exact H
        clear H
        have H := H1
        clear H1
        by_cases c26 : (t306 == t301) = true
        · rw [if_pos c26] at H
          have c26b0 : (t306 == t301) = true := c26
          (try (have c26b1 : decide (t306 = t301) = true := by simpa using c26))
          (try (have c26b2 : (t306 == t301) = true := by simpa using c26))
          clear c26
          replace H := Option.bind_eq_some_iff.mp H
          obtain ⟨t315, A270, H⟩ := H
          replace H : ((idset_Has.f k t315 a2).bind fun t318 => (if (t318 == false) = true then ((idset_Minus.f l0 l1).bind fun t319 => ((idset_Has.f k t319 a2).bind fun t322 => (some (t322 == false)))) else (none))) = some r := H
          have A27 := Aside0.mk A270
          clear A270
          replace H := Option.bind_eq_some_iff.mp H
          obtain ⟨t318, A280, H⟩ := H
          replace H : (if (t318 == false) = true then ((idset_Minus.f l0 l1).bind fun t319 => ((idset_Has.f k t319 a2).bind fun t322 => (some (t322 == false)))) else (none)) = some r := H
          have A28 := Aside0.mk A280
          clear A280
          by_cases c29 : (t318 == false) = true
          · rw [if_pos c29] at H
            have c29b0 : (t318 == false) = true := c29
            (try (have c29b1 : decide (t318 = false) = true := by simpa using c29))
            (try (have c29b2 : (t318 == false) = true := by simpa using c29))
            clear c29
            replace H := Option.bind_eq_some_iff.mp H
            obtain ⟨t319, A300, H⟩ := H
            replace H : ((idset_Has.f k t319 a2).bind fun t322 => (some (t322 == false))) = some r := H
            have A30 := Aside0.mk A300
            clear A300
            replace H := Option.bind_eq_some_iff.mp H
            obtain ⟨t322, A310, H⟩ := H
            replace H : (some (t322 == false)) = some r := H
            have A31 := Aside0.mk A310
            clear A310
            obtain rfl := Option.some.inj H
            go_enter Try.func6, Try.ntmps6
            go_wp2_with (first | ((with_reducible refine gate_callee (f := 9) rfl ?_); refine goesL_ (some 11) rfl rfl Try.func9 (by kernel_rfl) rfl #[.slice A0 l0.length c0, .slice A1 l1.length c1, .slice none 0 0] rfl (by (try simp only [List.map_toArray, List.map_cons, List.map_nil]); first | done | rfl | (simp only [List.length_drop, List.length_take]; rfl)) ?_; (refine (mapsheetslaw04_few.calls _ _ l0 _ _ l1 _ _ ([] : List Int) true _ ?side1 ?side2 ?side3 ?side4 ?side5 ?side6 A4.out).mono ?_); (case side1 => repeat (first | exact HR0.out | (with_reducible refine Kd.C_alloc ?_ _) | (with_reducible refine Kd.C_drewN ?_ _) | (with_reducible refine Kd.C_drew ?_))); (case side2 => exact HC0.out); (case side3 => repeat (first | exact HR1.out | (with_reducible refine Kd.C_alloc ?_ _) | (with_reducible refine Kd.C_drewN ?_ _) | (with_reducible refine Kd.C_drew ?_))); (case side4 => exact HC1.out); (case side5 => exact Kd.C_nil _ _); (case side6 => exact Nat.le_refl _); rintro e w' ⟨rfl, ⟨nd, rfl⟩⟩; refine ⟨_, rfl, ?_⟩) | ((with_reducible refine gate_callee (f := 13) rfl ?_); refine goesL_ (some 16) rfl rfl Try.func13 (by kernel_rfl) rfl #[.slice A0 l0.length c0, .int .i64 a2] rfl (by (try simp only [List.map_toArray, List.map_cons, List.map_nil]); first | done | rfl | (simp only [List.length_drop, List.length_take]; rfl)) ?_; (with_reducible refine (idset_Has.calls k _ _ l0 a2 false _ ?side1 ?side2 A6.out).mono ?_); (case side1 => repeat (first | exact HR0.out | (with_reducible refine Kd.C_alloc ?_ _) | (with_reducible refine Kd.C_drewN ?_ _) | (with_reducible refine Kd.C_drew ?_))); (case side2 => exact HC0.out); rintro e w' ⟨rfl, ⟨nd, rfl⟩⟩; refine ⟨_, rfl, ?_⟩) | ((with_reducible refine gate_callee (f := 13) rfl ?_); refine goesL_ (some 19) rfl rfl Try.func13 (by kernel_rfl) rfl #[.slice A1 l1.length c1, .int .i64 a2] rfl (by (try simp only [List.map_toArray, List.map_cons, List.map_nil]); first | done | rfl | (simp only [List.length_drop, List.length_take]; rfl)) ?_; (with_reducible refine (idset_Has.calls k _ _ l1 a2 t301 _ ?side1 ?side2 A7.out).mono ?_); (case side1 => repeat (first | exact HR1.out | (with_reducible refine Kd.C_alloc ?_ _) | (with_reducible refine Kd.C_drewN ?_ _) | (with_reducible refine Kd.C_drew ?_))); (case side2 => exact HC1.out); rintro e w' ⟨rfl, ⟨nd, rfl⟩⟩; refine ⟨_, rfl, ?_⟩) | ((with_reducible refine gate_callee (f := 10) rfl ?_); refine goesL_ (some 20) rfl rfl Try.func10 (by kernel_rfl) rfl #[] rfl (by (try simp only [List.map_toArray, List.map_cons, List.map_nil]); first | done | rfl | (simp only [List.length_drop, List.length_take]; rfl)) ?_; (with_reducible refine (mapsheetslaw04_awake.calls k  true _ A8.out).mono ?_); rintro e w32 ⟨rfl, hb⟩; refine ⟨_, rfl, ?_⟩; have n0_ := Aside0.mk (below_step (by repeat (first | (with_reducible first | exact HB.out | apply below_alloc | apply pw_below_drewN | apply below_drew1) | exact HB.out)) hb); clear HB; have HB := n0_; clear n0_; (try clear hb); (try clear hb2); (try clear hk); (try clear hi)) | (go_at_call 18; (with_reducible refine (idset_Union.calls (fun k_ => k_ < w.heap.size) _ _ l0 (fun k_ => k_ < w.heap.size) _ _ l1 t303 _ ?side1 ?side2 A10.out).mono ?_); (case side1 => exact Kd.V_mk HC0.out (Kd.F_below (Kd.C_F (Kd.heap_int .i64) HR0.out) (by repeat (first | (with_reducible first | exact HB.out | apply below_alloc | apply pw_below_drewN | apply below_drew1) | exact HB.out)))); (case side2 => exact Kd.V_mk HC1.out (Kd.F_below (Kd.C_F (Kd.heap_int .i64) HR1.out) (by repeat (first | (with_reducible first | exact HB.out | apply below_alloc | apply pw_below_drewN | apply below_drew1) | exact HB.out)))); rintro e w33 ⟨v304, rfl, ho0, hb⟩; have n0_ := Aside0.mk (Kd.R_lower (Kd.R_mono (ok' := fun k_ => True) ho0 (fun _ hk_ => trivial)) (below_size (by repeat (first | (with_reducible first | exact HB.out | apply below_alloc | apply pw_below_drewN | apply below_drew1) | exact HB.out)))); have n1_ := Aside0.mk (below_step (by repeat (first | (with_reducible first | exact HB.out | apply below_alloc | apply pw_below_drewN | apply below_drew1) | exact HB.out)) hb); clear HB; have HO305 := n0_; have HB := n1_; clear n0_ n1_; (try clear hb); (try clear hb2); (try clear hk); (try clear hi); (try clear ho0); obtain ⟨Ao34, co34, eo34⟩ := Kd.R_slice HO305.out; subst eo34) | (go_at_call 13; (with_reducible refine (idset_Has.calls k _ _ t303 a2 t306 _ ?side1 ?side2 A11.out).mono ?_); (case side1 => repeat (first | exact (Kd.R_reads' HO305.out).2.2 | (with_reducible refine Kd.C_alloc ?_ _) | (with_reducible refine Kd.C_drewN ?_ _) | (with_reducible refine Kd.C_drew ?_))); (case side2 => exact (Kd.R_reads' HO305.out).2.1); rintro e w' ⟨rfl, ⟨nd, rfl⟩⟩) | (go_at_call 20; (with_reducible refine (idset_Inter.calls _ _ l0 _ _ l1 t315 _ ?side1 ?side2 ?side3 ?side4 A27.out).mono ?_); (case side1 => repeat (first | exact (Kd.C_below HR0.out (by repeat (first | (with_reducible first | exact HB.out | apply below_alloc | apply pw_below_drewN | apply below_drew1) | exact HB.out))) | (with_reducible refine Kd.C_alloc ?_ _) | (with_reducible refine Kd.C_drewN ?_ _) | (with_reducible refine Kd.C_drew ?_))); (case side2 => exact HC0.out); (case side3 => repeat (first | exact (Kd.C_below HR1.out (by repeat (first | (with_reducible first | exact HB.out | apply below_alloc | apply pw_below_drewN | apply below_drew1) | exact HB.out))) | (with_reducible refine Kd.C_alloc ?_ _) | (with_reducible refine Kd.C_drewN ?_ _) | (with_reducible refine Kd.C_drew ?_))); (case side4 => exact HC1.out); rintro e w35 ⟨v316, rfl, ho0, hb⟩; have n0_ := Aside0.mk (Kd.R_elder' (by (with_reducible repeat (first | apply Kd.R_alloc | apply Kd.R_drewN | apply Kd.R_drew)); exact HO305.out) (Kd.R_base ho0) hb); have n1_ := Aside0.mk (Kd.R_lower (Kd.R_new' ho0 (Kd.R_lt (by (with_reducible repeat (first | apply Kd.R_alloc | apply Kd.R_drewN | apply Kd.R_drew)); exact HO305.out))) (below_size (by repeat (first | (with_reducible first | exact HB.out | apply below_alloc | apply pw_below_drewN | apply below_drew1) | exact HB.out)))); have n2_ := Aside0.mk (below_step (by repeat (first | (with_reducible first | exact HB.out | apply below_alloc | apply pw_below_drewN | apply below_drew1) | exact HB.out)) hb); clear HO305; clear HB; have HO305 := n0_; have HO317 := n1_; have HB := n2_; clear n0_ n1_ n2_; (try clear hb); (try clear hb2); (try clear hk); (try clear hi); (try clear ho0); obtain ⟨Ao36, co36, eo36⟩ := Kd.R_slice HO317.out; subst eo36) | (go_at_call 13; (with_reducible refine (idset_Has.calls k _ _ t315 a2 t318 _ ?side1 ?side2 A28.out).mono ?_); (case side1 => repeat (first | exact (Kd.R_reads' HO317.out).2.2 | (with_reducible refine Kd.C_alloc ?_ _) | (with_reducible refine Kd.C_drewN ?_ _) | (with_reducible refine Kd.C_drew ?_))); (case side2 => exact (Kd.R_reads' HO317.out).2.1); rintro e w' ⟨rfl, ⟨nd, rfl⟩⟩) | (go_at_call 22; (with_reducible refine (idset_Minus.calls _ _ l0 _ _ l1 t319 _ ?side1 ?side2 ?side3 ?side4 A30.out).mono ?_); (case side1 => repeat (first | exact (Kd.C_below HR0.out (by repeat (first | (with_reducible first | exact HB.out | apply below_alloc | apply pw_below_drewN | apply below_drew1) | exact HB.out))) | (with_reducible refine Kd.C_alloc ?_ _) | (with_reducible refine Kd.C_drewN ?_ _) | (with_reducible refine Kd.C_drew ?_))); (case side2 => exact HC0.out); (case side3 => repeat (first | exact (Kd.C_below HR1.out (by repeat (first | (with_reducible first | exact HB.out | apply below_alloc | apply pw_below_drewN | apply below_drew1) | exact HB.out))) | (with_reducible refine Kd.C_alloc ?_ _) | (with_reducible refine Kd.C_drewN ?_ _) | (with_reducible refine Kd.C_drew ?_))); (case side4 => exact HC1.out); rintro e w37 ⟨v320, rfl, ho0, hb⟩; have n0_ := Aside0.mk (Kd.R_elder' (by (with_reducible repeat (first | apply Kd.R_alloc | apply Kd.R_drewN | apply Kd.R_drew)); exact HO305.out) (Kd.R_base ho0) hb); have n1_ := Aside0.mk (Kd.R_elder' (by (with_reducible repeat (first | apply Kd.R_alloc | apply Kd.R_drewN | apply Kd.R_drew)); exact HO317.out) (Kd.R_base ho0) hb); have n2_ := Aside0.mk (Kd.R_lower (Kd.R_new' (Kd.R_new' ho0 (Kd.R_lt (by (with_reducible repeat (first | apply Kd.R_alloc | apply Kd.R_drewN | apply Kd.R_drew)); exact HO305.out))) (Kd.R_lt (by (with_reducible repeat (first | apply Kd.R_alloc | apply Kd.R_drewN | apply Kd.R_drew)); exact HO317.out))) (below_size (by repeat (first | (with_reducible first | exact HB.out | apply below_alloc | apply pw_below_drewN | apply below_drew1) | exact HB.out)))); have n3_ := Aside0.mk (below_step (by repeat (first | (with_reducible first | exact HB.out | apply below_alloc | apply pw_below_drewN | apply below_drew1) | exact HB.out)) hb); clear HO305; clear HO317; clear HB; have HO305 := n0_; have HO317 := n1_; have HO321 := n2_; have HB := n3_; clear n0_ n1_ n2_ n3_; (try clear hb); (try clear hb2); (try clear hk); (try clear hi); (try clear ho0); obtain ⟨Ao38, co38, eo38⟩ := Kd.R_slice HO321.out; subst eo38) | (go_at_call 13; (with_reducible refine (idset_Has.calls k _ _ t319 a2 t322 _ ?side1 ?side2 A31.out).mono ?_); (case side1 => repeat (first | exact (Kd.R_reads' HO321.out).2.2 | (with_reducible refine Kd.C_alloc ?_ _) | (with_reducible refine Kd.C_drewN ?_ _) | (with_reducible refine Kd.C_drew ?_))); (case side2 => exact (Kd.R_reads' HO321.out).2.1); rintro e w' ⟨rfl, ⟨nd, rfl⟩⟩))
            go_ret
            exact ⟨by first | rfl | (simp [errW_none, errW_some] <;> rfl) | (simp [*, errW_none, errW_some] <;> rfl), by repeat (first | (with_reducible first | exact HB.out | apply below_alloc | apply pw_below_drewN | apply below_drew1) | exact HB.out)⟩
          · rw [if_neg c29] at H
            exact absurd H (by simp)
        · rw [if_neg c26] at H
          exact absurd H (by simp)
    · replace c9 := Bool.eq_false_iff.mpr c9
      subst c9
      have H1 : (none) = some r := by rw [if_neg (show ¬ (false = true) by decide)] at H; exact H
      clear H
      have H := H1
      clear H1
      exact absurd H (by simp)
  · replace c5 := Bool.eq_false_iff.mpr c5
    subst c5
    have H1 : ((mapsheetslaw04_awake.f k).bind fun t299 => (some t299)) = some r := by rw [if_neg (show ¬ (false = true) by decide)] at H; exact H
    clear H
    have H := H1
    clear H1
    replace H := Option.bind_eq_some_iff.mp H
    obtain ⟨t299, A390, H⟩ := H
    replace H : (some t299) = some r := H
    have A39 := Aside0.mk A390
    clear A390
    obtain rfl := Option.some.inj H
    go_enter Try.func6, Try.ntmps6
    go_wp2_with (first | ((with_reducible refine gate_callee (f := 9) rfl ?_); refine goesL_ (some 11) rfl rfl Try.func9 (by kernel_rfl) rfl #[.slice A0 l0.length c0, .slice A1 l1.length c1, .slice none 0 0] rfl (by (try simp only [List.map_toArray, List.map_cons, List.map_nil]); first | done | rfl | (simp only [List.length_drop, List.length_take]; rfl)) ?_; (refine (mapsheetslaw04_few.calls _ _ l0 _ _ l1 _ _ ([] : List Int) false _ ?side1 ?side2 ?side3 ?side4 ?side5 ?side6 A4.out).mono ?_); (case side1 => repeat (first | exact HR0.out | (with_reducible refine Kd.C_alloc ?_ _) | (with_reducible refine Kd.C_drewN ?_ _) | (with_reducible refine Kd.C_drew ?_))); (case side2 => exact HC0.out); (case side3 => repeat (first | exact HR1.out | (with_reducible refine Kd.C_alloc ?_ _) | (with_reducible refine Kd.C_drewN ?_ _) | (with_reducible refine Kd.C_drew ?_))); (case side4 => exact HC1.out); (case side5 => exact Kd.C_nil _ _); (case side6 => exact Nat.le_refl _); rintro e w' ⟨rfl, ⟨nd, rfl⟩⟩; refine ⟨_, rfl, ?_⟩) | ((with_reducible refine gate_callee (f := 10) rfl ?_); refine goesL_ (some 13) rfl rfl Try.func10 (by kernel_rfl) rfl #[] rfl (by (try simp only [List.map_toArray, List.map_cons, List.map_nil]); first | done | rfl | (simp only [List.length_drop, List.length_take]; rfl)) ?_; (with_reducible refine (mapsheetslaw04_awake.calls k  t299 _ A39.out).mono ?_); rintro e w40 ⟨rfl, hb⟩; refine ⟨_, rfl, ?_⟩; have n0_ := Aside0.mk (below_step (by repeat (first | (with_reducible first | exact HB.out | apply below_alloc | apply pw_below_drewN | apply below_drew1) | exact HB.out)) hb); clear HB; have HB := n0_; clear n0_; (try clear hb); (try clear hb2); (try clear hk); (try clear hi)))
    go_ret
    exact ⟨by first | rfl | (simp [errW_none, errW_some] <;> rfl) | (simp [*, errW_none, errW_some] <;> rfl), by repeat (first | (with_reducible first | exact HB.out | apply below_alloc | apply pw_below_drewN | apply below_drew1) | exact HB.out)⟩

/-- THE ONE PURE STATEMENT of mapsheetslaw04_IdsetMembers: yours. -/
def mapsheetslaw04_IdsetMembers.Pure : Prop := ∀ (l0 : List Int) (l1 : List Int) (a2 : Int), l0.length ≤ maxLen → l0.length * 8 ≤ 140737488351232 → (∀ x ∈ l0, (Lit.int .i64 x).wf = true) → l1.length ≤ maxLen → l1.length * 8 ≤ 140737488351232 → (∀ x ∈ l1, (Lit.int .i64 x).wf = true) → (Lit.int .i64 a2).wf = true → ∃ k, mapsheetslaw04_IdsetMembers.f k l0 l1 a2 = some true
theorem mapsheetslaw04_IdsetMembers.walk (P : mapsheetslaw04_IdsetMembers.Pure) (a0 : Option Addr) (len0 cap0 : Nat) (z0 : List Int) (a1 : Option Addr) (len1 cap1 : Nat) (z1 : List Int) (a2 : Int) (w : World) (w0 : (a0 = none ∧ len0 = 0 ∧ cap0 = 0 ∧ z0 = []) ∨ ∃ x, a0 = some x ∧ len0 ≤ cap0 ∧ cap0 ≤ maxLen ∧ z0.length = cap0 ∧ (∀ i, i < z0.length → w.cell? (x.add i) = some (.int .i64 (z0.getD i 0))) ∧ ∀ n ∈ z0, (Lit.int .i64 n).wf = true) (y0 : len0 * 8 ≤ 140737488351232) (w1 : (a1 = none ∧ len1 = 0 ∧ cap1 = 0 ∧ z1 = []) ∨ ∃ x, a1 = some x ∧ len1 ≤ cap1 ∧ cap1 ≤ maxLen ∧ z1.length = cap1 ∧ (∀ i, i < z1.length → w.cell? (x.add i) = some (.int .i64 (z1.getD i 0))) ∧ ∀ n ∈ z1, (Lit.int .i64 n).wf = true) (y1 : len1 * 8 ≤ 140737488351232) (w2 : (Lit.int .i64 a2).wf = true) :
    Calls Try.prog 6 #[.slice a0 len0 cap0, .slice a1 len1 cap1, .int .i64 a2] w fun e w' => e = .returned (.bool true) ∧ Below w.heap.size w w' := by
  obtain ⟨l0, rfl, hr0, hm0, hw0, hc0⟩ := ReadsInt.ofRowC w0
  obtain ⟨l1, rfl, hr1, hm1, hw1, hc1⟩ := ReadsInt.ofRowC w1
  obtain ⟨k, h⟩ := P l0 l1 a2 hm0 y0 hw0 hm1 y1 hw1 w2
  refine (mapsheetslaw04_IdsetMembers.calls k _ _ l0 _ _ l1 a2 true w (Kd.C_of_reads (d := (0 : Int)) (h1 := fun _ => rfl) hr0) hc0 (Kd.C_of_reads (d := (0 : Int)) (h1 := fun _ => rfl) hr1) hc1 h).mono ?_
  rintro e w' ⟨rfl, hd⟩
  exact ⟨rfl, hd⟩

end Go.Proofs.Ytjdijlijojembaa.PA
