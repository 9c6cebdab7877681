-- Written by wip/pp.py of this repository, on the kit's print program. Not trusted: Lean checks it.
import Derived.Test.YtoopfdamdghbmaaPAx0
import Derived.Test.YtoopfdamdghbmaaPAx1
import Derived.Test.YtoopfdamdghbmaaPAx3
namespace Go.Proofs.Ytoopfdamdghbmaa.PA
open Go.RowKit Go.Proofs.YtoopfdamdghbmaaW.PrintWords Go.Proofs.YtoopfdamdghbmaaW.PrintLast Go.Proofs.YtoopfdamdghbmaaW.PrintMore
attribute [local go_sem] max2_int min2_int max_two min_two max_three min_three max_four min_four   -- for this text's walks alone
set_option linter.unusedVariables false
set_option linter.unusedSimpArgs false

/-! ### vclock_Cmp: function 20 -/
def anyLt (F G : Nat → Int) : Nat → Bool
  | 0 => false
  | k + 1 => anyLt F G k || decide (F k < G k)
def cmpOf (F G : Nat → Int) : Int × Bool := match anyLt F G 8, anyLt G F 8 with
  | true, true => (0, false)
  | true, false => (-1, true)
  | false, true => (1, true)
  | false, false => (0, true)
def vclock_Cmp.f (l0 l1 : List Int) : Option (Int × Bool) := some (cmpOf (cnt l0) (cnt l1))
set_option maxHeartbeats 1000000 in
theorem vclock_Cmp.calls (A0_0 : Option Addr) (c0_0 : Nat) (l0_0 : List Int) (A1_0 : Option Addr) (c1_0 : Nat) (l1_0 : List Int) (r1 : Int) (r2 : Bool) (w : World) (hr0_0 : Kd.C (Kd.int .i64) w A0_0 l0_0.length l0_0) (hc0_0 : l0_0.length ≤ c0_0) (hr1_0 : Kd.C (Kd.int .i64) w A1_0 l1_0.length l1_0) (hc1_0 : l1_0.length ≤ c1_0) (h : vclock_Cmp.f l0_0 l1_0 = some (r1, r2)) :
    Calls Try.prog 20 #[.agg #[.slice A0_0 l0_0.length c0_0], .agg #[.slice A1_0 l1_0.length c1_0]] w fun e w' => e = .returned (.tuple #[.int .i64 r1, .bool r2]) ∧ Below w.heap.size w w' := by
  unfold vclock_Cmp.f at h
  injection h with h
  have HH := Aside0.mk h
  have HR0 := Aside0.mk hr0_0
  have HC0 := Aside0.mk hc0_0
  have HR1 := Aside0.mk hr1_0
  have HC1 := Aside0.mk hc1_0
  have hb3 := boxes2 w #[.slice A0_0 l0_0.length c0_0] #[.slice A1_0 l1_0.length c1_0] 27 27
  clear h hr0_0 hc0_0 hr1_0 hc1_0
  go_enter Try.func20, Try.ntmps20
  go_upto_region 1 with fail
  generalize (w.alloc (.cells #[.slice A0_0 l0_0.length c0_0] 27 (0, 0))).alloc (.cells #[.slice A1_0 l1_0.length c1_0] 27 (0, 0)) = wa at hb3 ⊢
  obtain ⟨hg1, hg2, hbw, hsz⟩ := hb3
  generalize hg_ : w.heap.size = g at hg1 hg2 hsz
  have HG1 := Aside0.mk hg1
  have HG2 := Aside0.mk hg2
  have HB := Aside0.mk hbw
  have HS := Aside0.mk hsz
  have HGE := Aside0.mk hg_
  clear hg1 hg2 hbw hsz hg_
  go_cut [6, 7] (fun v6 v7 wc => ∃ g5 g6 : Nat, v6 = .pointer (some ⟨g5, 0, none⟩) ∧ v7 = .pointer (some ⟨g6, 0, none⟩) ∧ wa.heap.size ≤ g5 ∧ wa.heap.size ≤ g6 ∧ g5 ≠ g6 ∧ ArrAt wc g5 (cnt l0_0) ∧ ArrAt wc g6 (cnt l1_0) ∧ Below wa.heap.size wa wc)
  case first =>
    refine wp_region_inv (PairI (fun s5 s6 s8 s9 s10 s11 => { tmps := #[Value.agg #[Value.slice A0_0 l0_0.length c0_0], Value.agg #[Value.slice A1_0 l1_0.length c1_0], Value.pointer (some ⟨g, 0, none⟩), Value.pointer (some ⟨g + 1, 0, none⟩), Value.int .i64 0, Value.bool false, s5, s6, undef, undef, undef, s8, s9, s10, s11, undef, undef, undef, undef, undef, undef, undef, undef, undef, undef, undef, undef, undef, undef, undef, undef, undef, undef, undef, undef, undef, undef, undef, undef, undef, undef, undef, undef, undef, undef, undef, undef, undef], defers := [] }) wa (.agg #[.slice A0_0 l0_0.length c0_0]) (.agg #[.slice A1_0 l1_0.length c1_0]) (cnt l0_0) (cnt l1_0)) (by kernel_rfl) (by kernel_rfl) ?_ ?_ ?_
    · exact ⟨_, _, _, _, _, _, rfl, below_drew (Below.refl _ _), fun h => h.elim, fun h => h.elim, fun h => h.elim, fun h => h.elim, fun h => h.elim, fun h => h.elim, fun h => h.elim, fun h => h.elim, fun h => h.elim⟩
    · rintro D a w1 ⟨s5, s6, s8, s9, s10, s11, rfl, hb, h0, h1, h2, h3, h4, h5, h56, h64, h75⟩ hall
      have d4 := hall 4 (by decide)
      have d5 := hall 5 (by decide)
      obtain ⟨g5, H5, rfl, hl5, ha5, hf5⟩ := h4 d4
      obtain ⟨g6, H6, rfl, hl6, ha6, hf6⟩ := h5 d5
      have e5 := hf5 (hall 6 (by decide))
      have e6 := hf6 (hall 7 (by decide))
      subst e5 e6
      (try dsimp only [])
      go_wp2_with fail
      go_meet
      exact ⟨g5, g6, rfl, rfl, hl5, hl6, fun e => h56 d4 d5 (by rw [e]), ha5, ha6, hb⟩
    · rintro D a w1 i o ⟨s5, s6, s8, s9, s10, s11, rfl, hb, h0, h1, h2, h3, h4, h5, h56, h64, h75⟩ ho hni hall
      have qa : w1.cell? ⟨g, 0, none⟩ = some (.slice A0_0 l0_0.length c0_0) := (blk_cell (blk_below HG1.out hb) 0).trans rfl
      have qb : w1.cell? ⟨g + 1, 0, none⟩ = some (.slice A1_0 l1_0.length c1_0) := (blk_cell (blk_below HG2.out hb) 0).trans rfl
      have hwb := below_step HB.out hb
      rcases i with _ | _ | _ | _ | _ | _ | _ | _ | i
      all_goals (simp only [List.getElem?_toArray, List.getElem?_cons_zero, List.getElem?_cons_succ, Option.some.injEq] at ho)
      · subst ho
        refine wpOp_step rfl (fun K hK => ?_)
        refine value_ (v := .agg #[.slice A0_0 l0_0.length c0_0]) (w1 := w1) rfl rfl (by go_simp) ?_
        exact hK _ _ ⟨s5, s6, _, s9, s10, s11, rfl, hb, fun _ => rfl, fun h => h1 (h.resolve_left (by decide)), fun h => h2 (h.resolve_left (by decide)), fun h => h3 (h.resolve_left (by decide)), fun h => (h4 (h.resolve_left (by decide))).imp fun g_ h => h.imp fun _ h => ⟨h.1, h.2.1, h.2.2.1, fun h' => h.2.2.2 (h'.resolve_left (by decide))⟩, fun h => (h5 (h.resolve_left (by decide))).imp fun g_ h => h.imp fun _ h => ⟨h.1, h.2.1, h.2.2.1, fun h' => h.2.2.2 (h'.resolve_left (by decide))⟩, fun h h' => h56 (h.resolve_left (by decide)) (h'.resolve_left (by decide)), fun h => Or.inr (h64 (h.resolve_left (by decide))), fun h => Or.inr (h75 (h.resolve_left (by decide)))⟩
      · subst ho
        have hd : D 0 := hall { on := 0, ground := .data } (by simp) rfl
        have e8 := h0 hd
        subst e8
        refine wpOp_step rfl (fun K hK => ?_)
        refine goes_ Try.func37 (by kernel_rfl) rfl #[.agg #[.slice A0_0 l0_0.length c0_0]] rfl rfl rfl (by simp [Act.eval]) ?_
        refine (read_calls A0_0 c0_0 l0_0 w1 (Kd.C_below HR0.out hwb) HC0.out).mono ?_
        rintro e w2 ⟨rfl, hb2⟩
        refine ⟨_, rfl, ?_⟩
        exact hK _ _ ⟨s5, s6, _, _, s10, s11, rfl, below_step hb hb2, fun h => h0 (h.resolve_left (by decide)), fun _ => rfl, fun h => h2 (h.resolve_left (by decide)), fun h => h3 (h.resolve_left (by decide)), fun h => (h4 (h.resolve_left (by decide))).imp fun g_ h => h.imp fun _ h => ⟨h.1, h.2.1, h.2.2.1.below hb2, fun h' => h.2.2.2 (h'.resolve_left (by decide))⟩, fun h => (h5 (h.resolve_left (by decide))).imp fun g_ h => h.imp fun _ h => ⟨h.1, h.2.1, h.2.2.1.below hb2, fun h' => h.2.2.2 (h'.resolve_left (by decide))⟩, fun h h' => h56 (h.resolve_left (by decide)) (h'.resolve_left (by decide)), fun h => Or.inr (h64 (h.resolve_left (by decide))), fun h => Or.inr (h75 (h.resolve_left (by decide)))⟩
      · subst ho
        refine wpOp_step rfl (fun K hK => ?_)
        refine value_ (v := .agg #[.slice A1_0 l1_0.length c1_0]) (w1 := w1) rfl rfl (by go_simp) ?_
        exact hK _ _ ⟨s5, s6, s8, s9, _, s11, rfl, hb, fun h => h0 (h.resolve_left (by decide)), fun h => h1 (h.resolve_left (by decide)), fun _ => rfl, fun h => h3 (h.resolve_left (by decide)), fun h => (h4 (h.resolve_left (by decide))).imp fun g_ h => h.imp fun _ h => ⟨h.1, h.2.1, h.2.2.1, fun h' => h.2.2.2 (h'.resolve_left (by decide))⟩, fun h => (h5 (h.resolve_left (by decide))).imp fun g_ h => h.imp fun _ h => ⟨h.1, h.2.1, h.2.2.1, fun h' => h.2.2.2 (h'.resolve_left (by decide))⟩, fun h h' => h56 (h.resolve_left (by decide)) (h'.resolve_left (by decide)), fun h => Or.inr (h64 (h.resolve_left (by decide))), fun h => Or.inr (h75 (h.resolve_left (by decide)))⟩
      · subst ho
        have hd : D 2 := hall { on := 2, ground := .data } (by simp) rfl
        have e8 := h2 hd
        subst e8
        refine wpOp_step rfl (fun K hK => ?_)
        refine goes_ Try.func37 (by kernel_rfl) rfl #[.agg #[.slice A1_0 l1_0.length c1_0]] rfl rfl rfl (by simp [Act.eval]) ?_
        refine (read_calls A1_0 c1_0 l1_0 w1 (Kd.C_below HR1.out hwb) HC1.out).mono ?_
        rintro e w2 ⟨rfl, hb2⟩
        refine ⟨_, rfl, ?_⟩
        exact hK _ _ ⟨s5, s6, s8, s9, _, _, rfl, below_step hb hb2, fun h => h0 (h.resolve_left (by decide)), fun h => h1 (h.resolve_left (by decide)), fun h => h2 (h.resolve_left (by decide)), fun _ => rfl, fun h => (h4 (h.resolve_left (by decide))).imp fun g_ h => h.imp fun _ h => ⟨h.1, h.2.1, h.2.2.1.below hb2, fun h' => h.2.2.2 (h'.resolve_left (by decide))⟩, fun h => (h5 (h.resolve_left (by decide))).imp fun g_ h => h.imp fun _ h => ⟨h.1, h.2.1, h.2.2.1.below hb2, fun h' => h.2.2.2 (h'.resolve_left (by decide))⟩, fun h h' => h56 (h.resolve_left (by decide)) (h'.resolve_left (by decide)), fun h => Or.inr (h64 (h.resolve_left (by decide))), fun h => Or.inr (h75 (h.resolve_left (by decide)))⟩
      · subst ho
        refine wpOp_step rfl (fun K hK => ?_)
        have hb2 := below_alloc (Below.refl w1.heap.size w1) (.cells (arr fun _ => 0) 48 (0, 0))
        have hsz2 := below_size hb
        refine value_ (v := .pointer (some ⟨w1.heap.size, 0, none⟩)) (w1 := w1.alloc (.cells (arr fun _ => 0) 48 (0, 0))) rfl rfl (by unfold arr; go_simp) ?_
        exact hK _ _ ⟨_, s6, s8, s9, s10, s11, rfl, below_step hb hb2, fun h => h0 (h.resolve_left (by decide)), fun h => h1 (h.resolve_left (by decide)), fun h => h2 (h.resolve_left (by decide)), fun h => h3 (h.resolve_left (by decide)), fun _ => ⟨w1.heap.size, fun _ => 0, rfl, hsz2, heap_alloc_new w1 _, fun h => absurd (h64 (h.resolve_left (by decide))) hni⟩, fun h => (h5 (h.resolve_left (by decide))).imp fun g_ h => h.imp fun _ h => ⟨h.1, h.2.1, h.2.2.1.below hb2, fun h' => h.2.2.2 (h'.resolve_left (by decide))⟩, fun _ h => by
          obtain ⟨g_, H_, e_, _, ha_, _⟩ := h5 (h.resolve_left (by decide))
          have := ha_.lt
          rw [e_]
          intro e
          injection e with e
          injection e with e
          injection e with e
          omega, fun h => Or.inr (h64 (h.resolve_left (by decide))), fun h => Or.inr (h75 (h.resolve_left (by decide)))⟩
      · subst ho
        refine wpOp_step rfl (fun K hK => ?_)
        have hb2 := below_alloc (Below.refl w1.heap.size w1) (.cells (arr fun _ => 0) 48 (0, 0))
        have hsz2 := below_size hb
        refine value_ (v := .pointer (some ⟨w1.heap.size, 0, none⟩)) (w1 := w1.alloc (.cells (arr fun _ => 0) 48 (0, 0))) rfl rfl (by unfold arr; go_simp) ?_
        exact hK _ _ ⟨s5, _, s8, s9, s10, s11, rfl, below_step hb hb2, fun h => h0 (h.resolve_left (by decide)), fun h => h1 (h.resolve_left (by decide)), fun h => h2 (h.resolve_left (by decide)), fun h => h3 (h.resolve_left (by decide)), fun h => (h4 (h.resolve_left (by decide))).imp fun g_ h => h.imp fun _ h => ⟨h.1, h.2.1, h.2.2.1.below hb2, fun h' => h.2.2.2 (h'.resolve_left (by decide))⟩, fun _ => ⟨w1.heap.size, fun _ => 0, rfl, hsz2, heap_alloc_new w1 _, fun h => absurd (h75 (h.resolve_left (by decide))) hni⟩, fun h _ => by
          obtain ⟨g_, H_, e_, _, ha_, _⟩ := h4 (h.resolve_left (by decide))
          have := ha_.lt
          rw [e_]
          intro e
          injection e with e
          injection e with e
          injection e with e
          omega, fun h => Or.inr (h64 (h.resolve_left (by decide))), fun h => Or.inr (h75 (h.resolve_left (by decide)))⟩
      · subst ho
        have d4 : D 4 := hall { on := 4, ground := .data } (by simp) rfl
        have d5 : D 5 := hall { on := 5, ground := .phase } (by simp) rfl
        have d9 : D 1 := hall { on := 1, ground := .data } (by simp) rfl
        have e9 := h1 d9
        subst e9
        obtain ⟨g5, H5, rfl, hl5, ha5, hf5⟩ := h4 d4
        obtain ⟨g6, H6, rfl, hl6, ha6, hf6⟩ := h5 d5
        have hne : g5 ≠ g6 := fun e => h56 d4 d5 (by rw [e])
        have hst := arr_store ha5 (cnt l0_0)
        refine wpOp_step rfl (fun K hK => ?_)
        refine skip_ rfl rfl (by unfold execOp; simp [Act.eval, hst]; rfl) ?_
        exact hK _ _ ⟨_, _, s8, _, s10, s11, rfl, ArrAt.storeB hb hl5 _, fun h => h0 (h.resolve_left (by decide)), fun h => h1 (h.resolve_left (by decide)), fun h => h2 (h.resolve_left (by decide)), fun h => h3 (h.resolve_left (by decide)), fun _ => ⟨g5, _, rfl, hl5, ha5.store _, fun _ => rfl⟩, fun _ => ⟨g6, _, rfl, hl6, ha6.other hne.symm _, fun h' => hf6 (h'.resolve_left (by decide))⟩, fun h h' => h56 (h.resolve_left (by decide)) (h'.resolve_left (by decide)), fun _ => Or.inr d4, fun h => Or.inr (h75 (h.resolve_left (by decide)))⟩
      · subst ho
        have d4 : D 4 := hall { on := 4, ground := .phase } (by simp) rfl
        have d5 : D 5 := hall { on := 5, ground := .data } (by simp) rfl
        have d9 : D 3 := hall { on := 3, ground := .data } (by simp) rfl
        have e9 := h3 d9
        subst e9
        obtain ⟨g5, H5, rfl, hl5, ha5, hf5⟩ := h4 d4
        obtain ⟨g6, H6, rfl, hl6, ha6, hf6⟩ := h5 d5
        have hne : g5 ≠ g6 := fun e => h56 d4 d5 (by rw [e])
        have hst := arr_store ha6 (cnt l1_0)
        refine wpOp_step rfl (fun K hK => ?_)
        refine skip_ rfl rfl (by unfold execOp; simp [Act.eval, hst]; rfl) ?_
        exact hK _ _ ⟨_, _, s8, s9, s10, _, rfl, ArrAt.storeB hb hl6 _, fun h => h0 (h.resolve_left (by decide)), fun h => h1 (h.resolve_left (by decide)), fun h => h2 (h.resolve_left (by decide)), fun h => h3 (h.resolve_left (by decide)), fun _ => ⟨g5, _, rfl, hl5, ha5.other hne _, fun h' => hf5 (h'.resolve_left (by decide))⟩, fun _ => ⟨g6, _, rfl, hl6, ha6.store _, fun _ => rfl⟩, fun h h' => h56 (h.resolve_left (by decide)) (h'.resolve_left (by decide)), fun h => Or.inr (h64 (h.resolve_left (by decide))), fun _ => Or.inr d5⟩
      · simp at ho
  case rest =>
  obtain ⟨wb, hw_⟩ : ∃ x : World, x = wc := ⟨_, rfl⟩
  subst hw_
  obtain ⟨g5, g6, rfl, rfl, hl5, hl6, hne, ha5, ha6, hb⟩ := hcut
  have HA5 := Aside0.mk ha5
  have HA6 := Aside0.mk ha6
  have HBb := Aside0.mk hb
  clear ha5 ha6 hl5 hl6 hne hb HG1 HG2 HR0 HR1 HC0 HC1
  generalize cnt l0_0 = F at HA5 HH
  generalize cnt l1_0 = G at HA6 HH
  go_wp2
  go_loopw [8, 9, 15] (fun x y i wr => ∃ k : Nat, k ≤ 8 ∧ i = .int .i64 k ∧ x = .bool (anyLt F G k) ∧ y = .bool (anyLt G F k) ∧ Aside0 (ArrAt wr g5 F) ∧ Aside0 (ArrAt wr g6 G) ∧ Aside0 (Below wa.heap.size wa wr)) (fun _ _ i _ => 8 - (intOf i).toNat)
  case atStart => exact ⟨0, Nat.zero_le _, rfl, rfl, rfl, HA5, HA6, HBb⟩
  case round =>
    obtain ⟨k, hk, rfl, rfl, rfl, HA, HA', HW⟩ := hrel
    by_cases hlt : k < 8
    · have hbd : decide ((k : Int) < 8) = true := by simp; omega
      have q5 := HA.out.get k hlt
      have q6 := HA'.out.get k hlt
      have HS1 := Aside0.mk (show anyLt F G (k + 1) = (anyLt F G k || decide (F k < G k)) from rfl)
      have HS2 := Aside0.mk (show anyLt G F (k + 1) = (anyLt G F k || decide (G k < F k)) from rfl)
      generalize F k = x at q5 HS1 HS2
      generalize G k = y at q6 HS1 HS2
      have hk8i : (k : Int) < 8 := by omega
      generalize anyLt F G k = b1 at HS1 ⊢
      generalize anyLt G F k = b2 at HS2 ⊢
      cases b1
      all_goals cases b2
      all_goals go_upto_region 6 with fail
      all_goals (go_quiet (fail); go_wp2; go_quiet (fail); go_wp2)
      all_goals exact ⟨⟨k + 1, by omega, by go_num, by rw [HS1.out]; simp, by rw [HS2.out]; simp, ⟨blk_drewN HA.out _⟩, ⟨blk_drewN HA'.out _⟩, ⟨pw_below_drewN HW.out _⟩⟩, by simp [intOf]; omega⟩
    · have hbd : decide ((k : Int) < 8) = false := by simp; omega
      have hk8 : k = 8 := by omega
      subst hk8
      have hh := HH.out
      unfold cmpOf at hh
      generalize anyLt F G 8 = b1 at hh ⊢
      generalize anyLt G F 8 = b2 at hh ⊢
      have HBz := Aside0.mk (below_step HB.out HW.out)
      cases b1
      all_goals cases b2
      all_goals (injection hh with e1 e2; subst e1 e2)
      all_goals go_wp2
      all_goals (go_ret2; exact ⟨rfl, HBz.out⟩)

end Go.Proofs.Ytoopfdamdghbmaa.PA
