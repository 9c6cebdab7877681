-- Written by wip/pp.py of this repository, on the kit's print program. Not trusted: Lean checks it.
import Derived.Test.YtoopfdamdghbmaaPAx0
import Derived.Test.YtoopfdamdghbmaaPAx1
import Derived.Test.YtoopfdamdghbmaaPAx2
import Derived.Test.YtoopfdamdghbmaaPAx3
import Derived.Test.YtoopfdamdghbmaaPAx6
namespace Go.Proofs.Ytoopfdamdghbmaa.PA
open Go.RowKit Go.Proofs.YtoopfdamdghbmaaW.PrintWords Go.Proofs.YtoopfdamdghbmaaW.PrintLast Go.Proofs.YtoopfdamdghbmaaW.PrintMore
attribute [local go_sem] max2_int min2_int max_two min_two max_three min_three max_four min_four   -- for this text's walks alone
set_option linter.unusedVariables false
set_option linter.unusedSimpArgs false

/-! ### vclock_Merge: function 22 -/
def mxc (F G : Nat → Int) (j : Nat) : Int := max (F j) (G j)
def vclock_Merge.f (l0 l1 : List Int) : Option (List Int) := some (trim (mxc (cnt l0) (cnt l1)))
set_option maxHeartbeats 1000000 in
theorem vclock_Merge.calls (A0_0 : Option Addr) (c0_0 : Nat) (l0_0 : List Int) (A1_0 : Option Addr) (c1_0 : Nat) (l1_0 : List Int) (r : List Int) (w : World) (hr0_0 : Kd.C (Kd.int .i64) w A0_0 l0_0.length l0_0) (hc0_0 : l0_0.length ≤ c0_0) (hr1_0 : Kd.C (Kd.int .i64) w A1_0 l1_0.length l1_0) (hc1_0 : l1_0.length ≤ c1_0) (h : vclock_Merge.f l0_0 l1_0 = some r) :
    Calls Try.prog 22 #[.agg #[.slice A0_0 l0_0.length c0_0], .agg #[.slice A1_0 l1_0.length c1_0]] w fun e w' => ∃ v0_ : Value, e = .returned (.agg #[v0_]) ∧ Kd.R (Kd.int .i64) 3 w' w.heap.size (fun _ => True) v0_ r ∧ Below w.heap.size w w' := by
  unfold vclock_Merge.f at h
  injection h with h
  have HH := Aside0.mk h
  have HR0 := Aside0.mk hr0_0
  have HC0 := Aside0.mk hc0_0
  have HR1 := Aside0.mk hr1_0
  have HC1 := Aside0.mk hc1_0
  have hb3 := boxes3 w #[.slice A0_0 l0_0.length c0_0] #[.slice A1_0 l1_0.length c1_0] #[.slice none 0 0] 27 27 27
  clear h hr0_0 hc0_0 hr1_0 hc1_0
  go_enter Try.func22, Try.ntmps22
  go_upto_region 1 with fail
  generalize ((w.alloc (.cells #[.slice A0_0 l0_0.length c0_0] 27 (0, 0))).alloc (.cells #[.slice A1_0 l1_0.length c1_0] 27 (0, 0))).alloc (.cells #[.slice none 0 0] 27 (0, 0)) = wa at hb3 ⊢
  obtain ⟨hg1, hg2, hg3, hbw, hsz⟩ := hb3
  generalize hg_ : w.heap.size = g at hg1 hg2 hg3 hsz
  have HG1 := Aside0.mk hg1
  have HG2 := Aside0.mk hg2
  have HG3 := Aside0.mk hg3
  have HB := Aside0.mk hbw
  have HS := Aside0.mk hsz
  have HGE := Aside0.mk hg_
  clear hg1 hg2 hg3 hbw hsz hg_
  go_cut [5, 6] (fun v5 v6 wc => ∃ g5 g6 : Nat, v5 = .pointer (some ⟨g5, 0, none⟩) ∧ v6 = .pointer (some ⟨g6, 0, none⟩) ∧ wa.heap.size ≤ g5 ∧ wa.heap.size ≤ g6 ∧ g5 ≠ g6 ∧ ArrAt wc g5 (cnt l0_0) ∧ ArrAt wc g6 (cnt l1_0) ∧ Below wa.heap.size wa wc)
  case first =>
    refine wp_region_inv (PairI (fun s5 s6 s8 s9 s10 s11 => { tmps := #[Value.agg #[Value.slice A0_0 l0_0.length c0_0], Value.agg #[Value.slice A1_0 l1_0.length c1_0], Value.pointer (some ⟨g, 0, none⟩), Value.pointer (some ⟨g + 1, 0, none⟩), Value.pointer (some ⟨g + 1 + 1, 0, none⟩), s5, s6, undef, s8, s9, s10, s11, undef, undef, undef, undef, undef, undef, undef, undef, undef, undef, undef, undef, undef, undef, undef], defers := [] }) wa (.agg #[.slice A0_0 l0_0.length c0_0]) (.agg #[.slice A1_0 l1_0.length c1_0]) (cnt l0_0) (cnt l1_0)) (by kernel_rfl) (by kernel_rfl) ?_ ?_ ?_
    · exact ⟨_, _, _, _, _, _, rfl, below_drew (Below.refl _ _), fun h => h.elim, fun h => h.elim, fun h => h.elim, fun h => h.elim, fun h => h.elim, fun h => h.elim, fun h => h.elim, fun h => h.elim, fun h => h.elim⟩
    · rintro D a w1 ⟨s5, s6, s8, s9, s10, s11, rfl, hb, h0, h1, h2, h3, h4, h5, h56, h64, h75⟩ hall
      have d4 := hall 4 (by decide)
      have d5 := hall 5 (by decide)
      obtain ⟨g5, H5, rfl, hl5, ha5, hf5⟩ := h4 d4
      obtain ⟨g6, H6, rfl, hl6, ha6, hf6⟩ := h5 d5
      have e5 := hf5 (hall 6 (by decide))
      have e6 := hf6 (hall 7 (by decide))
      subst e5 e6
      (try dsimp only [])
      go_wp2_with fail
      go_meet
      exact ⟨g5, g6, rfl, rfl, hl5, hl6, fun e => h56 d4 d5 (by rw [e]), ha5, ha6, hb⟩
    · rintro D a w1 i o ⟨s5, s6, s8, s9, s10, s11, rfl, hb, h0, h1, h2, h3, h4, h5, h56, h64, h75⟩ ho hni hall
      have qa : w1.cell? ⟨g, 0, none⟩ = some (.slice A0_0 l0_0.length c0_0) := (blk_cell (blk_below HG1.out hb) 0).trans rfl
      have qb : w1.cell? ⟨g + 1, 0, none⟩ = some (.slice A1_0 l1_0.length c1_0) := (blk_cell (blk_below HG2.out hb) 0).trans rfl
      have hwb := below_step HB.out hb
      rcases i with _ | _ | _ | _ | _ | _ | _ | _ | i
      all_goals (simp only [List.getElem?_toArray, List.getElem?_cons_zero, List.getElem?_cons_succ, Option.some.injEq] at ho)
      · subst ho
        refine wpOp_step rfl (fun K hK => ?_)
        refine value_ (v := .agg #[.slice A0_0 l0_0.length c0_0]) (w1 := w1) rfl rfl (by go_simp) ?_
        exact hK _ _ ⟨s5, s6, _, s9, s10, s11, rfl, hb, fun _ => rfl, fun h => h1 (h.resolve_left (by decide)), fun h => h2 (h.resolve_left (by decide)), fun h => h3 (h.resolve_left (by decide)), fun h => (h4 (h.resolve_left (by decide))).imp fun g_ h => h.imp fun _ h => ⟨h.1, h.2.1, h.2.2.1, fun h' => h.2.2.2 (h'.resolve_left (by decide))⟩, fun h => (h5 (h.resolve_left (by decide))).imp fun g_ h => h.imp fun _ h => ⟨h.1, h.2.1, h.2.2.1, fun h' => h.2.2.2 (h'.resolve_left (by decide))⟩, fun h h' => h56 (h.resolve_left (by decide)) (h'.resolve_left (by decide)), fun h => Or.inr (h64 (h.resolve_left (by decide))), fun h => Or.inr (h75 (h.resolve_left (by decide)))⟩
      · subst ho
        have hd : D 0 := hall { on := 0, ground := .data } (by simp) rfl
        have e8 := h0 hd
        subst e8
        refine wpOp_step rfl (fun K hK => ?_)
        refine goes_ Try.func37 (by kernel_rfl) rfl #[.agg #[.slice A0_0 l0_0.length c0_0]] rfl rfl rfl (by simp [Act.eval]) ?_
        refine (read_calls A0_0 c0_0 l0_0 w1 (Kd.C_below HR0.out hwb) HC0.out).mono ?_
        rintro e w2 ⟨rfl, hb2⟩
        refine ⟨_, rfl, ?_⟩
        exact hK _ _ ⟨s5, s6, _, _, s10, s11, rfl, below_step hb hb2, fun h => h0 (h.resolve_left (by decide)), fun _ => rfl, fun h => h2 (h.resolve_left (by decide)), fun h => h3 (h.resolve_left (by decide)), fun h => (h4 (h.resolve_left (by decide))).imp fun g_ h => h.imp fun _ h => ⟨h.1, h.2.1, h.2.2.1.below hb2, fun h' => h.2.2.2 (h'.resolve_left (by decide))⟩, fun h => (h5 (h.resolve_left (by decide))).imp fun g_ h => h.imp fun _ h => ⟨h.1, h.2.1, h.2.2.1.below hb2, fun h' => h.2.2.2 (h'.resolve_left (by decide))⟩, fun h h' => h56 (h.resolve_left (by decide)) (h'.resolve_left (by decide)), fun h => Or.inr (h64 (h.resolve_left (by decide))), fun h => Or.inr (h75 (h.resolve_left (by decide)))⟩
      · subst ho
        refine wpOp_step rfl (fun K hK => ?_)
        refine value_ (v := .agg #[.slice A1_0 l1_0.length c1_0]) (w1 := w1) rfl rfl (by go_simp) ?_
        exact hK _ _ ⟨s5, s6, s8, s9, _, s11, rfl, hb, fun h => h0 (h.resolve_left (by decide)), fun h => h1 (h.resolve_left (by decide)), fun _ => rfl, fun h => h3 (h.resolve_left (by decide)), fun h => (h4 (h.resolve_left (by decide))).imp fun g_ h => h.imp fun _ h => ⟨h.1, h.2.1, h.2.2.1, fun h' => h.2.2.2 (h'.resolve_left (by decide))⟩, fun h => (h5 (h.resolve_left (by decide))).imp fun g_ h => h.imp fun _ h => ⟨h.1, h.2.1, h.2.2.1, fun h' => h.2.2.2 (h'.resolve_left (by decide))⟩, fun h h' => h56 (h.resolve_left (by decide)) (h'.resolve_left (by decide)), fun h => Or.inr (h64 (h.resolve_left (by decide))), fun h => Or.inr (h75 (h.resolve_left (by decide)))⟩
      · subst ho
        have hd : D 2 := hall { on := 2, ground := .data } (by simp) rfl
        have e8 := h2 hd
        subst e8
        refine wpOp_step rfl (fun K hK => ?_)
        refine goes_ Try.func37 (by kernel_rfl) rfl #[.agg #[.slice A1_0 l1_0.length c1_0]] rfl rfl rfl (by simp [Act.eval]) ?_
        refine (read_calls A1_0 c1_0 l1_0 w1 (Kd.C_below HR1.out hwb) HC1.out).mono ?_
        rintro e w2 ⟨rfl, hb2⟩
        refine ⟨_, rfl, ?_⟩
        exact hK _ _ ⟨s5, s6, s8, s9, _, _, rfl, below_step hb hb2, fun h => h0 (h.resolve_left (by decide)), fun h => h1 (h.resolve_left (by decide)), fun h => h2 (h.resolve_left (by decide)), fun _ => rfl, fun h => (h4 (h.resolve_left (by decide))).imp fun g_ h => h.imp fun _ h => ⟨h.1, h.2.1, h.2.2.1.below hb2, fun h' => h.2.2.2 (h'.resolve_left (by decide))⟩, fun h => (h5 (h.resolve_left (by decide))).imp fun g_ h => h.imp fun _ h => ⟨h.1, h.2.1, h.2.2.1.below hb2, fun h' => h.2.2.2 (h'.resolve_left (by decide))⟩, fun h h' => h56 (h.resolve_left (by decide)) (h'.resolve_left (by decide)), fun h => Or.inr (h64 (h.resolve_left (by decide))), fun h => Or.inr (h75 (h.resolve_left (by decide)))⟩
      · subst ho
        refine wpOp_step rfl (fun K hK => ?_)
        have hb2 := below_alloc (Below.refl w1.heap.size w1) (.cells (arr fun _ => 0) 48 (0, 0))
        have hsz2 := below_size hb
        refine value_ (v := .pointer (some ⟨w1.heap.size, 0, none⟩)) (w1 := w1.alloc (.cells (arr fun _ => 0) 48 (0, 0))) rfl rfl (by unfold arr; go_simp) ?_
        exact hK _ _ ⟨_, s6, s8, s9, s10, s11, rfl, below_step hb hb2, fun h => h0 (h.resolve_left (by decide)), fun h => h1 (h.resolve_left (by decide)), fun h => h2 (h.resolve_left (by decide)), fun h => h3 (h.resolve_left (by decide)), fun _ => ⟨w1.heap.size, fun _ => 0, rfl, hsz2, heap_alloc_new w1 _, fun h => absurd (h64 (h.resolve_left (by decide))) hni⟩, fun h => (h5 (h.resolve_left (by decide))).imp fun g_ h => h.imp fun _ h => ⟨h.1, h.2.1, h.2.2.1.below hb2, fun h' => h.2.2.2 (h'.resolve_left (by decide))⟩, fun _ h => by
          obtain ⟨g_, H_, e_, _, ha_, _⟩ := h5 (h.resolve_left (by decide))
          have := ha_.lt
          rw [e_]
          intro e
          injection e with e
          injection e with e
          injection e with e
          omega, fun h => Or.inr (h64 (h.resolve_left (by decide))), fun h => Or.inr (h75 (h.resolve_left (by decide)))⟩
      · subst ho
        refine wpOp_step rfl (fun K hK => ?_)
        have hb2 := below_alloc (Below.refl w1.heap.size w1) (.cells (arr fun _ => 0) 48 (0, 0))
        have hsz2 := below_size hb
        refine value_ (v := .pointer (some ⟨w1.heap.size, 0, none⟩)) (w1 := w1.alloc (.cells (arr fun _ => 0) 48 (0, 0))) rfl rfl (by unfold arr; go_simp) ?_
        exact hK _ _ ⟨s5, _, s8, s9, s10, s11, rfl, below_step hb hb2, fun h => h0 (h.resolve_left (by decide)), fun h => h1 (h.resolve_left (by decide)), fun h => h2 (h.resolve_left (by decide)), fun h => h3 (h.resolve_left (by decide)), fun h => (h4 (h.resolve_left (by decide))).imp fun g_ h => h.imp fun _ h => ⟨h.1, h.2.1, h.2.2.1.below hb2, fun h' => h.2.2.2 (h'.resolve_left (by decide))⟩, fun _ => ⟨w1.heap.size, fun _ => 0, rfl, hsz2, heap_alloc_new w1 _, fun h => absurd (h75 (h.resolve_left (by decide))) hni⟩, fun h _ => by
          obtain ⟨g_, H_, e_, _, ha_, _⟩ := h4 (h.resolve_left (by decide))
          have := ha_.lt
          rw [e_]
          intro e
          injection e with e
          injection e with e
          injection e with e
          omega, fun h => Or.inr (h64 (h.resolve_left (by decide))), fun h => Or.inr (h75 (h.resolve_left (by decide)))⟩
      · subst ho
        have d4 : D 4 := hall { on := 4, ground := .data } (by simp) rfl
        have d5 : D 5 := hall { on := 5, ground := .phase } (by simp) rfl
        have d9 : D 1 := hall { on := 1, ground := .data } (by simp) rfl
        have e9 := h1 d9
        subst e9
        obtain ⟨g5, H5, rfl, hl5, ha5, hf5⟩ := h4 d4
        obtain ⟨g6, H6, rfl, hl6, ha6, hf6⟩ := h5 d5
        have hne : g5 ≠ g6 := fun e => h56 d4 d5 (by rw [e])
        have hst := arr_store ha5 (cnt l0_0)
        refine wpOp_step rfl (fun K hK => ?_)
        refine skip_ rfl rfl (by unfold execOp; simp [Act.eval, hst]; rfl) ?_
        exact hK _ _ ⟨_, _, s8, _, s10, s11, rfl, ArrAt.storeB hb hl5 _, fun h => h0 (h.resolve_left (by decide)), fun h => h1 (h.resolve_left (by decide)), fun h => h2 (h.resolve_left (by decide)), fun h => h3 (h.resolve_left (by decide)), fun _ => ⟨g5, _, rfl, hl5, ha5.store _, fun _ => rfl⟩, fun _ => ⟨g6, _, rfl, hl6, ha6.other hne.symm _, fun h' => hf6 (h'.resolve_left (by decide))⟩, fun h h' => h56 (h.resolve_left (by decide)) (h'.resolve_left (by decide)), fun _ => Or.inr d4, fun h => Or.inr (h75 (h.resolve_left (by decide)))⟩
      · subst ho
        have d4 : D 4 := hall { on := 4, ground := .phase } (by simp) rfl
        have d5 : D 5 := hall { on := 5, ground := .data } (by simp) rfl
        have d9 : D 3 := hall { on := 3, ground := .data } (by simp) rfl
        have e9 := h3 d9
        subst e9
        obtain ⟨g5, H5, rfl, hl5, ha5, hf5⟩ := h4 d4
        obtain ⟨g6, H6, rfl, hl6, ha6, hf6⟩ := h5 d5
        have hne : g5 ≠ g6 := fun e => h56 d4 d5 (by rw [e])
        have hst := arr_store ha6 (cnt l1_0)
        refine wpOp_step rfl (fun K hK => ?_)
        refine skip_ rfl rfl (by unfold execOp; simp [Act.eval, hst]; rfl) ?_
        exact hK _ _ ⟨_, _, s8, s9, s10, _, rfl, ArrAt.storeB hb hl6 _, fun h => h0 (h.resolve_left (by decide)), fun h => h1 (h.resolve_left (by decide)), fun h => h2 (h.resolve_left (by decide)), fun h => h3 (h.resolve_left (by decide)), fun _ => ⟨g5, _, rfl, hl5, ha5.other hne _, fun h' => hf5 (h'.resolve_left (by decide))⟩, fun _ => ⟨g6, _, rfl, hl6, ha6.store _, fun _ => rfl⟩, fun h h' => h56 (h.resolve_left (by decide)) (h'.resolve_left (by decide)), fun h => Or.inr (h64 (h.resolve_left (by decide))), fun _ => Or.inr d5⟩
      · simp at ho
  case rest =>
  obtain ⟨wb, hw_⟩ : ∃ x : World, x = wc := ⟨_, rfl⟩
  subst hw_
  obtain ⟨g5, g6, rfl, rfl, hl5, hl6, hne, ha5, ha6, hb⟩ := hcut
  have HA5 := Aside0.mk ha5
  have HA6 := Aside0.mk ha6
  have HL5 := Aside0.mk hl5
  have HNE := Aside0.mk hne
  have HBb := Aside0.mk hb
  have HF : Aside0 (trim (mxc (cnt l0_0) (cnt l1_0)) = r) := HH
  clear ha5 ha6 hl5 hl6 hne hb HH HG1 HG2 HR0 HR1 HC0 HC1
  generalize cnt l0_0 = F at HA5 HF
  generalize cnt l1_0 = G at HA6 HF
  go_wp2
  go_loopw [12] (fun i wr => ∃ k : Nat, k ≤ 8 ∧ i = .int .i64 k ∧ Aside0 (ArrAt wr g5 (fun j => if j < k then mxc F G j else F j)) ∧ Aside0 (ArrAt wr g6 G) ∧ Aside0 (Below wa.heap.size wa wr)) (fun i _ => 8 - (intOf i).toNat)
  case atStart => exact ⟨0, Nat.zero_le _, rfl, HA5, HA6, HBb⟩
  case round =>
    obtain ⟨k, hk, rfl, HA, HA', HW⟩ := hrel
    by_cases hlt : k < 8
    · have hbd : decide ((k : Int) < 8) = true := by simp; omega
      have q5 : wr.cell? ⟨g5, k, none⟩ = some (.int .i64 (F k)) := by have := HA.out.get k hlt; rw [if_neg (Nat.lt_irrefl k)] at this; exact this
      have q6 := HA'.out.get k hlt
      have z5 := blk_frozen HA.out k
      have HM := Aside0.mk (show mxc F G k = max (F k) (G k) from rfl)
      generalize F k = x at q5 HM
      generalize G k = y at q6 HM
      go_upto_region 5 with fail
      have HD := Aside0.mk (show ArrAt wr.drew g5 _ from blk_drew HA.out)
      have HD' := Aside0.mk (show ArrAt wr.drew g6 _ from blk_drew HA'.out)
      have HWd := Aside0.mk (below_drew HW.out)
      have HL5' := HL5.out
      have hk8i : (k : Int) < 8 := by omega
      by_cases hxy : x < y
      · go_region_law (fail)
        all_goals (go_wp2_with fail; go_roundw)
        all_goals (first
          | (refine ⟨k + 1, by omega, by go_num, ⟨HD.out.nextm (M := mxc F G) (F := F) ?_⟩, ⟨show ArrAt _ g6 G from blk_far HD'.out HNE.out.symm _⟩, ⟨below_set HWd.out HL5'⟩⟩; have := HM.out; omega)
          | (simp [intOf]; omega))
      · go_region_law (fail)
        all_goals (go_wp2_with fail; go_roundw)
        all_goals (first
          | (refine ⟨k + 1, by omega, by go_num, ⟨HD.out.nextm (M := mxc F G) (F := F) ?_⟩, ⟨show ArrAt _ g6 G from blk_far HD'.out HNE.out.symm _⟩, ⟨below_set HWd.out HL5'⟩⟩; have := HM.out; omega)
          | (simp [intOf]; omega))
    · have hbd : decide ((k : Int) < 8) = false := by simp; omega
      have hk8 : k = 8 := by omega
      have HA5f : Aside0 (ArrAt wr g5 (mxc F G)) := ⟨by
        have h := HA.out
        unfold ArrAt at h ⊢
        rw [h, arr_congr]
        intro j hj
        show (if j < k then _ else _) = _
        rw [if_pos (by omega)]⟩
      clear HA
      generalize mxc F G = M at HA5f HF
      obtain ⟨q0, q1, q2, q3, q4, q5, q6, q7⟩ := HA5f.out.cells
      have hgs : g + 2 < wa.heap.size := by have := HS.out; omega
      have hge : w.heap.size ≤ g + 2 := by have := HGE.out; omega
      go_wp2_with (go_at_call 32; refine (short_calls M wr).mono ?_; rintro e w1 ⟨v1, rfl, ho, hb⟩; obtain ⟨A1, c1, rfl⟩ := Kd.R_slice ho; have HO := Aside0.mk ho; have HB1 := Aside0.mk hb; have HC3 := Aside0.mk (blk_below (blk_below HG3.out HW.out) hb); have qc := (blk_cell HC3.out 0).trans rfl; have qz := blk_frozen HC3.out 0; clear ho hb)
      refine bodyPost_ret (results_cell_row rfl _ _ (g + 2) 27 #[_] (0, 0) _ rfl (blk_put (cs := #[.slice none 0 0]) HC3.out 0 _ rfl) Try.underlying27 rfl (by kernel_rfl)) rfl ?_
      refine ⟨_, rfl, ?_, below_set (below_step (below_step HB.out HW.out) HB1.out) hge⟩
      rw [← HF.out]
      have hsw := below_size HW.out
      exact Kd.R_mono (Kd.R_lower (Kd.R_far (p := ⟨g + 2, 0, none⟩) (Kd.R_mono (Kd.R_bound HO.out) (fun k hk => (show k ≠ g + 2 by have := hk.2.1; omega))) (fun k hk => hk) _) (Nat.le_trans (below_size HB.out) hsw)) (fun _ _ => trivial)

/-! ### vclock_Missing: function 25 -/
def missed (l0 : List Int) (x : S46) : Bool := !(decide (1 ≤ x.f0) && decide (x.f0 ≤ 8) && decide (1 ≤ x.f1) && decide (x.f1 ≤ cnt l0 (x.f0 - 1).toNat))
set_option maxHeartbeats 1000000 in
theorem miss_lit (gc : Nat) (A0 : Option Addr) (c0 : Nat) (l0 : List Int) (w : World) (hr0 : Kd.C (Kd.int .i64) w A0 l0.length l0) (hc0 : l0.length ≤ c0) (hg : w.heap[gc]? = some (.cells #[.slice A0 l0.length c0] 27 (0, 0))) :
    TellsT Try.prog 40 #[.pointer (some ⟨gc, 0, none⟩)] (missed l0) w := by
  intro W x A c hb
  obtain ⟨a0, a1, a2, a3, l4⟩ := x
  show Calls Try.prog 40 #[.agg #[.int .i64 a0, .int .i64 a1, .int .i64 a2, .string a3, .slice A l4.length c], .pointer (some ⟨gc, 0, none⟩)] W _
  have hb2 := below_alloc (Below.refl W.heap.size W) (.cells #[.int .i64 a0, .int .i64 a1, .int .i64 a2, .string a3, .slice A l4.length c] 46 (0, 0))
  have HB := Aside0.mk hb2
  have HR := Aside0.mk (Kd.C_below hr0 (below_step hb hb2))
  have HC := Aside0.mk hc0
  have hgc := blk_below (blk_below hg hb) hb2
  have hgt := heap_alloc_new W (.cells #[.int .i64 a0, .int .i64 a1, .int .i64 a2, .string a3, .slice A l4.length c] 46 (0, 0))
  have HM := Aside0.mk (show missed l0 ⟨a0, a1, a2, a3, l4⟩ = !(decide (1 ≤ a0) && decide (a0 ≤ 8) && decide (1 ≤ a1) && decide (a1 ≤ cnt l0 (a0 - 1).toNat)) from rfl)
  have HK := Aside0.mk (show vclock_Knows.f l0 a0 a1 = some (decide (1 ≤ a0) && decide (a0 ≤ 8) && decide (1 ≤ a1) && decide (a1 ≤ cnt l0 (a0 - 1).toNat)) from rfl)
  generalize (decide (1 ≤ a0) && decide (a0 ≤ 8) && decide (1 ≤ a1) && decide (a1 ≤ cnt l0 (a0 - 1).toNat)) = kn at HM HK
  clear hr0 hc0 hg hb hb2
  go_enter Try.func40, Try.ntmps40
  go_upto_region 1 with fail
  generalize W.alloc (.cells #[.int .i64 a0, .int .i64 a1, .int .i64 a2, .string a3, .slice A l4.length c] 46 (0, 0)) = wa at HB HR hgc hgt ⊢
  have HGT := Aside0.mk hgt
  obtain ⟨gt, hgt_⟩ : ∃ g, W.heap.size = g := ⟨_, rfl⟩
  rw [hgt_] at hgt ⊢
  have q0 := (blk_cell hgc 0).trans rfl
  have p0 : wa.cell? ⟨gt, 0, none⟩ = some (.int .i64 a0) := (blk_cell hgt 0).trans rfl
  have p1 : wa.cell? ⟨gt, 1, none⟩ = some (.int .i64 a1) := (blk_cell hgt 1).trans rfl
  clear hgc hgt HGT
  go_wp2_with (go_at_call 18; refine (vclock_Knows.calls A0 c0 l0 a0 a1 kn _ HR.out HC.out HK.out).mono ?_; rintro e w1 ⟨rfl, hb⟩; have HB1 := Aside0.mk hb; clear hb)
  go_ret
  subst hgt_
  exact ⟨by rw [HM.out]; rfl, below_step HB.out HB1.out⟩
def vclock_Missing.f (l0 : List Int) (l1 : List S46) : Option (List S46) := if l1.length < 2199023255552 then some (l1.filter (missed l0)) else none
set_option maxHeartbeats 1000000 in
theorem vclock_Missing.calls (A0_0 : Option Addr) (c0_0 : Nat) (l0_0 : List Int) (P1_ : Nat → Prop) (A1 : Option Addr) (c1 : Nat) (l1 : List (S46)) (r : List (S46)) (w : World) (hr0_0 : Kd.C (Kd.int .i64) w A0_0 l0_0.length l0_0) (hc0_0 : l0_0.length ≤ c0_0) (hs1 : Kd.V k46 46 w w.heap.size (fun k_ => P1_ k_) (.slice A1 l1.length c1) l1) (h : vclock_Missing.f l0_0 l1 = some r) :
    Calls Try.prog 25 #[.agg #[.slice A0_0 l0_0.length c0_0], .slice A1 l1.length c1] w fun e w' => ∃ v0_ : Value, e = .returned (v0_) ∧ Kd.N k46 46 w' w.heap.size (fun k_ => (P1_ k_ ∨ w.heap.size ≤ k_)) v0_ r ∧ Below w.heap.size w w' := by
  unfold vclock_Missing.f at h
  by_cases hl : l1.length < 2199023255552
  case neg => rw [if_neg hl] at h; cases h
  rw [if_pos hl] at h
  injection h with h
  have hb2 := below_alloc (Below.refl w.heap.size w) (.cells #[.slice A0_0 l0_0.length c0_0] 27 (0, 0))
  have hg := heap_alloc_new w (.cells #[.slice A0_0 l0_0.length c0_0] 27 (0, 0))
  have HS := Aside0.mk (miss_lit w.heap.size A0_0 c0_0 l0_0 (w.alloc (.cells #[.slice A0_0 l0_0.length c0_0] 27 (0, 0))) (Kd.C_below hr0_0 hb2) hc0_0 hg)
  have HV := Aside0.mk (Kd.V_alloc hs1 (.cells #[.slice A0_0 l0_0.length c0_0] 27 (0, 0)))
  have HB := Aside0.mk hb2
  have HE := Aside0.mk (chosenT_eq (missed l0_0) l1 hl)
  have HH := Aside0.mk h
  clear hr0_0 hc0_0 hs1 h hl hb2 hg
  go_enter Try.func25, Try.ntmps25
  go_upto_region 1 with fail
  generalize w.alloc (.cells #[.slice A0_0 l0_0.length c0_0] 27 (0, 0)) = wa at HS HV HB ⊢
  have HV2 := Aside0.mk (show Kd.V k46 46 wa wa.heap.size (fun k_ => P1_ k_) (.slice A1 l1.length c1) l1 from HV.out)
  go_wp2_with (go_at_call 28; refine (api_Txn.calls (missed l0_0) 40 _ #[.pointer (some ⟨w.heap.size, 0, none⟩)] Try.func40 (by kernel_rfl) rfl (l1.length + 1) P1_ A1 c1 l1 _ _ HS.out HV2.out HE.out).mono ?_; rintro e w1 ⟨v1, rfl, ho, hb⟩; have HO := Aside0.mk ho; have HB1 := Aside0.mk hb; clear ho hb)
  go_ret
  have hsz := below_size HB.out
  refine ⟨_, rfl, ?_, below_step HB.out HB1.out⟩
  rw [← HH.out]
  exact Kd.N_mono (Kd.N_lower HO.out hsz) (fun k hk => hk.imp id (fun h => Nat.le_trans hsz h))

end Go.Proofs.Ytoopfdamdghbmaa.PA
