-- Written by wip/pp.py of this repository, on the kit's print program. Not trusted: Lean checks it.
import Derived.Test.YtoopfdamdghbmaaPAx0
import Derived.Test.YtoopfdamdghbmaaPAx1
namespace Go.Proofs.Ytoopfdamdghbmaa.PA
open Go.RowKit Go.Proofs.YtoopfdamdghbmaaW.PrintWords Go.Proofs.YtoopfdamdghbmaaW.PrintLast Go.Proofs.YtoopfdamdghbmaaW.PrintMore
attribute [local go_sem] max2_int min2_int max_two min_two max_three min_three max_four min_four   -- for this text's walks alone
set_option linter.unusedVariables false
set_option linter.unusedSimpArgs false

/-! ### vclock_short: function 32 -/
/-- How many of the first n counts stand ahead of zeros alone. -/
def topN (F : Nat → Int) : Nat → Nat
  | 0 => 0
  | n + 1 => if F n = 0 then topN F n else n + 1
theorem topN_le (F : Nat → Int) (n : Nat) : topN F n ≤ n := by
  induction n with
  | zero => exact Nat.le_refl _
  | succ n ih => unfold topN; split <;> omega
def trim (F : Nat → Int) : List Int := (List.range (topN F 8)).map F
set_option maxHeartbeats 1000000 in
theorem clone_arr (g n : Nat) (F : Nat → Int) (w : World) (h : ArrAt w g F) (hn : n ≤ 8) :
    Calls Try.prog 43 #[.slice (some ⟨g, 0, none⟩) n 8] w fun e w' => ∃ A c, e = .returned (.slice A n c) ∧ (Kd.int .i64).R 3 w' w.heap.size (fun _ => True) (.slice A n c) ((List.range n).map F) ∧ Below w.heap.size w w' := by
  have hc := Sh.Try.slices_Clone_int g 0 n 8 ((List.range 8).map F) w (by simpa using hn) (by omega) (fun j hj => by
    simp at hj
    rw [Nat.zero_add, h.get j hj]
    simp [hj])
  have e : ((List.range 8).map F).take n = (List.range n).map F := by
    rw [← List.map_take, List.take_range, Nat.min_eq_left hn]
  rw [e] at hc
  refine hc.mono ?_
  rintro e w' ⟨v', rfl, ho, _, hb⟩
  have h1 : (Kd.int .i64).R 3 w' w.heap.size (fun _ => True) v' ((List.range n).map F) := own_ints (by simpa using ho) (fun _ _ => trivial)
  obtain ⟨A, c, rfl⟩ := Kd.R_slice h1
  have hl : ((List.range n).map F).length = n := by simp
  rw [hl] at h1 ⊢
  exact ⟨A, c, rfl, h1, hb⟩
set_option maxHeartbeats 1000000 in
theorem short_calls (F : Nat → Int) (w : World) :
    Calls Try.prog 32 #[.agg (arr F)] w fun e w' => ∃ v0_ : Value, e = .returned (.agg #[v0_]) ∧ (Kd.int .i64).R 3 w' w.heap.size (fun _ => True) v0_ (trim F) ∧ Below w.heap.size w w' := by
  go_enter Try.func32, Try.ntmps32
  go_upto_region 1 with fail
  have HA := Aside0.mk (show ArrAt _ _ F from blk_below (heap_alloc_new w (.cells (arr F) 48 (0, 0))) (below_alloc (Below.refl _ _) (.cells #[.slice none 0 0] 27 (0, 0))))
  have HC : Aside0 (((w.alloc (.cells (arr F) 48 (0, 0))).alloc (.cells #[.slice none 0 0] 27 (0, 0))).heap[w.heap.size + 1]? = some (.cells #[.slice none 0 0] 27 (0, 0))) := ⟨by have := heap_alloc_new (w.alloc (.cells (arr F) 48 (0, 0))) (.cells #[.slice none 0 0] 27 (0, 0)); simpa using this⟩
  have HB := Aside0.mk (below_alloc (below_alloc (Below.refl w.heap.size w) (.cells (arr F) 48 (0, 0))) (.cells #[.slice none 0 0] 27 (0, 0)))
  change Code.wp _ _ _ _ ((w.alloc (.cells (arr F) 48 (0, 0))).alloc (.cells #[.slice none 0 0] 27 (0, 0)))
  generalize (w.alloc (.cells (arr F) 48 (0, 0))).alloc (.cells #[.slice none 0 0] 27 (0, 0)) = wa at HA HC HB ⊢
  generalize hg1_ : w.heap.size = g at HA HC
  have HGE := Aside0.mk hg1_
  clear hg1_
  generalize arr F = aF
  go_wp2
  go_loop [3] (fun v => ∃ k : Nat, k ≤ 8 ∧ v = .int .i64 k ∧ Aside0 (topN F 8 = topN F k)) (fun v => (intOf v).toNat)
  case atStart => exact ⟨8, by omega, rfl, ⟨rfl⟩⟩
  case round =>
    obtain ⟨k, hk, rfl, HT⟩ := hrel
    by_cases hk0 : k = 0
    · subst hk0
      have hb : decide ((0 : Int) < ((0 : Nat) : Int)) = false := rfl
      have hg : g + 1 < wa.heap.size := blk_lt HC.out
      have hge : w.heap.size ≤ g + 1 := by have := HGE.out; omega
      go_wp2_with (go_at_call 43; refine (clone_arr g (0) F wa HA.out (by omega)).mono ?_; rintro e w1 ⟨A1, c1, rfl, ho, hb⟩; have HO := Aside0.mk ho; have HB1 := Aside0.mk hb; have HC1 := Aside0.mk (blk_below HC.out hb); have qc := (blk_cell HC1.out 0).trans rfl; have qz := blk_frozen HC1.out 0; clear ho hb)
      refine bodyPost_ret (results_cell_row rfl _ _ (g + 1) 27 #[_] (0, 0) _ rfl (blk_put (cs := #[.slice none 0 0]) HC1.out 0 _ rfl) Try.underlying27 rfl (by kernel_rfl)) rfl ?_
      refine ⟨_, rfl, ?_, below_set (below_step HB.out HB1.out) hge⟩
      have ht : trim F = (List.range (0)).map F := by unfold trim; rw [HT.out]; rfl
      rw [ht]
      exact Kd.R_mono (Kd.R_lower (Kd.R_far (p := ⟨g + 1, 0, none⟩) (Kd.R_mono (Kd.R_bound HO.out) (fun k hk => (show k ≠ g + 1 by have := hk.2.1; omega))) (fun k hk => hk) _) (below_size HB.out)) (fun _ _ => trivial)
    · obtain ⟨m, hkm⟩ : ∃ m, k = m + 1 := ⟨k - 1, by omega⟩
      have hb : decide ((0 : Int) < (k : Int)) = true := by simp; omega
      have hs : (k : Int) - 1 = m := by omega
      have hx := HA.out.get m (by omega)
      have hm : m < 8 := by omega
      have HKM := Aside0.mk hkm
      have hal : Try.prog.arrayLen 48 = 8 := by simp [Program.arrayLen, Program.elem, Try.underlying48]
      have hsl : ∀ W, (Instr.sliceAt 48 (.pointer (some ⟨g, 0, none⟩)) none (some (.int .i64 (k : Int))) none).run Try.prog W = .ok (.slice (some ⟨g, 0, none⟩) k 8) W := fun W => by
        rw [run_sliceAt_array_h W 48 ⟨g, 0, none⟩ (by simp [Program.arrayLen, Program.elem, Try.underlying48]) .i64 (k : Int) (by omega) (by rw [hal]; omega)]
        go_simp
      clear hal
      clear hkm
      by_cases hF : F m = 0
      · have hd : decide (F m = 0) = true := by simp [hF]
        go_wp2
        go_round
        case rel => exact ⟨m, by omega, rfl, ⟨by rw [HT.out, HKM.out]; show (if F m = 0 then _ else _) = _; rw [if_pos hF]⟩⟩
        case measure => simp [intOf]; omega
      · have hd : decide (F m = 0) = false := by simp [hF]
        have hg : g + 1 < wa.heap.size := blk_lt HC.out
        have hge : w.heap.size ≤ g + 1 := by have := HGE.out; omega
        go_wp2_with (go_at_call 43; refine (clone_arr g k F wa HA.out (by omega)).mono ?_; rintro e w1 ⟨A1, c1, rfl, ho, hb⟩; have HO := Aside0.mk ho; have HB1 := Aside0.mk hb; have HC1 := Aside0.mk (blk_below HC.out hb); have qc := (blk_cell HC1.out 0).trans rfl; have qz := blk_frozen HC1.out 0; clear ho hb)
        refine bodyPost_ret (results_cell_row rfl _ _ (g + 1) 27 #[_] (0, 0) _ rfl (blk_put (cs := #[.slice none 0 0]) HC1.out 0 _ rfl) Try.underlying27 rfl (by kernel_rfl)) rfl ?_
        refine ⟨_, rfl, ?_, below_set (below_step HB.out HB1.out) hge⟩
        have ht : trim F = (List.range k).map F := by unfold trim; rw [HT.out, HKM.out]; show List.map F (List.range (if F m = 0 then _ else _)) = _; rw [if_neg hF]
        rw [ht]
        exact Kd.R_mono (Kd.R_lower (Kd.R_far (p := ⟨g + 1, 0, none⟩) (Kd.R_mono (Kd.R_bound HO.out) (fun k hk => (show k ≠ g + 1 by have := hk.2.1; omega))) (fun k hk => hk) _) (below_size HB.out)) (fun _ _ => trivial)

/-- Every operation waits for earlier ones alone. -/
def backB (md : Region.Mode) (ops : Array Oper) : Bool := (List.range ops.size).all fun i => ((ops[i]?).map (·.after.all fun e => !Region.binds md e || decide (e.on < i))).getD true
section
variable {P : Program} {ops : Array Oper} {Q : Exit → Act → World → Prop} {md : Region.Mode}
theorem backB_spec (h : backB md ops = true) {i : Nat} {o : Oper} (ho : ops[i]? = some o) : ∀ e ∈ o.after, Region.binds md e = true → e.on < i := by
  intro e he hb
  have hi : i < ops.size := (Array.getElem?_eq_some_iff.1 ho).1
  have := List.all_eq_true.1 h i (List.mem_range.2 hi)
  rw [ho] at this
  simp only [Option.map_some, Option.getD_some] at this
  have h2 := Array.all_eq_true'.1 this e he
  simp [hb] at h2
  exact h2
/-- Where something is not listed, something is ready. -/
theorem ready_some (h : backB md ops = true) {l : Array Bool} (hl : l.size = ops.size) (hr : Region.ready md ops l = []) : ∀ i, i < ops.size → l.getD i false = true := by
  intro i
  induction i using Nat.strongRecOn with
  | _ i ih =>
    intro hi
    cases hc : l.getD i false with
    | true => rfl
    | false =>
      exfalso
      have hm : i ∈ Region.ready md ops l := by
        refine mem_ready.2 ⟨?_, ops[i], Array.getElem?_eq_getElem hi, fun e he hb => ?_⟩
        · have hil : i < l.size := by omega
          simp [hil] at hc ⊢
          exact hc
        · have := backB_spec h (Array.getElem?_eq_getElem hi) e he hb
          exact ih e.on this (by omega)
      rw [hr] at hm
      cases hm
def D_ (l : Array Bool) : Nat → Prop := fun j => l.getD j false = true
theorem D_set {l : Array Bool} {i : Nat} (h : i < l.size) : D_ (l.setIfInBounds i true) = fun j => j = i ∨ D_ l j := by
  funext j
  apply propext
  unfold D_
  by_cases e : j = i
  · subst e; simp [h]
  · simp [Array.getD_eq_getD_getElem?, Array.getElem?_setIfInBounds, e, Ne.symm e]
theorem wpAny_inv {I : (Nat → Prop) → Act → World → Prop} (hbk : backB md ops = true)
    (hend : ∀ D a w, I D a w → (∀ i, i < ops.size → D i) → Q .normal a w)
    (hstep : ∀ D a w i o, I D a w → ops[i]? = some o → ¬ D i → (∀ e ∈ o.after, Region.binds md e = true → D e.on) → wpOp P ops Q i (I fun j => j = i ∨ D j) a w) :
    ∀ (fuel : Nat) (l : Array Bool) (a : Act) (w : World), l.size = ops.size → l.toList.count false ≤ fuel → I (D_ l) a w → wpAny P md ops Q fuel l a w
  | 0, l, a, w, hl, hc, h => by
    have hall : ∀ i, i < ops.size → D_ l i := fun i hi => by
      have h0 : l.toList.count false = 0 := by omega
      have hn := List.count_eq_zero.1 h0
      have hil : i < l.size := by omega
      unfold D_
      cases hb : l.getD i false with
      | true => rfl
      | false =>
        exfalso
        apply hn
        simp [hil] at hb
        rw [← hb]
        exact List.mem_iff_getElem.2 ⟨i, by simpa using hil, by simp⟩
    refine ⟨?_, hend _ _ _ h hall⟩
    apply List.eq_nil_iff_forall_not_mem.2
    intro i hi
    obtain ⟨h1, o, ho, _⟩ := mem_ready.1 hi
    have hi' : i < ops.size := (Array.getElem?_eq_some_iff.1 ho).1
    have h2 := hall i hi'
    unfold D_ at h2
    have hil : i < l.size := by omega
    simp [hil] at h1 h2
    rw [h1] at h2
    cases h2
  | fuel + 1, l, a, w, hl, hc, h => by
    refine ⟨fun hr => hend _ _ _ h (ready_some hbk hl hr), fun i hi => ?_⟩
    obtain ⟨h1, o, ho, hall⟩ := mem_ready.1 hi
    have hi' : i < l.size := by have := (Array.getElem?_eq_some_iff.1 ho).1; omega
    refine wpOp_mono (fun a' w' h' => wpAny_inv hbk hend hstep fuel _ a' w' (by simpa using hl) ?_ ?_) (hstep (D_ l) a w i o h ho (fun hd => by unfold D_ at hd; simp [hi'] at h1 hd; rw [h1] at hd; cases hd) hall)
    · have : (l.setIfInBounds i true).toList.count false + 1 = l.toList.count false := by
        simp [hi'] at h1
        rw [Array.toList_setIfInBounds, List.count_set (by simpa using hi')]
        have hp : 0 < l.toList.count false := List.count_pos_iff.2 (by rw [← h1]; exact List.mem_iff_getElem.2 ⟨i, by simpa using hi', by simp⟩)
        have e1 : (l.toList[i]'(by simpa using hi') == false) = true := by simp [h1]
        rw [if_pos e1]
        simp only [show (true == false) = false from rfl]
        have e2 : (if false = true then 1 else 0) = 0 := rfl
        simp only [e2]
        omega
      omega
    · rw [D_set hi']; exact h'
theorem wp_region_inv {id : Nat} {a : Act} {w : World} (I : (Nat → Prop) → Act → World → Prop) (hm : P.follows .mixedOrders = true) (hbk : backB .any ops = true) (h0 : I (fun _ => False) a w.drew)
    (hend : ∀ D a w, I D a w → (∀ i, i < ops.size → D i) → Q .normal a w)
    (hstep : ∀ D a w i o, I D a w → ops[i]? = some o → ¬ D i → (∀ e ∈ o.after, Region.binds .any e = true → D e.on) → wpOp P ops Q i (I fun j => j = i ∨ D j) a w) :
    (Code.region id ops true).wp P Q a w := by
  refine wp_region_any hm (wpAny_inv hbk hend hstep _ _ a _ (by simp) (by simp) ?_)
  have : D_ (Array.replicate ops.size false) = fun _ => False := by
    funext j
    apply propext
    unfold D_
    simp only [Array.getD_eq_getD_getElem?, Array.getElem?_replicate]
    split <;> simp
  rw [this]
  exact h0
end

/-- Where the two counts of Merge and Cmp stand, amid the region that reads them. -/
def PairI (mk : Value → Value → Value → Value → Value → Value → Act) (w0 : World) (va vb : Value) (F G : Nat → Int) (D : Nat → Prop) (a : Act) (w : World) : Prop :=
  ∃ s5 s6 s8 s9 s10 s11, a = mk s5 s6 s8 s9 s10 s11 ∧ Below w0.heap.size w0 w ∧ (D 0 → s8 = va) ∧ (D 1 → s9 = .agg (arr F)) ∧ (D 2 → s10 = vb) ∧ (D 3 → s11 = .agg (arr G)) ∧
    (D 4 → ∃ g H, s5 = .pointer (some ⟨g, 0, none⟩) ∧ w0.heap.size ≤ g ∧ ArrAt w g H ∧ (D 6 → H = F)) ∧
    (D 5 → ∃ g H, s6 = .pointer (some ⟨g, 0, none⟩) ∧ w0.heap.size ≤ g ∧ ArrAt w g H ∧ (D 7 → H = G)) ∧ (D 4 → D 5 → s5 ≠ s6) ∧ (D 6 → D 4) ∧ (D 7 → D 5)
theorem ArrAt.lt {w : World} {g : Nat} {F : Nat → Int} (h : ArrAt w g F) : g < w.heap.size := blk_lt h
theorem ArrAt.below {w w' : World} {g : Nat} {F : Nat → Int} (h : ArrAt w g F) (hb : Below w.heap.size w w') : ArrAt w' g F := blk_below h hb
theorem ArrAt.other {w : World} {g g' : Nat} {F : Nat → Int} (h : ArrAt w g F) (hn : g ≠ g') (G : Nat → Int) : ArrAt ((((((((w.setCell ⟨g', 0, none⟩ (.int .i64 (G 0))).setCell ⟨g', 1, none⟩ (.int .i64 (G 1))).setCell ⟨g', 2, none⟩ (.int .i64 (G 2))).setCell ⟨g', 3, none⟩ (.int .i64 (G 3))).setCell ⟨g', 4, none⟩ (.int .i64 (G 4))).setCell ⟨g', 5, none⟩ (.int .i64 (G 5))).setCell ⟨g', 6, none⟩ (.int .i64 (G 6))).setCell ⟨g', 7, none⟩ (.int .i64 (G 7))) g F := by
  have h' : w.heap[g]? = some (.cells (arr F) 48 (0, 0)) := h
  exact blk_far (blk_far (blk_far (blk_far (blk_far (blk_far (blk_far (blk_far h' hn _) hn _) hn _) hn _) hn _) hn _) hn _) hn _
theorem arr_store {w : World} {g : Nat} {H : Nat → Int} (h : ArrAt w g H) (F : Nat → Int) : (Instr.storeAt 48 (.pointer (some ⟨g, 0, none⟩)) (.agg (arr F))).run Try.prog w = .ok () ((((((((w.setCell ⟨g, 0, none⟩ (.int .i64 (F 0))).setCell ⟨g, 1, none⟩ (.int .i64 (F 1))).setCell ⟨g, 2, none⟩ (.int .i64 (F 2))).setCell ⟨g, 3, none⟩ (.int .i64 (F 3))).setCell ⟨g, 4, none⟩ (.int .i64 (F 4))).setCell ⟨g, 5, none⟩ (.int .i64 (F 5))).setCell ⟨g, 6, none⟩ (.int .i64 (F 6))).setCell ⟨g, 7, none⟩ (.int .i64 (F 7))) := by
  obtain ⟨q0, q1, q2, q3, q4, q5, q6, q7⟩ := h.cells
  obtain ⟨z0, z1, z2, z3, z4, z5, z6, z7⟩ := h.frz
  unfold arr
  go_simp
theorem boxes3 (w : World) (o1 o2 o3 : Array Value) (t1 t2 t3 : TypeId) : (((w.alloc (.cells o1 t1 (0, 0))).alloc (.cells o2 t2 (0, 0))).alloc (.cells o3 t3 (0, 0))).heap[w.heap.size]? = some (.cells o1 t1 (0, 0)) ∧ (((w.alloc (.cells o1 t1 (0, 0))).alloc (.cells o2 t2 (0, 0))).alloc (.cells o3 t3 (0, 0))).heap[w.heap.size + 1]? = some (.cells o2 t2 (0, 0)) ∧ (((w.alloc (.cells o1 t1 (0, 0))).alloc (.cells o2 t2 (0, 0))).alloc (.cells o3 t3 (0, 0))).heap[w.heap.size + 2]? = some (.cells o3 t3 (0, 0)) ∧ Below w.heap.size w (((w.alloc (.cells o1 t1 (0, 0))).alloc (.cells o2 t2 (0, 0))).alloc (.cells o3 t3 (0, 0))) ∧ (((w.alloc (.cells o1 t1 (0, 0))).alloc (.cells o2 t2 (0, 0))).alloc (.cells o3 t3 (0, 0))).heap.size = w.heap.size + 3 := by
  refine ⟨?_, ?_, ?_, below_alloc (below_alloc (below_alloc (Below.refl w.heap.size w) _) _) _, by simp⟩
  · exact blk_below (blk_below (heap_alloc_new w _) (below_alloc (Below.refl _ _) _)) (below_alloc (Below.refl _ _) _)
  · have := blk_below (heap_alloc_new (w.alloc (.cells o1 t1 (0, 0))) (.cells o2 t2 (0, 0))) (below_alloc (Below.refl _ _) (.cells o3 t3 (0, 0)))
    simpa using this
  · have := heap_alloc_new ((w.alloc (.cells o1 t1 (0, 0))).alloc (.cells o2 t2 (0, 0))) (.cells o3 t3 (0, 0))
    simpa using this
theorem ArrAt.nextm {w : World} {g k : Nat} {M F : Nat → Int} (h : ArrAt w g (fun j => if j < k then M j else F j)) {x : Int} (hx : M k = x) : ArrAt (w.setCell ⟨g, k, none⟩ (.int .i64 x)) g (fun j => if j < k + 1 then M j else F j) := by
  have h1 := h.put k x
  unfold ArrAt at h1 ⊢
  rw [h1, arr_congr]
  intro j hj
  show (if j = k then x else if j < k then M j else F j) = _
  by_cases e : j = k
  · subst e; rw [if_pos rfl, if_pos (by omega), hx]
  · rw [if_neg e]
    by_cases e2 : j < k
    · rw [if_pos e2, if_pos (by omega)]
    · rw [if_neg e2, if_neg (by omega)]
theorem boxes2 (w : World) (o1 o2 : Array Value) (t1 t2 : TypeId) : ((w.alloc (.cells o1 t1 (0, 0))).alloc (.cells o2 t2 (0, 0))).heap[w.heap.size]? = some (.cells o1 t1 (0, 0)) ∧ ((w.alloc (.cells o1 t1 (0, 0))).alloc (.cells o2 t2 (0, 0))).heap[w.heap.size + 1]? = some (.cells o2 t2 (0, 0)) ∧ Below w.heap.size w ((w.alloc (.cells o1 t1 (0, 0))).alloc (.cells o2 t2 (0, 0))) ∧ ((w.alloc (.cells o1 t1 (0, 0))).alloc (.cells o2 t2 (0, 0))).heap.size = w.heap.size + 2 := by
  refine ⟨?_, ?_, below_alloc (below_alloc (Below.refl w.heap.size w) _) _, by simp⟩
  · exact blk_below (heap_alloc_new w _) (below_alloc (Below.refl _ _) _)
  · have := heap_alloc_new (w.alloc (.cells o1 t1 (0, 0))) (.cells o2 t2 (0, 0))
    simpa using this

/-! ### vclock_chosen_int: function 35 -/
/-- What the walk asks of a function value that tells of a value whether it holds. -/
def TellsV (P : Program) (g : FuncId) (lb : Array Value) (v : Value) (b : Bool) (w : World) : Prop := ∀ (W : World), Below w.heap.size w W → Calls P g (#[v] ++ lb) W fun e w' => e = .returned (.bool b) ∧ Below W.heap.size W w'
set_option maxHeartbeats 1000000 in
theorem chosen_int (is : Int → Bool) (g : FuncId) (fng : Func) (hgf : Try.prog.funcs[g]? = some fng) (hgn : (fng.name == "runtime.NumGoroutine") = false) (hgb : fng.body.isSome = true) (lb : Array Value)
    (A0 : Option Addr) (c0 : Nat) (l0 : List Int) (w : World) (hr0 : Kd.C (Kd.int .i64) w A0 l0.length l0) (hc0 : l0.length ≤ c0) (hlen : l0.length * 8 ≤ 140737488355328) (hK : ∀ x ∈ l0, TellsV Try.prog g lb (.int .i64 x) (is x) w) :
    Calls Try.prog 35 #[.slice A0 l0.length c0, .func (.func g) #[] lb] w fun e w' => ∃ v, e = .returned v ∧ (Kd.int .i64).R 3 w' w.heap.size (fun _ => True) v (l0.filter is) ∧ Below w.heap.size w w' := by
  have HR := Aside0.mk hr0
  have HC := Aside0.mk hc0
  have HN := Aside0.mk hlen
  have HK := Aside0.mk hK
  have HF := Aside0.mk hgf
  have HNa := Aside0.mk hgn
  have HBo := Aside0.mk hgb
  have HL : l0.length ≤ 9223372036854775807 := hr0.2.1
  have HB0 := Aside0.mk (Below.refl w.heap.size w)
  have HR0 := Aside0.mk (Kd.R_nil (Kd.int .i64) 3 w w.heap.size (fun _ => True))
  clear hr0 hc0 hlen hK hgf hgn hgb
  go_enter Try.func35, Try.ntmps35
  go_wp2
  go_loopw [5, 10] (fun v i wr => ∃ k : Nat, k ≤ l0.length ∧ i = .int .i64 k ∧ Aside0 (Kd.R (Kd.int .i64) 3 wr w.heap.size (fun _ => True) v ((l0.take k).filter is)) ∧ Aside0 (Below w.heap.size w wr)) (fun _ i _ => l0.length - (intOf i).toNat)
  case atStart => exact ⟨0, Nat.zero_le _, rfl, HR0, HB0⟩
  case round =>
    obtain ⟨k, hk, rfl, HV, HW⟩ := hrel
    by_cases hlt : k < l0.length
    · have hbd : decide ((k : Int) < (l0.length : Int)) = true := by simp; omega
      obtain ⟨ad, cc, e, hcc, hrd, hx0⟩ := Kd.C_get (Kd.C_below HR.out HW.out) (0 : Int) (k : Int) (by omega) (by omega)
      subst e
      have hcc1 : cc = [Value.int .i64 (l0.getD k 0)] := by rw [Int.toNat_natCast] at hrd; exact hrd
      have hx := hx0 0 _ (by rw [hcc1]; rfl)
      have hsz : (Kd.int .i64).sz = 1 := rfl
      rw [hsz, Nat.mul_one, Nat.add_zero, Int.toNat_natCast] at hx
      clear hsz hx0 hrd hcc hcc1
      have hmem : l0.getD k 0 ∈ l0 := by rw [List.getD_eq_getElem?_getD, List.getElem?_eq_getElem hlt]; exact List.getElem_mem hlt
      have HT := Aside0.mk (HK.out _ hmem)
      have HS : Aside0 ((l0.take (k + 1)).filter is = (l0.take k).filter is ++ if is (l0.getD k 0) then [l0.getD k 0] else []) := ⟨by
        rw [List.take_succ_eq_append_getElem hlt, List.filter_append, List.getD_eq_getElem?_getD, List.getElem?_eq_getElem hlt]
        simp only [Option.getD_some, List.filter_cons, List.filter_nil]⟩
      have hfl : Aside0 (((l0.take k).filter is).length ≤ k) := ⟨Nat.le_trans (List.length_filter_le _ _) (by simp; omega)⟩
      generalize l0.getD k 0 = x at hx HT HS
      generalize is x = b at HT HS
      generalize (l0.take k).filter is = xs at HV HS hfl
      cases b
      · go_wp2_with ((with_reducible refine gate_dst (N := 16) rfl ?_); refine goesLV_ (some 16) rfl rfl HF.out HNa.out HBo.out lb #[.int .i64 x] rfl rfl (by (try simp only [List.map_toArray, List.map_cons, List.map_nil]); first | done | rfl) ?_; refine (HT.out _ HW.out).mono ?_; rintro e w2 ⟨rfl, hb2⟩; have HB2 := Aside0.mk hb2; clear hb2; refine ⟨_, rfl, ?_⟩)
        all_goals exact ⟨⟨k + 1, by omega, by go_num, ⟨by rw [HS.out]; simpa using Kd.R_below HV.out HB2.out⟩, ⟨below_step HW.out HB2.out⟩⟩, by simp [intOf]; omega⟩
      · go_wp2_with (first
          | ((with_reducible refine gate_dst (N := 16) rfl ?_); refine goesLV_ (some 16) rfl rfl HF.out HNa.out HBo.out lb #[.int .i64 x] rfl rfl (by (try simp only [List.map_toArray, List.map_cons, List.map_nil]); first | done | rfl) ?_; refine (HT.out _ HW.out).mono ?_; rintro e w2 ⟨rfl, hb2⟩; have HB2 := Aside0.mk hb2; have HW2 := Aside0.mk (below_step HW.out hb2); have HV2 := Aside0.mk (Kd.R_below HV.out hb2); clear hb2; refine ⟨_, rfl, ?_⟩)
          | ((with_reducible refine gate_builtin (b := .append) (xs := #[.tmp 17, .tmp 19]) rfl ?_); at_builtin; refine Kd.R_append (Kd.int .i64) (w0 := w) w.heap.size rfl (.tmp 17) (.tmp 19) 25 3 (.int .i64 0) 8 rfl Try.underlying25 info3 rfl (by decide) (by omega) u5 xs x [.int .i64 x] (fun _ => True) (fun _ => False) rfl rfl ?aP (fun _ hk => hk.elim) ?aF ?aO ?aB ?aS ?aL ?_; (case aP => exact rfl); (case aO => exact (by (with_reducible repeat (first | apply Kd.R_alloc | apply Kd.R_drewN | apply Kd.R_drew)); exact HV2.out)); (case aB => exact (by repeat (first | (with_reducible first | exact HW2.out | apply below_alloc | apply pw_below_drewN | apply below_drew1) | exact HW2.out))); (case aS => exact (below_size (by repeat (first | (with_reducible first | exact HW2.out | apply below_alloc | apply pw_below_drewN | apply below_drew1) | exact HW2.out)))); (case aL => have h1_ := hfl.out; have h2_ := HN.out; omega); (case aF => exact (fun _ _ => trivial)); intro v20 w3 ho hb3 _ _; have HO := Aside0.mk ho; have HB3 := Aside0.mk hb3; clear ho hb3))
        all_goals exact ⟨⟨k + 1, by omega, by go_num, ⟨by rw [HS.out]; simpa using HO.out⟩, HB3⟩, by simp [intOf]; omega⟩
    · have hbd : decide ((k : Int) < (l0.length : Int)) = false := by simp; omega
      have hkl : l0.take k = l0 := List.take_of_length_le (by omega)
      have HV2 : Aside0 (Kd.R (Kd.int .i64) 3 wr w.heap.size (fun _ => True) u5 (l0.filter is)) := ⟨by have := HV.out; rw [hkl] at this; exact this⟩
      clear hkl HV
      go_wp2
      go_ret
      exact ⟨_, rfl, HV2.out, HW.out⟩

end Go.Proofs.Ytoopfdamdghbmaa.PA
