-- Written by wip/pp.py of this repository, on the kit's print program. Not trusted: Lean checks it.
import Derived.Test.YtjdijlijojembaaPAx0
import Derived.Test.YtjdijlijojembaaPAx2
import Derived.Test.YtjdijlijojembaaPAx3
namespace Go.Proofs.Ytjdijlijojembaa.PA
open Go.RowKit Go.Proofs.YtjdijlijojembaaW.PrintWords Go.Proofs.YtjdijlijojembaaW.PrintLast Go.Proofs.YtjdijlijojembaaW.PrintMore
attribute [local go_sem] max2_int min2_int max_two min_two max_three min_three max_four min_four   -- for this text's walks alone
set_option linter.unusedVariables false
set_option linter.unusedSimpArgs false

/-! ### idset_Union: function 18 -/
def idset_Union.f (l0 : List Int) (l1 : List Int) : Option (List Int) := (idset_set.f (([l0, l1] : List (List Int)))).bind fun t117 => (some t117)
set_option maxHeartbeats 8000000 in
set_option maxRecDepth 100000 in
theorem idset_Union.calls (P0_ : Nat → Prop) (A0 : Option Addr) (c0 : Nat) (l0 : List Int) (P1_ : Nat → Prop) (A1 : Option Addr) (c1 : Nat) (l1 : List Int) (r : List Int) (w : World) (hs0 : Kd.V (Kd.int .i64) 3 w w.heap.size (fun k_ => P0_ k_) (.slice A0 l0.length c0) l0) (hs1 : Kd.V (Kd.int .i64) 3 w w.heap.size (fun k_ => P1_ k_) (.slice A1 l1.length c1) l1) (h : idset_Union.f l0 l1 = some r) :
    Calls Try.prog 18 #[.slice A0 l0.length c0, .slice A1 l1.length c1] w fun e w' => ∃ v0_ : Value, e = .returned (v0_) ∧ Kd.R (Kd.int .i64) 3 w' w.heap.size (fun k_ => (w.heap.size ≤ k_)) v0_ r ∧ Below w.heap.size w w' := by
  have HO0 := Aside0.mk (show Kd.V (Kd.int .i64) 3 w w.heap.size (fun k_ => ((P0_ k_ ∨ P1_ k_) ∨ w.heap.size ≤ k_)) (.slice A0 l0.length c0) l0 from Kd.V_mono hs0 (fun k_ hk => .inl (.inl hk)))
  have HO1 := Aside0.mk (show Kd.V (Kd.int .i64) 3 w w.heap.size (fun k_ => ((P0_ k_ ∨ P1_ k_) ∨ w.heap.size ≤ k_)) (.slice A1 l1.length c1) l1 from Kd.V_mono hs1 (fun k_ hk => .inl (.inr hk)))
  have HB := Aside0.mk (Below.refl w.heap.size w)
  have H : ((idset_set.f (([l0, l1] : List (List Int)))).bind fun t117 => (some t117)) = some r := h
  clear h
  obtain ⟨y114, hy114⟩ : ∃ y_ : List (List Int), y_ = (([l0, l1] : List (List Int))) := ⟨_, rfl⟩
  replace H : ((idset_set.f y114).bind fun t117 => (some t117)) = some r := by first | (rw [hy114]; with_reducible exact H) | (have H2_ := (Option.bind_some _ _).symm.trans H; rw [hy114]; with_reducible exact H2_) | (have H2_ := (Option.bind_some _ _).symm.trans H; with_reducible exact H2_) | with_reducible exact H | (rw [hy114]; exact H) | exact H
  have Ny114 := Aside0.mk hy114
  clear hy114
  replace H := Option.bind_eq_some_iff.mp H
  obtain ⟨t117, A30, H⟩ := H
  replace H : (some t117) = some r := H
  have A3 := Aside0.mk A30
  clear A30
  obtain rfl := Option.some.inj H
  go_enter Try.func18, Try.ntmps18
  go_wp2_with (first | ((with_reducible refine gate_dst (N := 7) rfl ?_); refine Kd.N_lit (Kd.slice 3 (Kd.int .i64)) _ 22 ?hg (N' := 7) ?hd (xs := ([l0, l1] : List (List Int))) (inner := [.slice A0 l0.length c0, .slice A1 l1.length c1]) (ok := (fun k_ => ((P0_ k_ ∨ P1_ k_) ∨ w.heap.size ≤ k_))) (okp := (fun k_ => ((P0_ k_ ∨ P1_ k_) ∨ w.heap.size ≤ k_))) ?hr ?hp (fun _ hk => hk) ((show ∀ k_, w.heap.size ≤ k_ → (fun k_ => ((P0_ k_ ∨ P1_ k_) ∨ w.heap.size ≤ k_)) k_ from fun k_ hk => (.inr (Nat.le_trans (below_size (by repeat (first | (with_reducible first | exact HB.out | apply below_alloc | apply pw_below_drewN | apply below_drew1) | exact HB.out))) hk))) _ (Nat.le_refl _)) (Below.refl _ _) (Nat.le_refl _) (by simp) ?_; (case hd => rfl); (case hg => rfl); (case hr => first | (go_simp; done) | (go_simp; rfl)); (case hp => exact (Reps.one (show Kd.FK (Kd.slice 3 (Kd.int .i64)) _ _ l0 [.slice A0 l0.length c0] from (Kd.FK_slice_mk (Kd.V_reads' (Kd.V_mono (ok' := (fun k_ => ((P0_ k_ ∨ P1_ k_) ∨ w.heap.size ≤ k_))) (HO0.out) (fun k_ hk => hk))).2.1 (Kd.V_F (Kd.V_mono (ok' := (fun k_ => ((P0_ k_ ∨ P1_ k_) ∨ w.heap.size ≤ k_))) (HO0.out) (fun k_ hk => hk))))) (Reps.one (show Kd.FK (Kd.slice 3 (Kd.int .i64)) _ _ l1 [.slice A1 l1.length c1] from (Kd.FK_slice_mk (Kd.V_reads' (Kd.V_mono (ok' := (fun k_ => ((P0_ k_ ∨ P1_ k_) ∨ w.heap.size ≤ k_))) (HO1.out) (fun k_ hk => hk))).2.1 (Kd.V_F (Kd.V_mono (ok' := (fun k_ => ((P0_ k_ ∨ P1_ k_) ∨ w.heap.size ≤ k_))) (HO1.out) (fun k_ hk => hk))))) (Reps.none _ _)))); intro v115 w4 ho5 hb hg_ hnew_; clear hg_ hnew_; (first | rw [← Ny114.out] at ho5 | (simp only [Int.reduceToNat] at ho5; rw [← Ny114.out] at ho5)); have n0_ := Aside0.mk (Kd.V_elder' (by (with_reducible repeat (first | apply Kd.V_alloc | apply Kd.V_drewN | apply Kd.V_drew)); exact HO0.out) (Kd.N_base ho5) hb); have n1_ := Aside0.mk (Kd.V_elder' (by (with_reducible repeat (first | apply Kd.V_alloc | apply Kd.V_drewN | apply Kd.V_drew)); exact HO1.out) (Kd.N_base ho5) hb); have n2_ := Aside0.mk (Kd.N_lower ho5 (below_size (by repeat (first | (with_reducible first | exact HB.out | apply below_alloc | apply pw_below_drewN | apply below_drew1) | exact HB.out)))); have n3_ := Aside0.mk (below_step (by repeat (first | (with_reducible first | exact HB.out | apply below_alloc | apply pw_below_drewN | apply below_drew1) | exact HB.out)) hb); clear HO0; clear HO1; clear HB; have HO0 := n0_; have HO1 := n1_; have HO116 := n2_; have HB := n3_; clear n0_ n1_ n2_ n3_; clear hb ho5; obtain ⟨Ao6, co6, eo6⟩ := Kd.N_slice HO116.out; subst eo6) | ((with_reducible refine gate_callee (f := 25) rfl ?_); refine goesL_ (some 8) rfl rfl Try.func25 (by kernel_rfl) rfl #[.slice Ao6 y114.length co6] rfl (by (try simp only [List.map_toArray, List.map_cons, List.map_nil]); first | done | rfl | (simp only [List.length_drop, List.length_take]; rfl)) ?_; (with_reducible refine (idset_set.calls _ _ y114 t117 _ ?side1 ?side2 A3.out).mono ?_); (case side1 => repeat (first | exact (Kd.N_reads' HO116.out).2.2 | (with_reducible refine Kd.C_alloc ?_ _) | (with_reducible refine Kd.C_drewN ?_ _) | (with_reducible refine Kd.C_drew ?_))); (case side2 => exact (Kd.N_reads' HO116.out).2.1); rintro e w7 ⟨v118, rfl, ho0, hb⟩; refine ⟨_, rfl, ?_⟩; have n0_ := Aside0.mk (Kd.V_elder' (by (with_reducible repeat (first | apply Kd.V_alloc | apply Kd.V_drewN | apply Kd.V_drew)); exact HO0.out) (Kd.R_base ho0) hb); have n1_ := Aside0.mk (Kd.V_elder' (by (with_reducible repeat (first | apply Kd.V_alloc | apply Kd.V_drewN | apply Kd.V_drew)); exact HO1.out) (Kd.R_base ho0) hb); have n2_ := Aside0.mk (Kd.N_elder' (by (with_reducible repeat (first | apply Kd.N_alloc | apply Kd.N_drewN | apply Kd.N_drew)); exact HO116.out) (Kd.R_base ho0) hb); have n3_ := Aside0.mk (Kd.R_lower (Kd.R_newM (M := fun k_ => (w.heap.size ≤ k_)) ho0 (below_size (by repeat (first | (with_reducible first | exact HB.out | apply below_alloc | apply pw_below_drewN | apply below_drew1) | exact HB.out))) (fun k_ h_ => h_)) (below_size (by repeat (first | (with_reducible first | exact HB.out | apply below_alloc | apply pw_below_drewN | apply below_drew1) | exact HB.out)))); have n4_ := Aside0.mk (below_step (by repeat (first | (with_reducible first | exact HB.out | apply below_alloc | apply pw_below_drewN | apply below_drew1) | exact HB.out)) hb); clear HO0; clear HO1; clear HO116; clear HB; have HO0 := n0_; have HO1 := n1_; have HO116 := n2_; have HO119 := n3_; have HB := n4_; clear n0_ n1_ n2_ n3_ n4_; (try clear hb); (try clear hb2); (try clear hk); (try clear hi); (try clear ho0)))
  go_ret
  exact ⟨_, by first | rfl | (simp [errW_none, errW_some] <;> rfl) | (simp [*, errW_none, errW_some] <;> rfl), by (with_reducible repeat (first | apply Kd.R_alloc | apply Kd.R_drewN | apply Kd.R_drew)); exact Kd.R_mono HO119.out (fun _ hk => hk.1), by repeat (first | (with_reducible first | exact HB.out | apply below_alloc | apply pw_below_drewN | apply below_drew1) | exact HB.out)⟩

/-! ### idset_only: function 27 -/
/-- A call of a function value that stands in a slot, in a plain region. -/
theorem goesLV_ {P : Program} {ops : Array Oper} {Q : Exit → Act → World → Prop} {rest : List Oper} {oi : Oper} {a : Act} {w : World} (N : Option Tmp) (hd : oi.dst = N) (hg : oi.guard = none) {f : FuncId} {fn : Func} {j : Tmp} {xs_ : Array Operand} {ts : Array TypeId} (hf : P.funcs[f]? = some fn) (hname : (fn.name == "runtime.NumGoroutine") = false) (hb : fn.body.isSome = true) (lb : Array Value) (args : Array Value)
    (hop : oi.op = .call { callee := .value (.tmp j), args := xs_, argTypes := ts }) (hv : a.eval (.tmp j) = .func (.func f) #[] lb) (hargs : xs_.map a.eval = args)
    (h : Calls P f (args ++ lb) w fun e w' => ∃ v, e = .returned v ∧ wpList P ops Q rest (a.put N v) w') : wpList P ops Q (oi :: rest) a w := by
  refine wpList_plain hg fun K hK => ?_
  have he := enters_ hf hname hb (args ++ lb) w
  have hrun : (execOp a.eval oi).run P w = .ok (.enter f (args ++ lb)) w := by
    unfold execOp
    simp [hop, resolve, Deferred.ofValue, invoke, hargs, he, hv]
  unfold Oper.wp
  rw [hrun, Oper.upon_enter]
  refine h.mono fun e w'' hh => ?_
  obtain ⟨v, rfl, hk⟩ := hh
  subst hd
  exact hK _ _ hk
theorem sorted_setOf (xs : List Int) : (setOf xs).Pairwise (· < ·) := by
  unfold setOf
  have hs : (xs.mergeSort fun x y => decide (x ≤ y)).Pairwise (· ≤ ·) := by
    have := List.pairwise_mergeSort (le := fun x y : Int => decide (x ≤ y)) (fun a b c h1 h2 => by simp at *; omega) (fun a b => by simp; omega) xs
    exact this.imp (fun h => by simpa using h)
  generalize (xs.mergeSort fun x y => decide (x ≤ y)) = ys at hs
  unfold Go.Lib.compact Go.Lib.compactUpTo
  rw [List.pairwise_map]
  have hr : ((List.range ys.length).filter (Go.Lib.keeps ys.toArray)).Pairwise (· < ·) := List.Pairwise.filter _ List.pairwise_lt_range
  refine hr.imp_of_mem ?_
  intro i j hi hj hij
  have hj1 := (List.mem_filter.1 hj).1
  have hj2 := (List.mem_filter.1 hj).2
  rw [List.mem_range] at hj1
  have hk : ys.toArray[j]! ≠ ys.toArray[j - 1]! := by
    intro he
    rw [Go.Lib.keeps_neg (by omega) he] at hj2
    cases hj2
  have e1 : ys.toArray[j]! = ys[j] := by simp [hj1]
  have e2 : ys.toArray[j - 1]! = ys[j - 1]'(by omega) := by simp [show j - 1 < ys.length by omega]
  have e3 : ys.toArray[i]! = ys[i]'(by omega) := by simp [show i < ys.length by omega]
  rw [e1, e2] at hk
  rw [e1, e3]
  have h1 : ys[j - 1]'(by omega) ≤ ys[j] := List.pairwise_iff_getElem.1 hs (j - 1) j (by omega) hj1 (by omega)
  have h2 : ys[i]'(by omega) ≤ ys[j - 1]'(by omega) := by
    rcases Nat.lt_or_ge i (j - 1) with h | h
    · exact List.pairwise_iff_getElem.1 hs i (j - 1) (by omega) (by omega) h
    · have : i = j - 1 := by omega
      subst this; exact Int.le_refl _
  omega
/-- What the literal of 'only' finds in memory. -/
def OnlyAt (W : World) (g7 g5 g : Nat) (Ao : Option Addr) (co : Nat) (ys : List Int) : Prop :=
  W.heap[g7]? = some (.cells #[.slice Ao ys.length co] 22 (0, 0)) ∧ W.heap[g5]? = some (.cells #[.func (.func g) #[] #[]] 34 (0, 0)) ∧ W.ownsRow 0 3 1 (.slice Ao ys.length co) ys.length (ys.map (Value.int .i64))
theorem OnlyAt.move {W W' : World} {g7 g5 g : Nat} {Ao : Option Addr} {co : Nat} {ys : List Int} (h : OnlyAt W g7 g5 g Ao co ys) (h7 : W'.heap[g7]? = W.heap[g7]?) (h5 : W'.heap[g5]? = W.heap[g5]?) (ho : ∀ k, (Value.slice Ao ys.length co).ownBlock = some k → W'.heap[k]? = W.heap[k]?) : OnlyAt W' g7 g5 g Ao co ys :=
  ⟨h7.trans h.1, h5.trans h.2.1, own_move h.2.2 ho⟩
set_option maxHeartbeats 1000000 in
/-- The literal of 'only': it tells whether an element is to be struck. -/
theorem only_lit (K : Bool → Bool) (g : Nat) (fng : Func) (hgf : Try.prog.funcs[g]? = some fng) (hgn : (fng.name == "runtime.NumGoroutine") = false) (hgb : fng.body.isSome = true)
    (hK : ∀ (b : Bool) (W : World), Calls Try.prog g #[.bool b] W fun e w' => e = .returned (.bool (K b)) ∧ w' = W)
    (W : World) (g7 g5 : Nat) (Ao : Option Addr) (co : Nat) (ys : List Int) (hs : ys.Pairwise (· < ·)) (hl : ys.length < 4611686018427387904) (h : OnlyAt W g7 g5 g Ao co ys) (x : Int) :
    FnGives Try.prog 35 #[.pointer (some ⟨g7, 0, none⟩), .pointer (some ⟨g5, 0, none⟩)] #[.int .i64 x] (.bool (!K (ys.contains x))) W := by
  show Calls Try.prog 35 #[.int .i64 x, .pointer (some ⟨g7, 0, none⟩), .pointer (some ⟨g5, 0, none⟩)] W _
  have hB : ∀ W' : World, OnlyAt W' g7 g5 g Ao co ys → Calls Try.prog 36 #[.slice Ao ys.length co, .int .i64 x] W' fun e w' => (∃ m : Int, e = .returned (.tuple #[.int .i64 m, .bool (ys.contains x)])) ∧ ∃ q, w' = W'.drewN q := by
    intro W' h'
    by_cases hy : ys = []
    · subst hy
      refine (Sh.Try.slices_BinarySearch_int_empty Ao co x W').mono ?_
      rintro e w' ⟨rfl, rfl⟩
      exact ⟨⟨0, rfl⟩, 0, rfl⟩
    · have hv : (Value.slice Ao ys.length co) ≠ .slice none 0 0 := by
        intro e
        injection e with _ e2 _
        exact hy (List.eq_nil_of_length_eq_zero e2)
      obtain ⟨gb, cap, e, _, _, _, _, _, hH⟩ := Go.Lib.holds_of_ownsRow h'.2.2 hv
      injection e with e1 _ e3
      subst e1 e3
      have hc := Sh.Try.slices_BinarySearch_int gb 0 ys.length co ys x W' (Nat.le_refl _) hl (fun j hj => by
        have := (hH j (by simpa using hj)).1
        rw [this]
        simp [hj]) (by rw [List.take_length]; exact hs.imp (fun h => Int.le_of_lt h))
      rw [List.take_length] at hc
      refine hc.mono ?_
      rintro e w' ⟨rfl, hq⟩
      exact ⟨⟨_, rfl⟩, hq⟩
  have hB' := hB W h
  clear hB
  generalize ys.contains x = has at hB' ⊢
  have HB := Aside0.mk hB'
  have hK' : ∀ (b : Bool) (W : World), Calls Try.prog g (#[Value.bool b] ++ #[]) W fun e w' => e = .returned (.bool (K b)) ∧ w' = W := hK
  have HK := Aside0.mk hK'
  have HF := Aside0.mk hgf
  have HN := Aside0.mk hgn
  have HM := Aside0.mk hgb
  have q7 : W.cell? ⟨g7, 0, none⟩ = some (.slice Ao ys.length co) := (blk_cell h.1 0).trans rfl
  have q5 : W.cell? ⟨g5, 0, none⟩ = some (.func (.func g) #[] #[]) := (blk_cell h.2.1 0).trans rfl
  clear h hB' hK hK' hgf hgn hgb hs hl
  go_enter Try.func35, Try.ntmps35
  go_wp2_with (first
    | (go_at_call 36; refine HB.out.mono ?_; rintro e w1 ⟨⟨m, rfl⟩, q, rfl⟩)
    | ((with_reducible refine gate_dst (N := 15) rfl ?_); refine goesLV_ (some 15) rfl rfl HF.out HN.out HM.out #[] #[.bool has] rfl rfl (by (try simp only [List.map_toArray, List.map_cons, List.map_nil]); first | done | rfl) ?_; refine (HK.out _ _).mono ?_; rintro e w2 ⟨rfl, rfl⟩; refine ⟨_, rfl, ?_⟩))
  go_ret
  exact ⟨rfl, _, rfl⟩
theorem lit_row (W : World) (A : Option Addr) (c : Nat) (b : List Int) (t : TypeId) (fr : Nat × Nat) (hC : Kd.C (Kd.int .i64) W A b.length b) (hl : b.length ≤ c) : Kd.C (Kd.slice 3 (Kd.int .i64)) (W.alloc (.cells #[.slice A b.length c] t fr)) (some ⟨W.heap.size, 0, none⟩) 1 [b] := by
  refine ⟨rfl, by decide, fun _ => ⟨_, rfl, fun j p hp => ?_⟩⟩
  cases j with
  | succ j => simp at hp
  | zero =>
    simp at hp
    subst hp
    refine ⟨[.slice A b.length c], rfl, ⟨A, c, rfl, hl, Kd.C_alloc hC _⟩, fun i u hu => ?_⟩
    cases i with
    | succ i => simp at hu
    | zero =>
      simp at hu
      subst hu
      have hadd : (⟨W.heap.size, 0, none⟩ : Addr).add (0 * 1 + 0) = ⟨W.heap.size, 0, none⟩ := by rw [Addr.add_lit]
      show (W.alloc (.cells #[.slice A b.length c] t fr)).cell? ((⟨W.heap.size, 0, none⟩ : Addr).add (0 * 1 + 0)) = _
      rw [hadd, World.cell?_alloc_mark]
      rfl
theorem set_one (xs : List Int) (h : xs.length * 8 ≤ 140737488355328) : idset_set.f [xs] = some (setOf xs) := by
  unfold idset_set.f slices_Concat_int_int.f
  have e : slices_Concat_int_int.total [xs] = xs.length := by simp [slices_Concat_int_int.total]
  rw [e, if_pos h]
  simp only [Option.bind_some, List.flatten_cons, List.flatten_nil, List.append_nil]
  rw [if_pos (by omega)]
/-- The row of a call's own, as DeleteFunc's contract asks; an empty one goes its own way. -/
theorem delete_own (K : Bool → Bool) (g : Nat) (fng : Func) (hgf : Try.prog.funcs[g]? = some fng) (hgn : (fng.name == "runtime.NumGoroutine") = false) (hgb : fng.body.isSome = true)
    (hK : ∀ (b : Bool) (W : World), Calls Try.prog g #[.bool b] W fun e w' => e = .returned (.bool (K b)) ∧ w' = W)
    (v : Value) (xs ys : List Int) (w0 w : World) (base g7 g5 : Nat) (Ao : Option Addr) (co : Nat) (hs : ys.Pairwise (· < ·)) (hl : ys.length < 4611686018427387904) (hat : OnlyAt w g7 g5 g Ao co ys) (hno : ∀ k, (Value.slice Ao ys.length co).ownBlock = some k → k < base)
    (h7 : g7 < base) (h5 : g5 < base) (ho : (Kd.int .i64).R 3 w base (fun _ => True) v xs) (hb : Below w0.heap.size w0 w) (hbs : base ≤ w.heap.size) (hbw : w0.heap.size ≤ base) (hsz : xs.length ≤ 9223372036854775807) :
    Calls Try.prog 34 #[v, .func (.func 35) #[] #[.pointer (some ⟨g7, 0, none⟩), .pointer (some ⟨g5, 0, none⟩)]] w fun e w' => ∃ v', e = .returned v' ∧ (Kd.int .i64).R 3 w' w0.heap.size (fun _ => True) v' (xs.filter fun x => K (ys.contains x)) ∧ Below w0.heap.size w0 w' := by
  by_cases hx : xs = []
  · subst hx
    obtain ⟨A, c, rfl⟩ := Kd.R_slice ho
    have HO := Aside0.mk ho
    have HB := Aside0.mk hb
    have HW := Aside0.mk hbw
    clear ho hb hbs hbw hat hno h7 h5 hs hl hK hgf hgn hgb hsz
    go_enter Try.func34, Try.ntmps34
    go_wp2_with (go_at_call 40; refine (Sh.Try.slices_IndexFunc_empty (α := Int) A c _ _).mono ?_; rintro e w' ⟨rfl, rfl⟩)
    go_ret
    exact ⟨_, rfl, Kd.R_lower HO.out HW.out, HB.out⟩
  · have hown := ints_own ho
    have hv : v ≠ .slice none 0 0 := by
      rintro rfl
      obtain ⟨A, c, e⟩ := Kd.R_slice ho
      injection e with _ e2 _
      exact hx (List.eq_nil_of_length_eq_zero e2.symm)
    obtain ⟨gb, cap, rfl, hbg, hlt, hn, hm, hlen, hH⟩ := Go.Lib.holds_of_ownsRow hown hv
    have eg : ∀ args w, (callFunc 35 args).run Try.prog w = .ok (.enter 35 args) w := enters_of Try.func35 (by kernel_rfl) rfl
    have hO : Go.Proofs.OneCell (Value.int .i64) := fun _ => rfl
    have hp : PredAt Try.prog 35 #[.pointer (some ⟨g7, 0, none⟩), .pointer (some ⟨g5, 0, none⟩)] (Value.int .i64) (fun x => !K (ys.contains x)) w := fun W x hB =>
      only_lit K g fng hgf hgn hgb hK W g7 g5 Ao co ys hs hl (hat.move (hB.block _ (by omega)) (hB.block _ (by omega)) (fun k hk => hB.block k (by have := hno k hk; omega))) x
    have hpo : PredOver Try.prog 35 #[.pointer (some ⟨g7, 0, none⟩), .pointer (some ⟨g5, 0, none⟩)] (Value.int .i64) (fun x => !K (ys.contains x)) gb 0 xs.toArray.size w := fun n os dk x _ => by
      have hk : ∀ k, k < base → (Go.Sort.grow (Go.Sort.putRow (Value.int .i64) (Go.Sort.ahead w n) gb 0 dk) os).heap[k]? = w.heap[k]? := fun k hk => by
        simp only [Go.Sort.grow]
        rw [Array.getElem?_append_left (by rw [Go.Sort.size_putRow]; show k < w.heap.size; omega)]
        simp [Go.Sort.putRow, Go.Sort.mapBlock, Go.Sort.ahead, Array.getElem?_modify, show gb ≠ k by omega]
      exact only_lit K g fng hgf hgn hgb hK _ g7 g5 Ao co ys hs hl (hat.move (hk _ h7) (hk _ h5) (fun k h => hk k (hno k h))) x
    have hc := Sh.Try.slices_DeleteFunc (Value.int .i64) hO (fun x => !K (ys.contains x)) 35 #[.pointer (some ⟨g7, 0, none⟩), .pointer (some ⟨g5, 0, none⟩)] eg 0 Try.zeroValue3 gb 0 cap xs.toArray w hp hpo hH (by simpa using hsz) (by simpa using hn)
    rw [List.size_toArray] at hc
    refine hc.mono ?_
    rintro e w' ⟨rfl, q, rfl⟩
    have hle : (xs.filter fun x => K (ys.contains x)).length ≤ xs.length := List.length_filter_le _ _
    have hf : (xs.toArray.toList.filter fun x => !!K (ys.contains x)) = xs.filter fun x => K (ys.contains x) := by simp
    rw [hf]
    clear hf hp hpo hc
    generalize (xs.filter fun x => K (ys.contains x)) = fl at hle ⊢
    have h1 := Go.Lib.ownsRow_putRow (q := q) (k := fl.length) (ys := fl ++ List.replicate (xs.length - fl.length) 0) hown (by simp; omega) hle
    rw [List.take_left' rfl] at h1
    exact ⟨_, rfl, Kd.R_lower (own_ints h1 (fun _ _ => trivial)) hbw, Go.Lib.below_putRow hb (by omega)⟩
set_option maxHeartbeats 2000000 in
theorem only_calls (K : Bool → Bool) (g : Nat) (fng : Func) (hgf : Try.prog.funcs[g]? = some fng) (hgn : (fng.name == "runtime.NumGoroutine") = false) (hgb : fng.body.isSome = true)
    (hK : ∀ (b : Bool) (W : World), Calls Try.prog g #[.bool b] W fun e w' => e = .returned (.bool (K b)) ∧ w' = W)
    (A0 : Option Addr) (c0 : Nat) (a : List Int) (A1 : Option Addr) (c1 : Nat) (b : List Int) (w : World) (hr0 : Kd.C (Kd.int .i64) w A0 a.length a) (hc0 : a.length ≤ c0) (hr1 : Kd.C (Kd.int .i64) w A1 b.length b) (hc1 : b.length ≤ c1)
    (ha : a.length * 8 ≤ 140737488355328) (hb : b.length * 8 ≤ 140737488355328) :
    Calls Try.prog 27 #[.slice A0 a.length c0, .slice A1 b.length c1, .func (.func g) #[] #[]] w fun e w' => ∃ v', e = .returned v' ∧ (Kd.int .i64).R 3 w' w.heap.size (fun _ => True) v' ((setOf a).filter fun x => K ((setOf b).contains x)) ∧ Below w.heap.size w w' := by
  have HR0 := Aside0.mk hr0
  have HC0 := Aside0.mk hc0
  have HR1 := Aside0.mk hr1
  have HC1 := Aside0.mk hc1
  have HA := Aside0.mk (set_one a ha)
  have HBb := Aside0.mk (set_one b hb)
  have HK := Aside0.mk hK
  have HF := Aside0.mk hgf
  have HN := Aside0.mk hgn
  have HM := Aside0.mk hgb
  have hsl : ∀ xs : List Int, (setOf xs).length ≤ xs.length := fun xs => by
    unfold setOf Go.Lib.compact Go.Lib.compactUpTo
    rw [List.length_map]
    have := List.length_filter_le (Go.Lib.keeps (xs.mergeSort fun x y => decide (x ≤ y)).toArray) (List.range (xs.mergeSort fun x y => decide (x ≤ y)).length)
    simpa using this
  have HLa : Aside0 ((setOf a).length ≤ 9223372036854775807) := ⟨by have := hsl a; omega⟩
  have HLb : Aside0 ((setOf b).length < 4611686018427387904) := ⟨by have := hsl b; omega⟩
  have HSb := Aside0.mk (sorted_setOf b)
  clear hr0 hc0 hr1 hc1 ha hb hK hgf hgn hgb hsl
  go_enter Try.func27, Try.ntmps27
  go_upto_region 1 with fail
  have HG5 := Aside0.mk (heap_alloc_new w (.cells #[.func (.func g) #[] #[]] 34 (0, 0)))
  have HB := Aside0.mk (below_alloc (Below.refl w.heap.size w) (.cells #[.func (.func g) #[] #[]] 34 (0, 0)))
  generalize w.alloc (.cells #[.func (.func g) #[] #[]] 34 (0, 0)) = wa at HG5 HB ⊢
  generalize hg5_ : w.heap.size = g5 at HG5 ⊢
  have HGE5 := Aside0.mk hg5_
  clear hg5_
  go_cut [7] (fun v7 wc => ∃ (g7 : Nat) (Ao : Option Addr) (co : Nat), v7 = .pointer (some ⟨g7, 0, none⟩) ∧ w.heap.size ≤ g7 ∧ OnlyAt wc g7 g5 g Ao co (setOf b) ∧ (∀ k, (Value.slice Ao (setOf b).length co).ownBlock = some k → k < wc.heap.size) ∧ Below wa.heap.size wa wc)
  case first =>
    have hg5 := blk_lt HG5.out
    go_wp2_with (go_at_call 25; refine (idset_set.calls (some ⟨wa.heap.size, 0, none⟩) 1 [b] (setOf b) _ (lit_row wa A1 c1 b _ _ (Kd.C_below HR1.out HB.out) HC1.out) (Nat.le_refl 1) HBb.out).mono ?_; rintro e w1 ⟨v0, rfl, ho, hb⟩; obtain ⟨Ao, co, rfl⟩ := Kd.R_slice ho; have HO := Aside0.mk ho; have HB1 := Aside0.mk (below_step (below_alloc (Below.refl wa.heap.size wa) _) hb); clear ho hb)
    go_meet
    have h1 := below_size HB1.out
    have h2 := below_size HB.out
    refine ⟨_, Ao, co, rfl, by omega, ⟨heap_alloc_new _ _, blk_below HG5.out (below_alloc HB1.out _), ?_⟩, ?_, below_alloc HB1.out _⟩
    · exact own_move (ints_own (Kd.R_lower HO.out (Nat.zero_le _))) (fun k hk => by
        have := Kd.R_bound HO.out
        exact (below_alloc (Below.refl w1.heap.size w1) _).block k (this.1 k hk).2.2.1)
    · intro k hk
      have := (Kd.R_bound HO.out).1 k hk
      simp
      have h3 := this.2.2.1
      omega
  case rest =>
  obtain ⟨wb, hw_⟩ : ∃ x : World, x = wc := ⟨_, rfl⟩
  subst hw_
  obtain ⟨g7, Ao, co, rfl, hge7, hat, hno, hb⟩ := hcut
  have HAT := Aside0.mk hat
  have HNO := Aside0.mk hno
  have HBn := Aside0.mk (below_step HB.out hb)
  clear hge7 hat hno hb HB
  go_wp2_with (first
    | (go_at_call 25; refine (idset_set.calls (some ⟨wb.heap.size, 0, none⟩) 1 [a] (setOf a) _ (lit_row wb A0 c0 a _ _ (Kd.C_below HR0.out HBn.out) HC0.out) (Nat.le_refl 1) HA.out).mono ?_; rintro e w1 ⟨v0, rfl, ho, hb⟩; have HO := Aside0.mk ho; have HS1 := Aside0.mk (below_size hb); have HB1 := Aside0.mk (below_step (below_alloc (Below.refl wb.heap.size wb) _) hb); clear ho hb)
    | (go_at_call 34; refine (delete_own K g _ HF.out HN.out HM.out HK.out v0 (setOf a) (setOf b) w _ (wb.heap.size + 1) g7 g5 Ao co HSb.out HLb.out (HAT.out.move (HB1.out.block _ (blk_lt HAT.out.1)) (HB1.out.block _ (blk_lt HAT.out.2.1)) (fun k hk => HB1.out.block k (HNO.out k hk))) (fun k hk => by have := HNO.out k hk; omega) (by have := blk_lt HAT.out.1; omega) (by have := blk_lt HAT.out.2.1; omega) (Kd.R_lower HO.out (by simp)) (below_step HBn.out HB1.out) (by have := HS1.out; simpa using this) (by have := below_size HBn.out; omega) HLa.out).mono ?_; rintro e w2 ⟨v2, rfl, ho, hb⟩; have HO2 := Aside0.mk ho; have HB2 := Aside0.mk hb; clear ho hb))
  go_ret
  exact ⟨_, rfl, HO2.out, HB2.out⟩
def onlyOf (K : Bool → Bool) (a b : List Int) : List Int := (setOf a).filter fun x => K ((setOf b).contains x)
def idset_only.f (_ : List Int) (_ : List Int) : Option (List Int) := none

/-! ### idset_Inter: function 20 -/
def idset_Inter.f (l0 l1 : List Int) : Option (List Int) := if l0.length * 8 ≤ 140737488355328 then (if l1.length * 8 ≤ 140737488355328 then some (onlyOf id l0 l1) else none) else none
theorem idset_Inter.keep (b : Bool) (W : World) : Calls Try.prog 28 #[.bool b] W fun e w' => e = .returned (.bool (id b)) ∧ w' = W := by
  go_enter Try.func28, Try.ntmps28
  go_wp2
  go_ret
  exact ⟨rfl, rfl⟩
theorem idset_Inter.calls (A0 : Option Addr) (c0 : Nat) (l0 : List Int) (A1 : Option Addr) (c1 : Nat) (l1 : List Int) (r : List Int) (w : World) (hr0 : Kd.C (Kd.int .i64) w A0 l0.length l0) (hc0 : l0.length ≤ c0) (hr1 : Kd.C (Kd.int .i64) w A1 l1.length l1) (hc1 : l1.length ≤ c1) (h : idset_Inter.f l0 l1 = some r) :
    Calls Try.prog 20 #[.slice A0 l0.length c0, .slice A1 l1.length c1] w fun e w' => ∃ v0_ : Value, e = .returned (v0_) ∧ Kd.R (Kd.int .i64) 3 w' w.heap.size (fun _ => True) v0_ r ∧ Below w.heap.size w w' := by
  unfold idset_Inter.f at h
  by_cases h0 : l0.length * 8 ≤ 140737488355328
  case neg => rw [if_neg h0] at h; cases h
  by_cases h1 : l1.length * 8 ≤ 140737488355328
  case neg => rw [if_pos h0, if_neg h1] at h; cases h
  rw [if_pos h0, if_pos h1] at h
  injection h with h
  have HX := Aside0.mk (only_calls id 28 Try.f28 Try.func28 (by kernel_rfl) rfl idset_Inter.keep A0 c0 l0 A1 c1 l1 w hr0 hc0 hr1 hc1 h0 h1)
  have HH := Aside0.mk h
  clear hr0 hc0 hr1 hc1 h0 h1 h
  go_enter Try.func20, Try.ntmps20
  go_wp2_with (go_at_call 27; refine HX.out.mono ?_; rintro e w1 ⟨v1, rfl, ho, hb⟩; have HO := Aside0.mk ho; have HB := Aside0.mk hb; clear ho hb)
  go_ret
  exact ⟨_, rfl, by rw [← HH.out]; exact HO.out, HB.out⟩

end Go.Proofs.Ytjdijlijojembaa.PA
