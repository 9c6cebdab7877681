-- Written by wip/pp.py of this repository, on the kit's print program. Not trusted: Lean checks it.
import Derived.Test.YtbogbpbapgjndaaPAx0
import Derived.Test.YtbogbpbapgjndaaPAx1
namespace Go.Proofs.Ytbogbpbapgjndaa.PA
open Go.RowKit Go.Proofs.YtbogbpbapgjndaaW.PrintWords Go.Proofs.YtbogbpbapgjndaaW.PrintLast Go.Proofs.YtbogbpbapgjndaaW.PrintMore
attribute [local go_sem] max2_int min2_int max_two min_two max_three min_three max_four min_four   -- for this text's walks alone
set_option linter.unusedVariables false
set_option linter.unusedSimpArgs false

/-! ### slices_Clone_byte_byte: function 30 -/
def slices_Clone_byte_byte.f (l0 : List Int) : Option (List Int) := if l0.length * 1 ≤ 140737488355328 then some l0 else none
set_option maxHeartbeats 1000000 in
theorem slices_Clone_byte_byte.calls (A0 : Option Addr) (c0 : Nat) (l0 : List Int) (r : List Int) (w : World) (hr0 : Kd.C (Kd.int .u8) w A0 l0.length l0) (hc0 : l0.length ≤ c0) (h : slices_Clone_byte_byte.f l0 = some r) :
    Calls Try.prog 30 #[.slice A0 l0.length c0] w fun e w' => ∃ v0_ : Value, e = .returned (v0_) ∧ Kd.R (Kd.int .u8) 5 w' w.heap.size (fun _ => True) v0_ r ∧ Below w.heap.size w w' := by
  unfold slices_Clone_byte_byte.f at h
  by_cases g : l0.length * 1 ≤ 140737488355328
  case neg => rw [if_neg g] at h; cases h
  rw [if_pos g] at h
  injection h with h
  have HG := Aside0.mk g
  have HH := Aside0.mk h
  have HR := Aside0.mk hr0
  have hsn := Lib.run_eql_slice_nil (P := Try.prog) w 22 5 A0 l0.length c0 0 0 Try.underlying22
  have HB := Aside0.mk (Below.refl w.heap.size w)
  cases A0 with
  | none =>
    have hl : l0 = [] := by
      cases l0 with
      | nil => rfl
      | cons x t =>
        obtain ⟨ad, h2, _⟩ := hr0.2.2 (by simp)
        cases h2
    subst hl
    clear h g hr0
    rw [show (none : Option Addr).isNone = true from rfl, List.length_nil] at hsn
    rw [List.length_nil]
    go_enter Try.func30, Try.ntmps30
    go_wp2
    go_ret
    exact ⟨_, rfl, by rw [← HH.out]; exact Kd.R_nil _ _ _ _ _, HB.out⟩
  | some ad =>
    clear h g hr0
    rw [show (some ad : Option Addr).isNone = false from rfl] at hsn
    go_enter Try.func30, Try.ntmps30
    go_wp2_with (first | ((with_reducible refine gate_dst (N := 5) rfl ?_); refine Kd.R_lit (Kd.int .u8) _ 5 ?hg (N := 5) ?hd (xs := ([] : List Int)) (inner := []) (ok := fun _ => True) (okp := fun _ => True) ?hr ?hp (fun _ hk => hk) trivial (Below.refl _ _) (Nat.le_refl _) (by simp) ?_; (case hd => rfl); (case hg => rfl); (case hr => first | (go_simp; done) | (go_simp; rfl)); (case hp => exact (Reps.none _ _)); intro v5 w6 ho7 hb _ _; have HO5 := Aside0.mk ho7; have HB1 := Aside0.mk hb; clear hb ho7) | ((with_reducible refine gate_builtin (b := .append) (xs := #[.tmp 5, .tmp 6]) rfl ?_); at_builtin; refine Kd.R_append_rows (Kd.int .u8) (w0 := w) w.heap.size rfl (.tmp 5) (.tmp 6) 22 5 (.int .u8 0) 1 rfl Try.underlying22 info5 rfl (by decide) (by omega) v5 [] l0 _ _ _ (fun _ => True) (fun _ => False) rfl rfl HO5.out (Kd.C_below HR.out HB1.out) (fun _ _ h => h) (fun _ h => h.elim) (fun _ _ => trivial) HB1.out (below_size HB1.out) (by have := HG.out; simp; omega) ?_; intro v113 w8 ho hb _ _; have HO6 := Aside0.mk ho; have HB2 := Aside0.mk hb; clear ho hb))
    go_ret
    exact ⟨_, rfl, by rw [← HH.out]; exact HO6.out, HB2.out⟩

/-! ### digest_Open: function 18 -/
def digest_Open.f (l0 : List Int) : Option (List Int × Int) :=
  if l0.all (fun x => decide (0 ≤ x) && decide (x ≤ 255)) = true then if l0.length ≤ 140737488355328 then if l0.length < 4 then some ([], 5)
  else (digest_sum.f (l0.take (l0.length - 4))).bind fun c => if l0.drop (l0.length - 4) = tailL c then some (l0.take (l0.length - 4), 0) else some ([], 6)
  else none else none
theorem run_load_arr {P : Program} (w : World) (ty : TypeId) (ad : Addr) (cs : List Value) (d : TypeDesc) (hc : ∀ j v, cs[j]? = some v → w.cell? (ad.add j) = some v) (hu : P.underlying ty = some d) (hd : (match d with | .struct _ | .array _ _ => true | _ => false) = true) (hi : (P.info? ty).map (·.size) = some cs.length) :
    (loadVar ty ad).run P w = .ok (.agg cs.toArray) w := by
  have hl : (loadCells ad cs.length).run P w = .ok cs.toArray w := run_loadCells_list (P := P) w ad cs hc
  cases hq : P.info? ty with
  | none => simp [hq] at hi
  | some i =>
    have hs : i.size = cs.length := by simpa [hq] using hi
    have hagg : (isAgg ty).run P w = .ok true w := by
      unfold isAgg
      rw [Sem.run_bind, run_underlying hu w]
      cases d <;> simp_all
    simp [loadVar, Sem.run_bind, hagg, sizeOf, typeInfo, hq, hs, hl]
set_option maxHeartbeats 1000000 in
theorem open_short (A0 : Option Addr) (c0 : Nat) (n : Nat) (w : World) (hn : n < 4) :
    Calls Try.prog 18 #[.slice A0 n c0] w fun e w' => e = .returned (.tuple #[.slice none 0 0, .int .i64 5]) ∧ w = w' := by
  have hb : decide ((n : Int) - 4 < 0) = true := by simp; omega
  go_enter Try.func18, Try.ntmps18
  go_wp2
  go_ret2
  exact ⟨rfl, rfl⟩
theorem exec_load {P : Program} {oi : Oper} {a : Act} {w : World} {ty : TypeId} {x : Operand} {ad : Addr} {v : Value} (ho : oi.op = .load ty x) (hx : a.eval x = .pointer (some ad)) (h : (loadVar ty ad).run P w = .ok v w) : (execOp a.eval oi).run P w = .ok (.value v) w := by
  unfold execOp
  simp only [ho, hx, Instr.loadAt, Instr.sureAddr, Sem.run_bind, Sem.run_pure, Result.andThen_ok, h]
theorem take_reads {ad : Addr} {N : Nat} {l0 : List Int} {w : World} (hl : l0.length = N + 4) (hr : Kd.C (Kd.int .u8) w (some ad) (N + 4) l0) : Kd.C (Kd.int .u8) w (some ad) (l0.take N).length (l0.take N) := by
  have hlen : (l0.take N).length = N := by rw [List.length_take]; omega
  rw [hlen]
  obtain ⟨q1, q2, q3⟩ := hr
  refine ⟨hlen, by omega, fun _ => ?_⟩
  obtain ⟨ad', e, hq⟩ := q3 (by omega)
  refine ⟨ad', e, fun j p hp => hq j p ?_⟩
  rw [List.getElem?_take] at hp
  split at hp
  · exact hp
  · cases hp
theorem sum_take {ad : Addr} {c0 N : Nat} {l0 : List Int} {w w4 : World} {c : Int} (hl : l0.length = N + 4) (hr : Kd.C (Kd.int .u8) w (some ad) (N + 4) l0) (hb : Below w.heap.size w w4) (hc : N ≤ c0) (h : digest_sum.f (l0.take N) = some c) :
    Calls Try.prog 25 #[.slice (some ad) N c0] w4 fun e w' => e = .returned (.int .u32 c) ∧ Below w.heap.size w w' := by
  have hlen : (l0.take N).length = N := by rw [List.length_take]; omega
  have hC : Kd.C (Kd.int .u8) w4 (some ad) (l0.take N).length (l0.take N) := by
    rw [hlen]
    obtain ⟨q1, q2, q3⟩ := Kd.C_below hr hb
    refine ⟨hlen, by omega, fun _ => ?_⟩
    obtain ⟨ad', e, hq⟩ := q3 (by omega)
    refine ⟨ad', e, fun j p hp => hq j p ?_⟩
    rw [List.getElem?_take] at hp
    split at hp
    · exact hp
    · cases hp
  have := digest_sum.calls (some ad) c0 (l0.take N) c w4 hC (by omega) h
  rw [hlen] at this
  exact this.mono fun e w' ⟨h1, h2⟩ => ⟨h1, below_step hb h2⟩
theorem clone_take {ad : Addr} {c0 N : Nat} {l0 r : List Int} {w w4 : World} (hlen : (l0.take N).length = N) (hC : Kd.C (Kd.int .u8) w (some ad) N (l0.take N)) (hb : Below w.heap.size w w4) (hc : N ≤ c0) (h : slices_Clone_byte_byte.f (l0.take N) = some r) :
    Calls Try.prog 30 #[.slice (some ad) N c0] w4 fun e w' => ∃ v0_ : Value, e = .returned (v0_) ∧ Kd.R (Kd.int .u8) 5 w' w.heap.size (fun _ => True) v0_ r ∧ Below w.heap.size w w' := by
  have := slices_Clone_byte_byte.calls (some ad) c0 (l0.take N) r w4 (by rw [hlen]; exact Kd.C_below hC hb) (by omega) h
  rw [hlen] at this
  exact this.mono fun e w' ⟨v, h1, h2, h3⟩ => ⟨v, h1, Kd.R_lower h2 (below_size hb), below_step hb h3⟩
def OpenPost (w : World) (l0 : List Int) (r : List Int) (x : Int) (e : Ending) (w' : World) : Prop := ∃ v0_ : Value, e = .returned (.tuple #[v0_, .int .i64 x]) ∧ Kd.R (Kd.int .u8) 5 w' w.heap.size (fun _ => True) v0_ r ∧ Below w.heap.size w w'
set_option maxHeartbeats 2000000 in
theorem open_long (ad : Addr) (c0 : Nat) (N : Nat) (l0 : List Int) (w : World) (hn : N + 4 ≤ 4611686018427387904) (hc : N + 4 ≤ c0) (hl : l0.length = N + 4) (hr : Kd.C (Kd.int .u8) w (some ad) (N + 4) l0) (X : List Int) (hX : X = l0.drop N) (c : Int) (hs : digest_sum.f (l0.take N) = some c)
    (b : Bool) (hneq : ∀ w', (binOp .neq 44 (.agg (X.map (Value.int .u8)).toArray) (.agg #[.int .u8 (c / 16777216 % 256), .int .u8 (c / 65536 % 256), .int .u8 (c / 256 % 256), .int .u8 (c % 256)])).run Try.prog w' = .ok (.bool b) w') (r : List Int) (x : Int) (hrx : (b = true ∧ r = [] ∧ x = 6) ∨ (b = false ∧ r = l0.take N ∧ x = 0 ∧ N + 4 ≤ 140737488355328)) :
    Calls Try.prog 18 #[.slice (some ad) (N + 4) c0] w (OpenPost w l0 r x) := by
  have hb : decide ((N : Int) < 0) = false := by simp
  have hcN : ¬ c0 = N := by omega
  have hN1 : (N : Int) ≤ (N : Int) + 4 := by omega
  have hN2 : N ≤ c0 := by omega
  have harr : ∀ w', (Instr.arrayAt 44 (.slice (some (ad.add N)) 4 (c0 - N))).run Try.prog w' = .ok (.pointer (some (ad.add N))) w' := fun w' => run_arrayAt w' 44 _ 4 _ 4 _ Try.underlying44 (by omega)
  have HS := Aside0.mk hs
  have HLd : Aside0 (∀ w', Below w.heap.size w w' → (loadVar 44 (ad.add N)).run Try.prog w' = .ok (.agg (X.map (Value.int .u8)).toArray) w') := ⟨fun w' hb => by
    refine run_load_arr w' 44 (ad.add N) (X.map (Value.int .u8)) _ (fun j v hj => ?_) Try.underlying44 rfl ?_
    · obtain ⟨_, _, q3⟩ := Kd.C_below hr hb
      obtain ⟨ad', e, hq⟩ := q3 (by omega)
      cases e
      rw [List.getElem?_map] at hj
      cases hx : X[j]? with
      | none => rw [hx] at hj; cases hj
      | some p =>
        rw [hx] at hj
        injection hj with hj
        subst hj
        rw [hX, List.getElem?_drop] at hx
        obtain ⟨cs, h1, h2, h3⟩ := hq (N + j) p hx
        have h2' : cs = [Value.int .u8 p] := h2
        subst h2'
        have := h3 0 _ rfl
        have hsz : (Kd.int .u8).sz = 1 := rfl
        rw [hsz, Nat.mul_one, Nat.add_zero] at this
        rw [Addr.add_add]
        exact this
    · rw [List.length_map, hX, List.length_drop, hl, Nat.add_sub_cancel_left]
      kernel_rfl⟩
  have HX := Aside0.mk hrx
  clear hrx hs hX
  go_enter Try.func18, Try.ntmps18
  go_wp2
  refine start_ (n := 11) (S := fun w' => Below w.heap.size w w') (ds := []) #[false, false, false, false, false, false, false, false, false, false, false] (by kernel_rfl) rfl rfl (Below.refl _ _).drew (fun hHeld => ?_)
  generalize w.drew = w3 at hHeld ⊢
  refine pure_ (i := 0) (N := some 10) (v := ?_) (a' := ?_) #[true, false, false, false, false, false, false, false, false, false, false] rfl rfl (by kernel_rfl) (fun _ _ _ h => h) (Or.inl ⟨by rfl, ?_⟩) ?_ ?_
  rotate_left
  · intro w'
    go_simp
    with_reducible rfl
  rotate_left
  · simp only [Act.put, List.setIfInBounds_toArray, List.set_cons_zero, List.set_cons_succ, i64_w, i32_w]
    rfl
  refine pure_ (i := 1) (N := some 11) (v := ?_) (a' := ?_) #[true, true, false, false, false, false, false, false, false, false, false] rfl rfl (by kernel_rfl) (fun _ _ _ h => h) (Or.inl ⟨by rfl, ?_⟩) ?_ ?_
  rotate_left
  · intro w'
    go_simp
    with_reducible rfl
  rotate_left
  · simp only [Act.put, List.setIfInBounds_toArray, List.set_cons_zero, List.set_cons_succ, i64_w, i32_w]
    rfl
  refine pure_ (i := 2) (N := some 12) (v := ?_) (a' := ?_) #[true, true, true, false, false, false, false, false, false, false, false] rfl rfl (by kernel_rfl) (fun _ _ _ h => h) (Or.inl ⟨by rfl, ?_⟩) ?_ ?_
  rotate_left
  · intro w'
    go_simp
    with_reducible rfl
  rotate_left
  · simp only [Act.put, List.setIfInBounds_toArray, List.set_cons_zero, List.set_cons_succ, i64_w, i32_w]
    rfl
  refine pure_ (i := 3) (N := some 13) (v := ?_) (a' := ?_) #[true, true, true, true, false, false, false, false, false, false, false] rfl rfl (by kernel_rfl) (fun _ _ _ h => h) (Or.inl ⟨by rfl, ?_⟩) ?_ ?_
  rotate_left
  · intro w'
    go_simp
    with_reducible rfl
  rotate_left
  · simp only [Act.put, List.setIfInBounds_toArray, List.set_cons_zero, List.set_cons_succ, i64_w, i32_w]
    rfl
  refine take_ (i := 4) (N := some 14) (v := .agg (X.map (Value.int .u8)).toArray) (a' := ?_) #[true, true, true, true, true, false, false, false, false, false, false] rfl rfl (by kernel_rfl) (fun _ _ _ h => h) (Or.inl ⟨by rfl, fun w' hS => ?_⟩) hHeld ?_ ?_
  · exact exec_load rfl rfl (HLd.out w' hS)
  rotate_left
  · simp only [Act.put, List.setIfInBounds_toArray, List.set_cons_zero, List.set_cons_succ, i64_w, i32_w]
    rfl
  refine pure_ (i := 5) (N := some 15) (v := ?_) (a' := ?_) #[true, true, true, true, true, true, false, false, false, false, false] rfl rfl (by kernel_rfl) (fun _ _ _ h => h) (Or.inl ⟨by rfl, ?_⟩) ?_ ?_
  rotate_left
  · intro w'
    go_simp
    with_reducible rfl
  rotate_left
  · simp only [Act.put, List.setIfInBounds_toArray, List.set_cons_zero, List.set_cons_succ, i64_w, i32_w]
    rfl
  refine pure_ (i := 6) (N := some 16) (v := ?_) (a' := ?_) #[true, true, true, true, true, true, true, false, false, false, false] rfl rfl (by kernel_rfl) (fun _ _ _ h => h) (Or.inl ⟨by rfl, ?_⟩) ?_ ?_
  rotate_left
  · intro w'
    go_simp
    with_reducible rfl
  rotate_left
  · simp only [Act.put, List.setIfInBounds_toArray, List.set_cons_zero, List.set_cons_succ, i64_w, i32_w]
    rfl
  refine pure_ (i := 7) (N := some 17) (v := ?_) (a' := ?_) #[true, true, true, true, true, true, true, true, false, false, false] rfl rfl (by kernel_rfl) (fun _ _ _ h => h) (Or.inl ⟨by rfl, ?_⟩) ?_ ?_
  rotate_left
  · intro w'
    go_simp
    with_reducible rfl
  rotate_left
  · simp only [Act.put, List.setIfInBounds_toArray, List.set_cons_zero, List.set_cons_succ, i64_w, i32_w]
    rfl
  refine one_ (i := 8) (N := some 18) #[true, true, true, true, true, true, true, true, true, false, false] rfl rfl (by kernel_rfl) (by decide) (fun K hK => ?_)
  refine goes_ Try.func25 (by kernel_rfl) rfl #[.slice (some ad) N c0] (by rfl) rfl rfl (by (try simp only [List.map_toArray, List.map_cons, List.map_nil]); first | done | rfl) ?_
  refine (sum_take hl hr hHeld (by omega) HS.out).mono ?_
  rintro e w4 ⟨rfl, hb4⟩
  refine ⟨_, rfl, ?_⟩
  refine hK.out _ _ hb4 (fun hHeld => ?_)
  clear hK K
  refine norm_ (a' := ?_) ?_ ?_
  rotate_left
  · show Act.put _ (some 18) _ = _
    simp only [Act.put, List.setIfInBounds_toArray, List.set_cons_zero, List.set_cons_succ, i64_w, i32_w]
    rfl
  refine one_ (i := 9) (N := some 19) #[true, true, true, true, true, true, true, true, true, true, false] rfl rfl (by kernel_rfl) (by decide) (fun K hK => ?_)
  refine goes_ Try.func28 (by kernel_rfl) rfl #[.int .u32 c] (by rfl) rfl rfl (by (try simp only [List.map_toArray, List.map_cons, List.map_nil]); first | done | rfl) ?_
  refine (tail_calls c _).mono ?_
  rintro e w5 ⟨rfl, hb5⟩
  refine ⟨_, rfl, ?_⟩
  refine hK.out _ _ (below_step hHeld hb5) (fun hHeld => ?_)
  clear hK K
  refine norm_ (a' := ?_) ?_ ?_
  rotate_left
  · show Act.put _ (some 19) _ = _
    simp only [Act.put, List.setIfInBounds_toArray, List.set_cons_zero, List.set_cons_succ, i64_w, i32_w]
    rfl
  refine pure_ (i := 10) (N := some 20) (v := ?_) (a' := ?_) #[true, true, true, true, true, true, true, true, true, true, true] rfl rfl (by kernel_rfl) (fun _ _ _ h => h) (Or.inl ⟨by rfl, ?_⟩) ?_ ?_
  rotate_left
  · intro w'
    go_simp
    with_reducible rfl
  rotate_left
  · simp only [Act.put, List.setIfInBounds_toArray, List.set_cons_zero, List.set_cons_succ, i64_w, i32_w]
    rfl
  refine done_ (by kernel_rfl) ?_
  have HB := Aside0.mk hHeld
  have HR := Aside0.mk hr
  clear hHeld hneq harr hr
  rcases HX.out with ⟨rfl, rfl, rfl⟩ | ⟨rfl, rfl, rfl, h47⟩
  · go_wp2
    go_ret2
    exact ⟨_, rfl, Kd.R_nil _ _ _ _ _, HB.out⟩
  · have HF : Aside0 (slices_Clone_byte_byte.f (l0.take N) = some (l0.take N)) := ⟨by unfold slices_Clone_byte_byte.f; rw [if_pos (by rw [List.length_take]; omega)]⟩
    have HC : Aside0 (Kd.C (Kd.int .u8) w (some ad) (l0.take N).length (l0.take N)) := ⟨take_reads hl HR.out⟩
    have hlen : (l0.take N).length = N := by rw [List.length_take]; omega
    rw [hlen] at HC
    have HLen := Aside0.mk hlen
    clear hlen h47
    go_wp2_with fail
    refine (clone_take HLen.out HC.out HB.out hN2 HF.out).mono ?_
    rintro e w6 ⟨v0, rfl, ho, hb6⟩
    have HO := Aside0.mk ho
    have HB6 := Aside0.mk hb6
    clear ho hb6
    go_wp2
    go_ret2
    exact ⟨_, rfl, HO.out, HB6.out⟩
/-- two arrays of four bytes, compared -/
theorem neq4 {P : Program} (t e : TypeId) (ht : P.underlying t = some (.array 4 e)) (he : P.underlying e = some (.int .u8)) (hsz : ∀ w, (sizeOf e).run P w = .ok 1 w) (xs ys : List Int) (hx : xs.length = 4) (hy : ys.length = 4) (bx : ∀ x ∈ xs, 0 ≤ x ∧ x ≤ 255) (by' : ∀ x ∈ ys, 0 ≤ x ∧ x ≤ 255) (w : World) :
    (binOp .neq t (.agg (xs.map (Value.int .u8)).toArray) (.agg (ys.map (Value.int .u8)).toArray)).run P w = .ok (.bool (!decide (xs = ys))) w := by
  have conv : ∀ zs : List Int, (∀ x ∈ zs, 0 ≤ x ∧ x ≤ 255) → zs.map (Value.int .u8) = (zs.map fun n => UInt8.ofNat n.toNat).map Extern.Stop.cell := by
    intro zs hz
    rw [List.map_map]
    apply List.map_congr_left
    intro z hzm
    have := hz z hzm
    simp only [Function.comp, Extern.Stop.cell, UInt8.toNat_ofNat']
    congr 1
    show z = ((z.toNat % 2 ^ 8 : Nat) : Int)
    omega
  have inj : ∀ zs us : List Int, (∀ x ∈ zs, 0 ≤ x ∧ x ≤ 255) → (∀ x ∈ us, 0 ≤ x ∧ x ≤ 255) → zs.map (fun n : Int => UInt8.ofNat n.toNat) = us.map (fun n : Int => UInt8.ofNat n.toNat) → zs = us := by
    intro zs
    induction zs with
    | nil => intro us _ _ h; cases us with | nil => rfl | cons u us => simp at h
    | cons z zs ih =>
      intro us hz hu h
      cases us with
      | nil => simp at h
      | cons u us =>
        simp only [List.map_cons, List.cons.injEq] at h
        have h1 := hz z List.mem_cons_self
        have h2 := hu u List.mem_cons_self
        have h3 := congrArg UInt8.toNat h.1
        simp only [UInt8.toNat_ofNat'] at h3
        rw [ih us (fun x hx => hz x (List.mem_cons_of_mem _ hx)) (fun x hx => hu x (List.mem_cons_of_mem _ hx)) h.2]
        congr 1
        omega
  rw [run_neq_struct, conv xs bx, conv ys by', run_equalIn_bytes w 9998 t e 4 ht he hsz _ _ (by simpa using hx) (by simpa using hy)]
  simp only [Result.andThen_ok]
  congr 3
  rw [Bool.eq_iff_iff]
  simp only [beq_iff_eq, decide_eq_true_eq]
  exact ⟨fun h => inj xs ys bx by' h, fun h => by rw [h]⟩
theorem tailL_bytes (c : Int) : ∀ x ∈ tailL c, 0 ≤ x ∧ x ≤ 255 := by
  intro x hx
  unfold tailL at hx
  simp only [List.mem_cons, List.not_mem_nil, or_false] at hx
  rcases hx with rfl | rfl | rfl | rfl <;> omega
theorem digest_Open.calls (A0 : Option Addr) (c0 : Nat) (l0 : List Int) (r1 : List Int) (r2 : Int) (w : World) (hr0 : Kd.C (Kd.int .u8) w A0 l0.length l0) (hc0 : l0.length ≤ c0) (h : digest_Open.f l0 = some (r1, r2)) :
    Calls Try.prog 18 #[.slice A0 l0.length c0] w fun e w' => ∃ v0_ : Value, e = .returned (.tuple #[v0_, .int .i64 r2]) ∧ Kd.R (Kd.int .u8) 5 w' w.heap.size (fun _ => True) v0_ r1 ∧ Below w.heap.size w w' := by
  unfold digest_Open.f at h
  by_cases hby : l0.all (fun x => decide (0 ≤ x) && decide (x ≤ 255)) = true
  case neg => rw [if_neg hby] at h; cases h
  rw [if_pos hby] at h
  by_cases h47 : l0.length ≤ 140737488355328
  case neg => rw [if_neg h47] at h; cases h
  rw [if_pos h47] at h
  have hall := List.all_eq_true.1 hby
  by_cases h4 : l0.length < 4
  · rw [if_pos h4] at h
    simp only [Option.some.injEq, Prod.mk.injEq] at h
    obtain ⟨rfl, rfl⟩ := h
    exact (open_short A0 c0 l0.length w h4).mono fun e w' ⟨h1, h2⟩ => ⟨_, h1, Kd.R_nil _ _ _ _ _, by subst h2; exact Below.refl _ _⟩
  · rw [if_neg h4] at h
    obtain ⟨N, hN⟩ : ∃ N, l0.length = N + 4 := ⟨l0.length - 4, by omega⟩
    rw [hN, Nat.add_sub_cancel] at h
    obtain ⟨c, hc, h⟩ := Option.bind_eq_some_iff.1 h
    obtain ⟨ad, rfl⟩ : ∃ ad, A0 = some ad := by
      obtain ⟨ad, e, _⟩ := hr0.2.2 (by omega)
      exact ⟨ad, e⟩
    have hlast : ∀ x ∈ l0.drop N, 0 ≤ x ∧ x ≤ 255 := fun x hx => by simpa using hall x (List.mem_of_mem_drop hx)
    have hsz : ∀ w, (sizeOf 5).run Try.prog w = .ok 1 w := fun w => by kernel_rfl
    have hneq := fun w' => neq4 (P := Try.prog) 44 5 Try.underlying44 Try.underlying5 hsz (l0.drop N) (tailL c) (by rw [List.length_drop, hN]; omega) rfl hlast (tailL_bytes c) w'
    rw [hN] at hr0 hc0 ⊢
    refine open_long ad c0 N l0 w (by omega) hc0 hN hr0 (l0.drop N) rfl c hc (!decide (l0.drop N = tailL c)) hneq r1 r2 ?_
    by_cases he : l0.drop N = tailL c
    · rw [if_pos he] at h
      simp only [Option.some.injEq, Prod.mk.injEq] at h
      exact .inr ⟨by simp [he], h.1.symm, h.2.symm, by omega⟩
    · rw [if_neg he] at h
      simp only [Option.some.injEq, Prod.mk.injEq] at h
      exact .inl ⟨by simp [he], h.1.symm, h.2.symm⟩

/-! ### mapsheetslaw03_awake: function 14 -/
def mapsheetslaw03_awake.f : Option Bool := some true
/-- A block of bytes that was laid as a literal, whatever its mark. -/
theorem lit_reads (w : World) (xs : List Int) (t : TypeId) (fr : Nat × Nat) (hn : xs.length ≤ 9223372036854775807) : Kd.C (Kd.int .u8) (w.alloc (.cells (xs.map (Value.int .u8)).toArray t fr)) (some ⟨w.heap.size, 0, none⟩) xs.length xs := by
  refine ⟨rfl, hn, fun _ => ⟨_, rfl, fun j p hp => ⟨[.int .u8 p], rfl, rfl, fun i u hu => ?_⟩⟩⟩
  have hj : j < xs.length := (List.getElem?_eq_some_iff.1 hp).1
  cases i with
  | succ i => simp at hu
  | zero =>
    simp at hu
    subst hu
    have hadd : (⟨w.heap.size, 0, none⟩ : Addr).add (j * 1 + 0) = ⟨w.heap.size, j, none⟩ := by rw [Addr.add_lit]; simp
    show (w.alloc (.cells (xs.map (Value.int .u8)).toArray t fr)).cell? ((⟨w.heap.size, 0, none⟩ : Addr).add (j * 1 + 0)) = _
    rw [hadd, World.cell?_alloc_mark_, List.getElem?_toArray, List.getElem?_map, hp]
    rfl
where World.cell?_alloc_mark_ {w : World} {C : Array Value} {t : TypeId} {fr : Nat × Nat} {j : Nat} : (w.alloc (.cells C t fr)).cell? ⟨w.heap.size, j, none⟩ = C[j]? := World.cell?_alloc_mark w C t fr j
def sealed9 : List Int := (digest_Seal.f [49, 50, 51, 52, 53, 54, 55, 56, 57]).getD []
theorem seal9 : digest_Seal.f [49, 50, 51, 52, 53, 54, 55, 56, 57] = some sealed9 := by decide +kernel
theorem sealed9_is : sealed9 = [49, 50, 51, 52, 53, 54, 55, 56, 57, 203, 244, 57, 38] := by decide +kernel
theorem crc9 : digest_Crc.f [49, 50, 51, 52, 53, 54, 55, 56, 57] = some 3421780262 := by decide +kernel
theorem fnv1 : digest_Fnv.f 5 [97] = some 12638187200555641996 := by decide +kernel
theorem open5 : digest_Open.f [0, 0, 0, 0, 0] = some ([], 6) := by decide +kernel
theorem open3 : digest_Open.f [0, 0, 0] = some ([], 5) := by decide +kernel
theorem hex255 : digest_Hex.f 255 = some ⟨#[48, 48, 48, 48, 48, 48, 48, 48, 48, 48, 48, 48, 48, 48, 102, 102]⟩ := by decide +kernel
set_option maxHeartbeats 4000000 in
set_option maxRecDepth 100000 in
theorem mapsheetslaw03_awake.calls (r : Bool) (w : World) (h : mapsheetslaw03_awake.f = some r) :
    Calls Try.prog 14 #[] w fun e w' => e = .returned (.bool r) ∧ Below w.heap.size w w' := by
  obtain rfl := Option.some.inj h
  clear h
  have kc := fun (w : World) (C : Array Value) (n c : Nat) => Lib.run_convert_bytes_const (P := Try.prog) w 22 5 C n c Try.underlying22 Try.underlying5
  go_enter Try.func14, Try.ntmps14
  go_wp2_with fail
  refine (digest_Seal.calls (some ⟨w.heap.size, 0, none⟩) 9 [49, 50, 51, 52, 53, 54, 55, 56, 57] sealed9 _ (lit_reads w [49, 50, 51, 52, 53, 54, 55, 56, 57] 5 (9, 10) (by decide)) (Nat.le_refl 9) seal9).mono ?_
  rintro e w1 ⟨v0, rfl, ho, hb⟩
  have HB1 : Aside0 (Below w.heap.size w w1) := ⟨below_step ((Below.refl _ _).alloc (Nat.le_refl _) _) hb⟩
  obtain ⟨A1, c1, rfl⟩ := Kd.R_slice ho
  have HS := Aside0.mk (Kd.R_reads' ho)
  clear ho hb
  go_wp2_with fail
  refine (digest_Open.calls (some ⟨w1.heap.size, 0, none⟩) 5 [0, 0, 0, 0, 0] [] 6 _ (lit_reads w1 [0, 0, 0, 0, 0] 5 (0, 0) (by decide)) (Nat.le_refl 5) open5).mono ?_
  rintro e w2 ⟨v2, rfl, ho, hb⟩
  have HB2 : Aside0 (Below w1.heap.size w1 w2) := ⟨below_step ((Below.refl _ _).alloc (Nat.le_refl _) _) hb⟩
  clear ho hb
  go_wp2_with fail
  refine (digest_Open.calls (some ⟨w2.heap.size, 0, none⟩) 3 [0, 0, 0] [] 5 _ (lit_reads w2 [0, 0, 0] 5 (0, 0) (by decide)) (Nat.le_refl 3) open3).mono ?_
  rintro e w3 ⟨v3, rfl, ho, hb⟩
  have HB3 : Aside0 (Below w2.heap.size w2 w3) := ⟨below_step ((Below.refl _ _).alloc (Nat.le_refl _) _) hb⟩
  clear ho hb
  go_wp2_with fail
  refine (digest_Crc.calls (some ⟨w3.heap.size, 0, none⟩) 9 [49, 50, 51, 52, 53, 54, 55, 56, 57] 3421780262 _ (lit_reads w3 [49, 50, 51, 52, 53, 54, 55, 56, 57] 5 (9, 10) (by decide)) (Nat.le_refl 9) crc9).mono ?_
  rintro e w4 ⟨rfl, hb⟩
  have HB4 : Aside0 (Below w3.heap.size w3 w4) := ⟨below_step ((Below.refl _ _).alloc (Nat.le_refl _) _) hb⟩
  clear hb
  go_wp2_with fail
  refine (digest_Fnv.calls 5 (some ⟨w4.heap.size, 0, none⟩) 1 [97] 12638187200555641996 _ (lit_reads w4 [97] 5 (1, 2) (by decide)) (Nat.le_refl 1) fnv1).mono ?_
  rintro e w5 ⟨rfl, hb⟩
  have HB5 : Aside0 (Below w4.heap.size w4 w5) := ⟨below_step ((Below.refl _ _).alloc (Nat.le_refl _) _) hb.below⟩
  clear hb
  go_wp2_with fail
  refine (digest_Hex.calls 255 ⟨#[48, 48, 48, 48, 48, 48, 48, 48, 48, 48, 48, 48, 48, 48, 102, 102]⟩ _ hex255).mono ?_
  rintro e w6 ⟨rfl, hb⟩
  have HB6 := Aside0.mk hb
  clear hb
  have HBa : Aside0 (Below w1.heap.size w1 w6) := ⟨below_step (below_step (below_step (below_step HB2.out HB3.out) HB4.out) HB5.out) HB6.out⟩
  have HC := Kd.C_below HS.out.2.2 HBa.out
  obtain ⟨ad, e1, hx9⟩ := Kd.at_int HC 9 (by decide) (by decide)
  obtain ⟨ad', e2, hx12⟩ := Kd.at_int HC 12 (by decide) (by decide)
  subst e1
  cases e2
  have q9 : rd sealed9 9 = 203 := by decide +kernel
  have q12 : rd sealed9 12 = 38 := by decide +kernel
  have ql : sealed9.length = 13 := by decide +kernel
  rw [q9, show Int.toNat 9 = 8 + 1 from rfl, Addr.add_succ'] at hx9
  rw [q12, show Int.toNat 12 = 11 + 1 from rfl, Addr.add_succ'] at hx12
  rw [ql]
  have HBw : Aside0 (Below w.heap.size w w6) := ⟨below_step HB1.out HBa.out⟩
  clear HC q9 q12 ql kc
  go_wp2
  go_ret
  exact ⟨rfl, HBw.out⟩

/-! ### mapsheetslaw03_DigestValues: function 3 -/
def mapsheetslaw03_DigestValues.f (k : Nat) (l0 : List Int) : Option (Bool) := (digest_Crc.f l0).bind fun t107 => ((mapsheetsref03_Crc.f k l0).bind fun t108 => (if t107 = t108 then ((digest_Fnv.f k l0).bind fun t109 => ((mapsheetsref03_Fnv.f k l0).bind fun t110 => (if t109 = t110 then ((mapsheetslaw03_awake.f).bind fun t111 => (some t111)) else (none)))) else (none)))
theorem mapsheetslaw03_DigestValues.mono : ∀ a0 k, LeO (mapsheetslaw03_DigestValues.f k a0) (mapsheetslaw03_DigestValues.f (k + 1) a0) := by
  intro a0 k
  unfold mapsheetslaw03_DigestValues.f
  repeat' first
      | (with_reducible exact digest_Fnv.mono _ _)
      | (with_reducible exact mapsheetsref03_Crc.mono _ _)
      | (with_reducible exact mapsheetsref03_Fnv.mono _ _)
      | (with_reducible exact LeO.refl _)
      | (with_reducible exact LeO.none _)
      | (with_reducible refine LeO.ite ?_ ?_)
      | (with_reducible refine LeO.bind ?_ (fun _ => ?_))
      | exact digest_Fnv.mono _ _
      | exact mapsheetsref03_Crc.mono _ _
      | exact mapsheetsref03_Fnv.mono _ _
      | exact LeO.none _
      | refine LeO.ite ?_ ?_
      | refine LeO.bind ?_ (fun _ => ?_)
set_option maxHeartbeats 8000000 in
set_option maxRecDepth 100000 in
theorem mapsheetslaw03_DigestValues.calls (k : Nat) (A0 : Option Addr) (c0 : Nat) (l0 : List Int) (r : Bool) (w : World) (hr0 : Kd.C (Kd.int .u8) w A0 l0.length l0) (hc0 : l0.length ≤ c0) (h : mapsheetslaw03_DigestValues.f k l0 = some r) :
    Calls Try.prog 3 #[.slice A0 l0.length c0] w fun e w' => e = .returned (.bool r) ∧ Below w.heap.size w w' := by
  have HR0 := Aside0.mk hr0
  have HC0 := Aside0.mk hc0
  clear hr0 hc0
  have HB := Aside0.mk (Below.refl w.heap.size w)
  have H : ((digest_Crc.f l0).bind fun t107 => ((mapsheetsref03_Crc.f k l0).bind fun t108 => (if t107 = t108 then ((digest_Fnv.f k l0).bind fun t109 => ((mapsheetsref03_Fnv.f k l0).bind fun t110 => (if t109 = t110 then ((mapsheetslaw03_awake.f).bind fun t111 => (some t111)) else (none)))) else (none)))) = some r := h
  clear h
  replace H := Option.bind_eq_some_iff.mp H
  obtain ⟨t107, A20, H⟩ := H
  replace H : ((mapsheetsref03_Crc.f k l0).bind fun t108 => (if t107 = t108 then ((digest_Fnv.f k l0).bind fun t109 => ((mapsheetsref03_Fnv.f k l0).bind fun t110 => (if t109 = t110 then ((mapsheetslaw03_awake.f).bind fun t111 => (some t111)) else (none)))) else (none))) = some r := H
  have A2 := Aside0.mk A20
  clear A20
  replace H := Option.bind_eq_some_iff.mp H
  obtain ⟨t108, A30, H⟩ := H
  replace H : (if t107 = t108 then ((digest_Fnv.f k l0).bind fun t109 => ((mapsheetsref03_Fnv.f k l0).bind fun t110 => (if t109 = t110 then ((mapsheetslaw03_awake.f).bind fun t111 => (some t111)) else (none)))) else (none)) = some r := H
  have A3 := Aside0.mk A30
  clear A30
  by_cases c4 : t107 = t108
  · rw [if_pos c4] at H
    have c4b0 : (t107 == t108) = true := beq_iff_eq.mpr c4
    have c4b1 : (t107 != t108) = false := bne_eq_false_iff_eq.mpr c4
    clear c4
    replace H := Option.bind_eq_some_iff.mp H
    obtain ⟨t109, A50, H⟩ := H
    replace H : ((mapsheetsref03_Fnv.f k l0).bind fun t110 => (if t109 = t110 then ((mapsheetslaw03_awake.f).bind fun t111 => (some t111)) else (none))) = some r := H
    have A5 := Aside0.mk A50
    clear A50
    replace H := Option.bind_eq_some_iff.mp H
    obtain ⟨t110, A60, H⟩ := H
    replace H : (if t109 = t110 then ((mapsheetslaw03_awake.f).bind fun t111 => (some t111)) else (none)) = some r := H
    have A6 := Aside0.mk A60
    clear A60
    by_cases c7 : t109 = t110
    · rw [if_pos c7] at H
      have c7b0 : (t109 == t110) = true := beq_iff_eq.mpr c7
      have c7b1 : (t109 != t110) = false := bne_eq_false_iff_eq.mpr c7
      clear c7
      replace H := Option.bind_eq_some_iff.mp H
      obtain ⟨t111, A80, H⟩ := H
      replace H : (some t111) = some r := H
      have A8 := Aside0.mk A80
      clear A80
      obtain rfl := Option.some.inj H
      go_enter Try.func3, Try.ntmps3
      go_wp2_with (first | ((with_reducible refine gate_callee (f := 10) rfl ?_); refine goesL_ (some 4) rfl rfl Try.func10 (by kernel_rfl) rfl #[.slice A0 l0.length c0] rfl (by (try simp only [List.map_toArray, List.map_cons, List.map_nil]); first | done | rfl | (simp only [List.length_drop, List.length_take]; rfl)) ?_; (with_reducible refine (digest_Crc.calls _ _ l0 t107 _ ?side1 ?side2 A2.out).mono ?_); (case side1 => repeat (first | exact HR0.out | (with_reducible refine Kd.C_alloc ?_ _) | (with_reducible refine Kd.C_drewN ?_ _) | (with_reducible refine Kd.C_drew ?_))); (case side2 => exact HC0.out); rintro e w9 ⟨rfl, hb⟩; refine ⟨_, rfl, ?_⟩; have n0_ := Aside0.mk (below_step (by repeat (first | (with_reducible first | exact HB.out | apply below_alloc | apply pw_below_drewN | apply below_drew1) | exact HB.out)) hb); clear HB; have HB := n0_; clear n0_; (try clear hb); (try clear hb2); (try clear hk); (try clear hi)) | ((with_reducible refine gate_callee (f := 11) rfl ?_); refine goesL_ (some 6) rfl rfl Try.func11 (by kernel_rfl) rfl #[.slice A0 l0.length c0] rfl (by (try simp only [List.map_toArray, List.map_cons, List.map_nil]); first | done | rfl | (simp only [List.length_drop, List.length_take]; rfl)) ?_; (with_reducible refine (mapsheetsref03_Crc.calls k _ _ l0 t108 _ ?side1 ?side2 A3.out).mono ?_); (case side1 => repeat (first | exact (Kd.C_below HR0.out HB.out) | (with_reducible refine Kd.C_alloc ?_ _) | (with_reducible refine Kd.C_drewN ?_ _) | (with_reducible refine Kd.C_drew ?_))); (case side2 => exact HC0.out); rintro e w' ⟨rfl, ⟨nd, rfl⟩⟩; refine ⟨_, rfl, ?_⟩) | (go_at_call 12; (with_reducible refine (digest_Fnv.calls k _ _ l0 t109 _ ?side1 ?side2 A5.out).mono ?_); (case side1 => repeat (first | exact (Kd.C_below HR0.out (by repeat (first | (with_reducible first | exact HB.out | apply below_alloc | apply pw_below_drewN | apply below_drew1) | exact HB.out))) | (with_reducible refine Kd.C_alloc ?_ _) | (with_reducible refine Kd.C_drewN ?_ _) | (with_reducible refine Kd.C_drew ?_))); (case side2 => exact HC0.out); rintro e w' ⟨rfl, ⟨nd, rfl⟩⟩) | (go_at_call 13; (with_reducible refine (mapsheetsref03_Fnv.calls k _ _ l0 t110 _ ?side1 ?side2 A6.out).mono ?_); (case side1 => repeat (first | exact (Kd.C_below HR0.out (by repeat (first | (with_reducible first | exact HB.out | apply below_alloc | apply pw_below_drewN | apply below_drew1) | exact HB.out))) | (with_reducible refine Kd.C_alloc ?_ _) | (with_reducible refine Kd.C_drewN ?_ _) | (with_reducible refine Kd.C_drew ?_))); (case side2 => exact HC0.out); rintro e w' ⟨rfl, ⟨nd, rfl⟩⟩) | (go_at_call 14; (with_reducible refine (mapsheetslaw03_awake.calls  t111 _ A8.out).mono ?_); rintro e w10 ⟨rfl, hb⟩; have n0_ := Aside0.mk (below_step (by repeat (first | (with_reducible first | exact HB.out | apply below_alloc | apply pw_below_drewN | apply below_drew1) | exact HB.out)) hb); clear HB; have HB := n0_; clear n0_; (try clear hb); (try clear hb2); (try clear hk); (try clear hi)))
      go_ret
      exact ⟨by first | rfl | (simp [errW_none, errW_some] <;> rfl) | (simp [*, errW_none, errW_some] <;> rfl), by repeat (first | (with_reducible first | exact HB.out | apply below_alloc | apply pw_below_drewN | apply below_drew1) | exact HB.out)⟩
    · rw [if_neg c7] at H
      exact absurd H (by simp)
  · rw [if_neg c4] at H
    exact absurd H (by simp)

/-- THE ONE PURE STATEMENT of mapsheetslaw03_DigestValues: yours. -/
def mapsheetslaw03_DigestValues.Pure : Prop := ∀ (l0 : List Int), l0.length ≤ maxLen → l0.length * 1 ≤ 140737488351232 → (∀ x ∈ l0, (Lit.int .u8 x).wf = true) → ∃ k, mapsheetslaw03_DigestValues.f k l0 = some true
theorem mapsheetslaw03_DigestValues.walk (P : mapsheetslaw03_DigestValues.Pure) (a0 : Option Addr) (len0 cap0 : Nat) (z0 : List Int) (w : World) (w0 : (a0 = none ∧ len0 = 0 ∧ cap0 = 0 ∧ z0 = []) ∨ ∃ x, a0 = some x ∧ len0 ≤ cap0 ∧ cap0 ≤ maxLen ∧ z0.length = cap0 ∧ (∀ i, i < z0.length → w.cell? (x.add i) = some (.int .u8 (z0.getD i 0))) ∧ ∀ n ∈ z0, (Lit.int .u8 n).wf = true) (y0 : len0 * 1 ≤ 140737488351232) :
    Calls Try.prog 3 #[.slice a0 len0 cap0] w fun e w' => e = .returned (.bool true) ∧ Below w.heap.size w w' := by
  obtain ⟨l0, rfl, hr0, hm0, hw0, hc0⟩ := ReadsInt.ofRowC w0
  obtain ⟨k, h⟩ := P l0 hm0 y0 hw0
  refine (mapsheetslaw03_DigestValues.calls k _ _ l0 true w (Kd.C_of_reads (d := (0 : Int)) (h1 := fun _ => rfl) hr0) hc0 h).mono ?_
  rintro e w' ⟨rfl, hd⟩
  exact ⟨rfl, hd⟩

/-! ### mapsheetsref03_Hex: function 16 -/
def mapsheetsref03_Hex.l0 : Nat → Int → ByteArray → Int → Option (ByteArray)
  | 0, _, _, _ => none
  | k + 1, x0, x3, x4 => if x4 < 16 then (if 0 ≤ (wrap64 (Int.tmod x0 16)) then (if (wrap64 (Int.tmod x0 16)) ≤ (wrap64 ((wrap64 (Int.tmod x0 16)) + 1)) then (if (wrap64 ((wrap64 (Int.tmod x0 16)) + 1)) ≤ 16 then (if ((⟨#[48, 49, 50, 51, 52, 53, 54, 55, 56, 57, 97, 98, 99, 100, 101, 102]⟩ : ByteArray).extract ((wrap64 (Int.tmod x0 16)) : Int).toNat ((wrap64 ((wrap64 (Int.tmod x0 16)) + 1)) : Int).toNat).size + x3.size ≤ 9223372036854775807 then (mapsheetsref03_Hex.l0 k (IntKind.u64.wrap (Int.tdiv x0 16)) (((⟨#[48, 49, 50, 51, 52, 53, 54, 55, 56, 57, 97, 98, 99, 100, 101, 102]⟩ : ByteArray).extract ((wrap64 (Int.tmod x0 16)) : Int).toNat ((wrap64 ((wrap64 (Int.tmod x0 16)) + 1)) : Int).toNat) ++ x3) (wrap64 (x4 + 1))) else (none)) else (none)) else (none)) else (none)) else (some x3)
def mapsheetsref03_Hex.f (k : Nat) (a0 : Int) : Option (ByteArray) := mapsheetsref03_Hex.l0 k a0 (⟨#[]⟩ : ByteArray) 0
theorem mapsheetsref03_Hex.mono_l : ∀ k, (∀ y0 y1 y2, LeO (mapsheetsref03_Hex.l0 k y0 y1 y2) (mapsheetsref03_Hex.l0 (k + 1) y0 y1 y2))
  | 0 => fun _ _ _ r h => by simp [mapsheetsref03_Hex.l0] at h
  | k + 1 => by
    have ih0 := mapsheetsref03_Hex.mono_l k
    · intro y0 y1 y2
      unfold mapsheetsref03_Hex.l0
      repeat' first
      | (with_reducible exact ih0 _ _ _)
      | (with_reducible exact LeO.refl _)
      | (with_reducible exact LeO.none _)
      | (with_reducible refine LeO.ite ?_ ?_)
      | (with_reducible refine LeO.bind ?_ (fun _ => ?_))
      | exact ih0 _ _ _
      | exact LeO.none _
      | refine LeO.ite ?_ ?_
      | refine LeO.bind ?_ (fun _ => ?_)
theorem mapsheetsref03_Hex.mono : ∀ a0 k, LeO (mapsheetsref03_Hex.f k a0) (mapsheetsref03_Hex.f (k + 1) a0) := by
  intro a0 k
  have ih0 := mapsheetsref03_Hex.mono_l k
  unfold mapsheetsref03_Hex.f
  repeat' first
      | (with_reducible exact ih0 _ _ _)
      | (with_reducible exact LeO.refl _)
      | (with_reducible exact LeO.none _)
      | (with_reducible refine LeO.ite ?_ ?_)
      | (with_reducible refine LeO.bind ?_ (fun _ => ?_))
      | exact ih0 _ _ _
      | exact LeO.none _
      | refine LeO.ite ?_ ?_
      | refine LeO.bind ?_ (fun _ => ?_)
set_option maxHeartbeats 8000000 in
set_option maxRecDepth 100000 in
theorem mapsheetsref03_Hex.calls (k : Nat) (a0 : Int) (r : ByteArray) (w : World) (h : mapsheetsref03_Hex.f k a0 = some r) :
    Calls Try.prog 16 #[.int .u64 a0] w fun e w' => e = .returned (.string r) ∧ Drawn0 w w' := by
  have H : (mapsheetsref03_Hex.l0 k a0 (⟨#[]⟩ : ByteArray) 0) = some r := h
  clear h
  have H' := Aside0.mk H
  clear H
  go_enter Try.func16, Try.ntmps16
  go_wp2
  go_loopg [0, 3, 4] k (fun kq v0 v3 v4 w' => ∃ (x0_1 : Int) (x3_1 : ByteArray) (x4_1 : Int), v0 = .int .u64 x0_1 ∧ v3 = .string x3_1 ∧ v4 = .int .i64 x4_1 ∧ Aside0 (mapsheetsref03_Hex.l0 kq x0_1 x3_1 x4_1 = some r) ∧ Aside0 (kq ≤ k) ∧ Drawn0 w w')
  case atStart => exact ⟨(a0), ((⟨#[]⟩ : ByteArray)), (0), (by first | rfl | (simp; done) | (simp [*]; done)), (by first | rfl | (simp; done) | (simp [*]; done)), (by first | rfl | (simp; done) | (simp [*]; done)), H', ⟨Nat.le_refl _⟩, by repeat (first | exact Drawn0.refl _ | apply Drawn0.step)⟩
  case round =>
    clear H'
    try clear c1
    obtain ⟨x0_1, x3_1, x4_1, rfl, rfl, rfl, HA, HK1, ⟨m1, rfl⟩⟩ := hrel
    cases gk with
    | zero => exact absurd HA.out (by simp [mapsheetsref03_Hex.l0])
    | succ k1 =>
      have H := HA.out
      clear HA
      simp only [mapsheetsref03_Hex.l0] at H
      by_cases c2 : x4_1 < 16
      · rw [if_pos c2] at H
        have c2b0 : decide (x4_1 < 16) = true := decide_eq_true c2
        clear c2
        obtain ⟨ji3, hji3⟩ : ∃ j_ : Int, (wrap64 (Int.tmod x0_1 16)) = j_ := ⟨_, rfl⟩
        replace H : (if 0 ≤ (ji3) then (if (ji3) ≤ (wrap64 ((ji3) + 1)) then (if (wrap64 ((ji3) + 1)) ≤ 16 then (if ((⟨#[48, 49, 50, 51, 52, 53, 54, 55, 56, 57, 97, 98, 99, 100, 101, 102]⟩ : ByteArray).extract ((ji3) : Int).toNat ((wrap64 ((ji3) + 1)) : Int).toNat).size + x3_1.size ≤ 9223372036854775807 then (mapsheetsref03_Hex.l0 k1 (IntKind.u64.wrap (Int.tdiv x0_1 16)) (((⟨#[48, 49, 50, 51, 52, 53, 54, 55, 56, 57, 97, 98, 99, 100, 101, 102]⟩ : ByteArray).extract ((ji3) : Int).toNat ((wrap64 ((ji3) + 1)) : Int).toNat) ++ x3_1) (wrap64 (x4_1 + 1))) else (none)) else (none)) else (none)) else (none)) = some r := by first | (rw [hji3] at H; exact H) | (simp only [hji3] at H ⊢; exact H)
        have hji3w : (IntKind.i64.wrap (Int.tmod x0_1 16)) = ji3 := (i64_w _).trans hji3
        by_cases c4 : 0 ≤ (ji3)
        · rw [if_pos c4] at H
          have c4b0 := eq_true c4
          have c4b1 : decide (0 ≤ (ji3)) = true := decide_eq_true c4
          clear c4
          by_cases c5 : (ji3) ≤ (wrap64 ((ji3) + 1))
          · rw [if_pos c5] at H
            have c5b0 := eq_true c5
            have c5b1 : decide ((ji3) ≤ (wrap64 ((ji3) + 1))) = true := decide_eq_true c5
            by_cases c6 : (wrap64 ((ji3) + 1)) ≤ 16
            · rw [if_pos c6] at H
              have c6b0 := eq_true c6
              have c6b1 : decide ((wrap64 ((ji3) + 1)) ≤ 16) = true := decide_eq_true c6
              by_cases c7 : ((⟨#[48, 49, 50, 51, 52, 53, 54, 55, 56, 57, 97, 98, 99, 100, 101, 102]⟩ : ByteArray).extract ((ji3) : Int).toNat ((wrap64 ((ji3) + 1)) : Int).toNat).size + x3_1.size ≤ 9223372036854775807
              · rw [if_pos c7] at H
                have c7b0 := eq_true c7
                have c7b1 : decide (((⟨#[48, 49, 50, 51, 52, 53, 54, 55, 56, 57, 97, 98, 99, 100, 101, 102]⟩ : ByteArray).extract ((ji3) : Int).toNat ((wrap64 ((ji3) + 1)) : Int).toNat).size + x3_1.size ≤ 9223372036854775807) = true := decide_eq_true c7
                try have c7b2 : (9223372036854775807 < ((⟨#[48, 49, 50, 51, 52, 53, 54, 55, 56, 57, 97, 98, 99, 100, 101, 102]⟩ : ByteArray).extract ((ji3) : Int).toNat ((wrap64 ((ji3) + 1)) : Int).toNat).size + x3_1.size) = False := eq_false (Nat.not_lt.2 c7)
                have H' := Aside0.mk H
                clear H
                go_wp2
                go_roundg k1
                case measure => have := HK1.out; omega
                case rel => exact ⟨(IntKind.u64.wrap (Int.tdiv x0_1 16)), (((⟨#[48, 49, 50, 51, 52, 53, 54, 55, 56, 57, 97, 98, 99, 100, 101, 102]⟩ : ByteArray).extract ((ji3) : Int).toNat ((wrap64 ((ji3) + 1)) : Int).toNat) ++ x3_1), (wrap64 (x4_1 + 1)), (by first | rfl | (simp; done) | (simp [*]; done)), (by first | rfl | (simp; done) | (simp only [← hji3] <;> (first | rfl | simp)) | (simp [*]; done)), (by first | rfl | (simp; done) | (simp [*]; done)), H', ⟨by have := HK1.out; omega⟩, by repeat (first | exact Drawn0.refl _ | apply Drawn0.step)⟩
              · rw [if_neg c7] at H
                exact absurd H (by simp)
            · rw [if_neg c6] at H
              exact absurd H (by simp)
          · rw [if_neg c5] at H
            exact absurd H (by simp)
        · rw [if_neg c4] at H
          exact absurd H (by simp)
      · rw [if_neg c2] at H
        have c2b0 : decide (x4_1 < 16) = false := decide_eq_false c2
        clear c2
        obtain rfl := Option.some.inj H
        go_wp2
        go_ret
        exact ⟨by first | rfl | (simp; done) | (simp [*]; done), by repeat (first | exact Drawn0.refl _ | apply Drawn0.step)⟩

/-! ### mapsheetslaw03_DigestHex: function 4 -/
mutual
def mapsheetslaw03_DigestHex.j0 : Nat → Int → ByteArray → Bool → Option (Bool)
  | 0, _, _, _ => none
  | k + 1, x0, x3, x17 => if x17 = true then (none) else (mapsheetslaw03_DigestHex.l0 k x0 x3 0 0)
def mapsheetslaw03_DigestHex.l0 : Nat → Int → ByteArray → Int → Int → Option (Bool)
  | 0, _, _, _, _ => none
  | k + 1, x0, x3, x4, x5 => if x5 < (x3.size : Int) then (if 0 ≤ x5 then (if (IntKind.u64.wrap (bt x3 x5)) ≥ 97 then (mapsheetslaw03_DigestHex.l0 k x0 x3 (IntKind.u64.wrap ((IntKind.u64.wrap (x4 * 16)) + (IntKind.u64.wrap ((IntKind.u64.wrap ((IntKind.u64.wrap (bt x3 x5)) - 97)) + 10)))) (wrap64 (x5 + 1))) else (mapsheetslaw03_DigestHex.l0 k x0 x3 (IntKind.u64.wrap ((IntKind.u64.wrap (x4 * 16)) + (IntKind.u64.wrap ((IntKind.u64.wrap (bt x3 x5)) - 48)))) (wrap64 (x5 + 1)))) else (none)) else (if x4 = x0 then ((mapsheetslaw03_awake.f).bind fun t114 => (some t114)) else (none))
end
def mapsheetslaw03_DigestHex.f (k : Nat) (a0 : Int) : Option (Bool) := (digest_Hex.f a0).bind fun t112 => ((mapsheetsref03_Hex.f k a0).bind fun t113 => (if t112.toList = t113.toList then (mapsheetslaw03_DigestHex.j0 k a0 t112 ((t112.size : Int) != 16)) else (mapsheetslaw03_DigestHex.j0 k a0 t112 true)))
theorem mapsheetslaw03_DigestHex.mono_l : ∀ k, (∀ y0 y1 y2, LeO (mapsheetslaw03_DigestHex.j0 k y0 y1 y2) (mapsheetslaw03_DigestHex.j0 (k + 1) y0 y1 y2)) ∧ (∀ y0 y1 y2 y3, LeO (mapsheetslaw03_DigestHex.l0 k y0 y1 y2 y3) (mapsheetslaw03_DigestHex.l0 (k + 1) y0 y1 y2 y3))
  | 0 => ⟨fun _ _ _ r h => by simp [mapsheetslaw03_DigestHex.j0] at h, fun _ _ _ _ r h => by simp [mapsheetslaw03_DigestHex.l0] at h⟩
  | k + 1 => by
    obtain ⟨ih0, ih1⟩ := mapsheetslaw03_DigestHex.mono_l k
    refine ⟨?_, ?_⟩
    · intro y0 y1 y2
      unfold mapsheetslaw03_DigestHex.j0
      repeat' first
      | (with_reducible exact ih0 _ _ _)
      | (with_reducible exact ih1 _ _ _ _)
      | (with_reducible exact mapsheetsref03_Hex.mono _ _)
      | (with_reducible exact LeO.refl _)
      | (with_reducible exact LeO.none _)
      | (with_reducible refine LeO.ite ?_ ?_)
      | (with_reducible refine LeO.bind ?_ (fun _ => ?_))
      | exact ih0 _ _ _
      | exact ih1 _ _ _ _
      | exact mapsheetsref03_Hex.mono _ _
      | exact LeO.none _
      | refine LeO.ite ?_ ?_
      | refine LeO.bind ?_ (fun _ => ?_)
    · intro y0 y1 y2 y3
      unfold mapsheetslaw03_DigestHex.l0
      repeat' first
      | (with_reducible exact ih0 _ _ _)
      | (with_reducible exact ih1 _ _ _ _)
      | (with_reducible exact mapsheetsref03_Hex.mono _ _)
      | (with_reducible exact LeO.refl _)
      | (with_reducible exact LeO.none _)
      | (with_reducible refine LeO.ite ?_ ?_)
      | (with_reducible refine LeO.bind ?_ (fun _ => ?_))
      | exact ih0 _ _ _
      | exact ih1 _ _ _ _
      | exact mapsheetsref03_Hex.mono _ _
      | exact LeO.none _
      | refine LeO.ite ?_ ?_
      | refine LeO.bind ?_ (fun _ => ?_)
theorem mapsheetslaw03_DigestHex.mono : ∀ a0 k, LeO (mapsheetslaw03_DigestHex.f k a0) (mapsheetslaw03_DigestHex.f (k + 1) a0) := by
  intro a0 k
  obtain ⟨ih0, ih1⟩ := mapsheetslaw03_DigestHex.mono_l k
  unfold mapsheetslaw03_DigestHex.f
  repeat' first
      | (with_reducible exact ih0 _ _ _)
      | (with_reducible exact ih1 _ _ _ _)
      | (with_reducible exact mapsheetsref03_Hex.mono _ _)
      | (with_reducible exact LeO.refl _)
      | (with_reducible exact LeO.none _)
      | (with_reducible refine LeO.ite ?_ ?_)
      | (with_reducible refine LeO.bind ?_ (fun _ => ?_))
      | exact ih0 _ _ _
      | exact ih1 _ _ _ _
      | exact mapsheetsref03_Hex.mono _ _
      | exact LeO.none _
      | refine LeO.ite ?_ ?_
      | refine LeO.bind ?_ (fun _ => ?_)
set_option maxHeartbeats 8000000 in
set_option maxRecDepth 100000 in
theorem mapsheetslaw03_DigestHex.calls (k : Nat) (a0 : Int) (r : Bool) (w : World) (h : mapsheetslaw03_DigestHex.f k a0 = some r) :
    Calls Try.prog 4 #[.int .u64 a0] w fun e w' => e = .returned (.bool r) ∧ Below w.heap.size w w' := by
  have HB := Aside0.mk (Below.refl w.heap.size w)
  have H : ((digest_Hex.f a0).bind fun t112 => ((mapsheetsref03_Hex.f k a0).bind fun t113 => (if t112.toList = t113.toList then (mapsheetslaw03_DigestHex.j0 k a0 t112 ((t112.size : Int) != 16)) else (mapsheetslaw03_DigestHex.j0 k a0 t112 true)))) = some r := h
  clear h
  replace H := Option.bind_eq_some_iff.mp H
  obtain ⟨t112, A20, H⟩ := H
  replace H : ((mapsheetsref03_Hex.f k a0).bind fun t113 => (if t112.toList = t113.toList then (mapsheetslaw03_DigestHex.j0 k a0 t112 ((t112.size : Int) != 16)) else (mapsheetslaw03_DigestHex.j0 k a0 t112 true))) = some r := H
  have A2 := Aside0.mk A20
  clear A20
  have HC3 := Aside0.mk H
  clear H
  go_enter Try.func4, Try.ntmps4
  go_upto_region 2 with (first | ((with_reducible refine gate_callee (f := 15) rfl ?_); refine goesL_ (some 8) rfl rfl Try.func15 (by kernel_rfl) rfl #[.int .u64 a0] rfl (by (try simp only [List.map_toArray, List.map_cons, List.map_nil]); first | done | rfl | (simp only [List.length_drop, List.length_take]; rfl)) ?_; (with_reducible refine (digest_Hex.calls a0 t112 _ A2.out).mono ?_); rintro e w4 ⟨rfl, hb⟩; refine ⟨_, rfl, ?_⟩; have n0_ := Aside0.mk (below_step (by repeat (first | (with_reducible first | exact HB.out | apply below_alloc | apply pw_below_drewN | apply below_drew1) | exact HB.out)) hb); clear HB; have HB := n0_; clear n0_; (try clear hb); (try clear hb2); (try clear hk); (try clear hi)))
  (try simp only [Act.put, List.setIfInBounds_toArray, List.set_cons_zero, List.set_cons_succ])
  go_cut [17] (fun v17 wc => ∃ (kq : Nat) (x17_2 : Bool), v17 = .bool x17_2 ∧ Aside0 (mapsheetslaw03_DigestHex.j0 kq a0 t112 x17_2 = some r) ∧ Aside0 (kq ≤ k) ∧ Aside0 (Below w.heap.size w wc))
  case first =>
    have H := HC3.out
    clear HC3
    replace H := Option.bind_eq_some_iff.mp H
    obtain ⟨t113, A50, H⟩ := H
    replace H : (if t112.toList = t113.toList then (mapsheetslaw03_DigestHex.j0 k a0 t112 ((t112.size : Int) != 16)) else (mapsheetslaw03_DigestHex.j0 k a0 t112 true)) = some r := H
    have A5 := Aside0.mk A50
    clear A50
    by_cases c6 : t112.toList = t113.toList
    · rw [if_pos c6] at H
      have c6b0 : (t112.toList == t113.toList) = true := beq_iff_eq.mpr c6
      have c6b1 : (t112.toList != t113.toList) = false := bne_eq_false_iff_eq.mpr c6
      clear c6
      (first | rw [c6b0] | (simp only [i64_w, i32_w]; rw [c6b0]) | skip)
      have H' := Aside0.mk H
      clear H
      go_wp2_with (first | ((with_reducible refine gate_callee (f := 16) rfl ?_); refine goesL_ (some 11) rfl rfl Try.func16 (by kernel_rfl) rfl #[.int .u64 a0] rfl (by (try simp only [List.map_toArray, List.map_cons, List.map_nil]); first | done | rfl | (simp only [List.length_drop, List.length_take]; rfl)) ?_; (with_reducible refine (mapsheetsref03_Hex.calls k a0 t113 _ A5.out).mono ?_); rintro e w' ⟨rfl, ⟨nd, rfl⟩⟩; refine ⟨_, rfl, ?_⟩))
      go_meet
      case rel => exact ⟨_, (((t112.size : Int) != 16)), (by first | rfl | (simp; done) | (simp [*]; done)), H', ⟨by first | omega | exact Nat.le_refl _⟩, ⟨by repeat (first | (with_reducible first | exact HB.out | apply below_alloc | apply pw_below_drewN | apply below_drew1) | exact HB.out)⟩⟩
    · rw [if_neg c6] at H
      have c6b0 : (t112.toList == t113.toList) = false := beq_eq_false_iff_ne.mpr c6
      have c6b1 : (t112.toList != t113.toList) = true := bne_iff_ne.mpr c6
      (first | rw [c6b0] | (simp only [i64_w, i32_w]; rw [c6b0]) | skip)
      have H' := Aside0.mk H
      clear H
      go_wp2_with (first | ((with_reducible refine gate_callee (f := 16) rfl ?_); refine goesL_ (some 11) rfl rfl Try.func16 (by kernel_rfl) rfl #[.int .u64 a0] rfl (by (try simp only [List.map_toArray, List.map_cons, List.map_nil]); first | done | rfl | (simp only [List.length_drop, List.length_take]; rfl)) ?_; (with_reducible refine (mapsheetsref03_Hex.calls k a0 t113 _ A5.out).mono ?_); rintro e w' ⟨rfl, ⟨nd, rfl⟩⟩; refine ⟨_, rfl, ?_⟩))
      go_meet
      case rel => exact ⟨_, (true), (by first | rfl | (simp; done) | (simp [*]; done)), H', ⟨by first | omega | exact Nat.le_refl _⟩, ⟨by repeat (first | (with_reducible first | exact HB.out | apply below_alloc | apply pw_below_drewN | apply below_drew1) | exact HB.out)⟩⟩
  case rest =>
    clear HC3
    try clear c1
    try clear p2
    try clear c4
    try clear c6
    try clear c6b0
    try clear c6b1
    obtain ⟨kq, x17_2, rfl, HA, HJ2, HB⟩ := hcut
    cases kq with
    | zero => exact absurd HA.out (by simp [mapsheetslaw03_DigestHex.j0])
    | succ kj2 =>
      have H := HA.out
      clear HA
      simp only [mapsheetslaw03_DigestHex.j0] at H
      by_cases c7 : x17_2 = true
      · subst c7
        have H1 : (none) = some r := by rw [if_pos rfl] at H; exact H
        clear H
        have H := H1
        clear H1
        exact absurd H (by simp)
      · replace c7 := Bool.eq_false_iff.mpr c7
        subst c7
        have H1 : (mapsheetslaw03_DigestHex.l0 kj2 a0 t112 0 0) = some r := by rw [if_neg (show ¬ (false = true) by decide)] at H; exact H
        clear H
        have H := H1
        clear H1
        have H' := Aside0.mk H
        clear H
        go_wp2
        go_loopg [4, 5] kj2 (fun kq v4 v5 w' => ∃ (x4_2 : Int) (x5_2 : Int), v4 = .int .u64 x4_2 ∧ v5 = .int .i64 x5_2 ∧ Aside0 (mapsheetslaw03_DigestHex.l0 kq a0 t112 x4_2 x5_2 = some r) ∧ Aside0 (kq ≤ kj2) ∧ Aside0 (Below w.heap.size w w'))
        case atStart => exact ⟨(0), (0), (by first | rfl | (simp; done) | (simp [*]; done)), (by first | rfl | (simp; done) | (simp [*]; done)), H', ⟨Nat.le_refl _⟩, ⟨by repeat (first | (with_reducible first | exact HB.out | apply below_alloc | apply pw_below_drewN | apply below_drew1) | exact HB.out)⟩⟩
        case round =>
          clear H'
          try clear c1
          try clear p2
          try clear c4
          try clear c6
          try clear c6b0
          try clear c6b1
          try clear c7
          try clear p2
          obtain ⟨x4_2, x5_2, rfl, rfl, HA, HK2, HB⟩ := hrel
          cases gk with
          | zero => exact absurd HA.out (by simp [mapsheetslaw03_DigestHex.l0])
          | succ k2 =>
            have H := HA.out
            clear HA
            simp only [mapsheetslaw03_DigestHex.l0] at H
            by_cases c8 : x5_2 < (t112.size : Int)
            · rw [if_pos c8] at H
              have c8b0 : decide (x5_2 < (t112.size : Int)) = true := decide_eq_true c8
              clear c8
              by_cases c9 : 0 ≤ x5_2
              · rw [if_pos c9] at H
                have c9b0 : decide (0 ≤ x5_2) = true := decide_eq_true c9
                clear c9
                by_cases c11 : (IntKind.u64.wrap (bt t112 x5_2)) ≥ 97
                · rw [if_pos c11] at H
                  have c11b0 : decide (97 ≤ (IntKind.u64.wrap (bt t112 x5_2))) = true := decide_eq_true c11
                  clear c11
                  have H' := Aside0.mk H
                  clear H
                  have p10 : 0 ≤ (x5_2 : Int) := of_decide_eq_true (by first | (with_reducible assumption) | assumption)
                  have q10 : x5_2 < (t112.size : Int) := of_decide_eq_true (by first | (with_reducible assumption) | assumption)
                  have hx10 := bt_at t112 x5_2
                  replace p10 := eq_true p10
                  replace q10 := eq_true q10
                  go_wp2
                  go_roundg k2
                  case measure => have := HJ2.out; have := HK2.out; omega
                  case rel => exact ⟨(IntKind.u64.wrap ((IntKind.u64.wrap (x4_2 * 16)) + (IntKind.u64.wrap ((IntKind.u64.wrap ((IntKind.u64.wrap (bt t112 x5_2)) - 97)) + 10)))), (wrap64 (x5_2 + 1)), (by first | rfl | (simp; done) | (simp [*]; done)), (by first | rfl | (simp; done) | (simp [*]; done)), H', ⟨by have := HJ2.out; have := HK2.out; omega⟩, ⟨by repeat (first | (with_reducible first | exact HB.out | apply below_alloc | apply pw_below_drewN | apply below_drew1) | exact HB.out)⟩⟩
                · rw [if_neg c11] at H
                  have c11b0 : decide (97 ≤ (IntKind.u64.wrap (bt t112 x5_2))) = false := decide_eq_false c11
                  clear c11
                  have H' := Aside0.mk H
                  clear H
                  have p10 : 0 ≤ (x5_2 : Int) := of_decide_eq_true (by first | (with_reducible assumption) | assumption)
                  have q10 : x5_2 < (t112.size : Int) := of_decide_eq_true (by first | (with_reducible assumption) | assumption)
                  have hx10 := bt_at t112 x5_2
                  replace p10 := eq_true p10
                  replace q10 := eq_true q10
                  go_wp2
                  go_roundg k2
                  case measure => have := HJ2.out; have := HK2.out; omega
                  case rel => exact ⟨(IntKind.u64.wrap ((IntKind.u64.wrap (x4_2 * 16)) + (IntKind.u64.wrap ((IntKind.u64.wrap (bt t112 x5_2)) - 48)))), (wrap64 (x5_2 + 1)), (by first | rfl | (simp; done) | (simp [*]; done)), (by first | rfl | (simp; done) | (simp [*]; done)), H', ⟨by have := HJ2.out; have := HK2.out; omega⟩, ⟨by repeat (first | (with_reducible first | exact HB.out | apply below_alloc | apply pw_below_drewN | apply below_drew1) | exact HB.out)⟩⟩
              · rw [if_neg c9] at H
                exact absurd H (by simp)
            · rw [if_neg c8] at H
              have c8b0 : decide (x5_2 < (t112.size : Int)) = false := decide_eq_false c8
              clear c8
              by_cases c12 : x4_2 = a0
              · rw [if_pos c12] at H
                have c12b0 : (x4_2 == a0) = true := beq_iff_eq.mpr c12
                have c12b1 : (x4_2 != a0) = false := bne_eq_false_iff_eq.mpr c12
                clear c12
                replace H := Option.bind_eq_some_iff.mp H
                obtain ⟨t114, A130, H⟩ := H
                replace H : (some t114) = some r := H
                have A13 := Aside0.mk A130
                clear A130
                obtain rfl := Option.some.inj H
                go_wp2_with (first | (go_at_call 14; (with_reducible refine (mapsheetslaw03_awake.calls  t114 _ A13.out).mono ?_); rintro e w14 ⟨rfl, hb⟩; have n0_ := Aside0.mk (below_step (by repeat (first | (with_reducible first | exact HB.out | apply below_alloc | apply pw_below_drewN | apply below_drew1) | exact HB.out)) hb); clear HB; have HB := n0_; clear n0_; (try clear hb); (try clear hb2); (try clear hk); (try clear hi)))
                go_ret
                exact ⟨by first | rfl | (simp [errW_none, errW_some] <;> rfl) | (simp [*, errW_none, errW_some] <;> rfl), by repeat (first | (with_reducible first | exact HB.out | apply below_alloc | apply pw_below_drewN | apply below_drew1) | exact HB.out)⟩
              · rw [if_neg c12] at H
                exact absurd H (by simp)

/-- THE ONE PURE STATEMENT of mapsheetslaw03_DigestHex: yours. -/
def mapsheetslaw03_DigestHex.Pure : Prop := ∀ (a0 : Int), (Lit.int .u64 a0).wf = true → ∃ k, mapsheetslaw03_DigestHex.f k a0 = some true
theorem mapsheetslaw03_DigestHex.walk (P : mapsheetslaw03_DigestHex.Pure) (a0 : Int) (w : World) (w0 : (Lit.int .u64 a0).wf = true) :
    Calls Try.prog 4 #[.int .u64 a0] w fun e w' => e = .returned (.bool true) ∧ Below w.heap.size w w' := by
  obtain ⟨k, h⟩ := P a0 w0
  refine (mapsheetslaw03_DigestHex.calls k a0 true w h).mono ?_
  rintro e w' ⟨rfl, hd⟩
  exact ⟨rfl, hd⟩

end Go.Proofs.Ytbogbpbapgjndaa.PA
