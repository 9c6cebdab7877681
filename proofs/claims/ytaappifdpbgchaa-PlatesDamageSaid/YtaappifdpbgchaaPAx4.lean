-- Written by wip/pp.py of this repository, on the kit's print program. Not trusted: Lean checks it.
import Derived.Test.YtaappifdpbgchaaPAx0
import Derived.Test.YtaappifdpbgchaaPAx1
import Derived.Test.YtaappifdpbgchaaPAx2
namespace Go.Proofs.Ytaappifdpbgchaa.PA
open Go.RowKit Go.Proofs.YtaappifdpbgchaaW.PrintWords Go.Proofs.YtaappifdpbgchaaW.PrintLast Go.Proofs.YtaappifdpbgchaaW.PrintMore
attribute [local go_sem] max2_int min2_int max_two min_two max_three min_three max_four min_four   -- for this text's walks alone
set_option linter.unusedVariables false
set_option linter.unusedSimpArgs false

/-! ### mapsheetsref03_Same: function 17 -/
def mapsheetsref03_Same.l0 : Nat → List Int → List Int → Int → Option (Bool)
  | 0, _, _, _ => none
  | k + 1, x0, x1, x5 => if x5 < (x0.length : Int) then (if 0 ≤ x5 then (if x5 < (x1.length : Int) then (if (rd x0 x5) = (rd x1 x5) then (mapsheetsref03_Same.l0 k x0 x1 (wrap64 (x5 + 1))) else (some false)) else (none)) else (none)) else (some true)
def mapsheetsref03_Same.f (k : Nat) (l0 : List Int) (l1 : List Int) : Option (Bool) := if (l0.length : Int) = (l1.length : Int) then (mapsheetsref03_Same.l0 k l0 l1 0) else (some false)
theorem mapsheetsref03_Same.mono_l : ∀ k, (∀ y0 y1 y2, LeO (mapsheetsref03_Same.l0 k y0 y1 y2) (mapsheetsref03_Same.l0 (k + 1) y0 y1 y2))
  | 0 => fun _ _ _ r h => by simp [mapsheetsref03_Same.l0] at h
  | k + 1 => by
    have ih0 := mapsheetsref03_Same.mono_l k
    · intro y0 y1 y2
      unfold mapsheetsref03_Same.l0
      repeat' first
      | (with_reducible exact ih0 _ _ _)
      | (with_reducible exact LeO.refl _)
      | (with_reducible exact LeO.none _)
      | (with_reducible refine LeO.ite ?_ ?_)
      | (with_reducible refine LeO.bind ?_ (fun _ => ?_))
      | exact ih0 _ _ _
      | exact LeO.none _
      | refine LeO.ite ?_ ?_
      | refine LeO.bind ?_ (fun _ => ?_)
theorem mapsheetsref03_Same.mono : ∀ a0 a1 k, LeO (mapsheetsref03_Same.f k a0 a1) (mapsheetsref03_Same.f (k + 1) a0 a1) := by
  intro a0 a1 k
  have ih0 := mapsheetsref03_Same.mono_l k
  unfold mapsheetsref03_Same.f
  repeat' first
      | (with_reducible exact ih0 _ _ _)
      | (with_reducible exact LeO.refl _)
      | (with_reducible exact LeO.none _)
      | (with_reducible refine LeO.ite ?_ ?_)
      | (with_reducible refine LeO.bind ?_ (fun _ => ?_))
      | exact ih0 _ _ _
      | exact LeO.none _
      | refine LeO.ite ?_ ?_
      | refine LeO.bind ?_ (fun _ => ?_)
set_option maxHeartbeats 8000000 in
set_option maxRecDepth 100000 in
theorem mapsheetsref03_Same.calls (k : Nat) (A0 : Option Addr) (c0 : Nat) (l0 : List Int) (A1 : Option Addr) (c1 : Nat) (l1 : List Int) (r : Bool) (w : World) (hr0 : Kd.C (Kd.int .u8) w A0 l0.length l0) (hc0 : l0.length ≤ c0) (hr1 : Kd.C (Kd.int .u8) w A1 l1.length l1) (hc1 : l1.length ≤ c1) (h : mapsheetsref03_Same.f k l0 l1 = some r) :
    Calls Try.prog 17 #[.slice A0 l0.length c0, .slice A1 l1.length c1] w fun e w' => e = .returned (.bool r) ∧ Drawn0 w w' := by
  have HR0 := Aside0.mk hr0
  have HC0 := Aside0.mk hc0
  clear hr0 hc0
  have HR1 := Aside0.mk hr1
  have HC1 := Aside0.mk hc1
  clear hr1 hc1
  have H : (if (l0.length : Int) = (l1.length : Int) then (mapsheetsref03_Same.l0 k l0 l1 0) else (some false)) = some r := h
  clear h
  by_cases c3 : (l0.length : Int) = (l1.length : Int)
  · rw [if_pos c3] at H
    have c3b0 : ((l0.length : Int) == (l1.length : Int)) = true := beq_iff_eq.mpr c3
    have c3b1 : ((l0.length : Int) != (l1.length : Int)) = false := bne_eq_false_iff_eq.mpr c3
    have c3b2 : (l0.length == l1.length) = true := by first | simpa using c3 | (simp at c3 ⊢; omega)
    clear c3
    have H' := Aside0.mk H
    clear H
    go_enter Try.func17, Try.ntmps17
    go_wp2
    repeat (go_quiet (fail); try go_wp2)
    go_loopg [5] k (fun kq v5 w' => ∃ (x5_1 : Int), v5 = .int .i64 x5_1 ∧ Aside0 (mapsheetsref03_Same.l0 kq l0 l1 x5_1 = some r) ∧ Aside0 (kq ≤ k) ∧ Drawn0 w w')
    case atStart => exact ⟨(0), (by first | rfl | (simp; done) | (simp [*]; done)), H', ⟨Nat.le_refl _⟩, by repeat (first | exact Drawn0.refl _ | apply Drawn0.step)⟩
    case round =>
      clear H'
      try clear c1
      try clear p2
      try clear c3
      try clear c3b0
      try clear c3b1
      try clear c3b2
      obtain ⟨x5_1, rfl, HA, HK1, ⟨m1, rfl⟩⟩ := hrel
      cases gk with
      | zero => exact absurd HA.out (by simp [mapsheetsref03_Same.l0])
      | succ k1 =>
        have H := HA.out
        clear HA
        simp only [mapsheetsref03_Same.l0] at H
        by_cases c4 : x5_1 < (l0.length : Int)
        · rw [if_pos c4] at H
          have c4b0 : decide (x5_1 < (l0.length : Int)) = true := decide_eq_true c4
          clear c4
          by_cases c5 : 0 ≤ x5_1
          · rw [if_pos c5] at H
            have c5b0 : decide (0 ≤ x5_1) = true := decide_eq_true c5
            clear c5
            by_cases c6 : x5_1 < (l1.length : Int)
            · rw [if_pos c6] at H
              have c6b0 : decide (x5_1 < (l1.length : Int)) = true := decide_eq_true c6
              clear c6
              by_cases c7 : (rd l0 x5_1) = (rd l1 x5_1)
              · rw [if_pos c7] at H
                have c7b0 : ((rd l0 x5_1) == (rd l1 x5_1)) = true := beq_iff_eq.mpr c7
                have c7b1 : ((rd l0 x5_1) != (rd l1 x5_1)) = false := bne_eq_false_iff_eq.mpr c7
                clear c7
                have H' := Aside0.mk H
                clear H
                have p137 : 0 ≤ (x5_1 : Int) := of_decide_eq_true (by first | (with_reducible assumption) | assumption)
                have q137 : x5_1 < (l0.length : Int) := of_decide_eq_true (by first | (with_reducible assumption) | assumption)
                obtain ⟨ad137, e137, hx137_0⟩ := Kd.at_int HR0.out x5_1 p137 q137
                cases e137
                replace p137 := eq_true p137
                replace q137 := eq_true q137
                have p138 : 0 ≤ (x5_1 : Int) := of_decide_eq_true (by first | (with_reducible assumption) | assumption)
                have q138 : x5_1 < (l1.length : Int) := of_decide_eq_true (by first | (with_reducible assumption) | assumption)
                obtain ⟨ad138, e138, hx138_0⟩ := Kd.at_int HR1.out x5_1 p138 q138
                cases e138
                replace p138 := eq_true p138
                replace q138 := eq_true q138
                go_wp2
                repeat (go_quiet (fail); try go_wp2)
                go_roundg k1
                case measure => have := HK1.out; omega
                case rel => exact ⟨(wrap64 (x5_1 + 1)), (by first | rfl | (simp; done) | (simp [*]; done)), H', ⟨by have := HK1.out; omega⟩, by repeat (first | exact Drawn0.refl _ | apply Drawn0.step)⟩
              · rw [if_neg c7] at H
                have c7b0 : ((rd l0 x5_1) == (rd l1 x5_1)) = false := beq_eq_false_iff_ne.mpr c7
                have c7b1 : ((rd l0 x5_1) != (rd l1 x5_1)) = true := bne_iff_ne.mpr c7
                obtain rfl := Option.some.inj H
                have p137 : 0 ≤ (x5_1 : Int) := of_decide_eq_true (by first | (with_reducible assumption) | assumption)
                have q137 : x5_1 < (l0.length : Int) := of_decide_eq_true (by first | (with_reducible assumption) | assumption)
                obtain ⟨ad137, e137, hx137_0⟩ := Kd.at_int HR0.out x5_1 p137 q137
                cases e137
                replace p137 := eq_true p137
                replace q137 := eq_true q137
                have p138 : 0 ≤ (x5_1 : Int) := of_decide_eq_true (by first | (with_reducible assumption) | assumption)
                have q138 : x5_1 < (l1.length : Int) := of_decide_eq_true (by first | (with_reducible assumption) | assumption)
                obtain ⟨ad138, e138, hx138_0⟩ := Kd.at_int HR1.out x5_1 p138 q138
                cases e138
                replace p138 := eq_true p138
                replace q138 := eq_true q138
                go_wp2
                repeat (go_quiet (fail); try go_wp2)
                go_ret
                exact ⟨by first | rfl | (simp; done) | (simp [*]; done), by repeat (first | exact Drawn0.refl _ | apply Drawn0.step)⟩
            · rw [if_neg c6] at H
              exact absurd H (by simp)
          · rw [if_neg c5] at H
            exact absurd H (by simp)
        · rw [if_neg c4] at H
          have c4b0 : decide (x5_1 < (l0.length : Int)) = false := decide_eq_false c4
          clear c4
          obtain rfl := Option.some.inj H
          go_wp2
          repeat (go_quiet (fail); try go_wp2)
          go_ret
          exact ⟨by first | rfl | (simp; done) | (simp [*]; done), by repeat (first | exact Drawn0.refl _ | apply Drawn0.step)⟩
  · rw [if_neg c3] at H
    have c3b0 : ((l0.length : Int) == (l1.length : Int)) = false := beq_eq_false_iff_ne.mpr c3
    have c3b1 : ((l0.length : Int) != (l1.length : Int)) = true := bne_iff_ne.mpr c3
    have c3b2 : (l0.length == l1.length) = false := by first | simpa using c3 | (simp at c3 ⊢; omega)
    obtain rfl := Option.some.inj H
    go_enter Try.func17, Try.ntmps17
    go_wp2
    repeat (go_quiet (fail); try go_wp2)
    go_ret
    exact ⟨by first | rfl | (simp; done) | (simp [*]; done), by repeat (first | exact Drawn0.refl _ | apply Drawn0.step)⟩

/-! ### slices_Clone_byte_byte: function 44 -/
def slices_Clone_byte_byte.f (l0 : List Int) : Option (List Int) := if l0.length * 1 ≤ 140737488355328 then some l0 else none
set_option maxHeartbeats 1000000 in
theorem slices_Clone_byte_byte.calls (A0 : Option Addr) (c0 : Nat) (l0 : List Int) (r : List Int) (w : World) (hr0 : Kd.C (Kd.int .u8) w A0 l0.length l0) (hc0 : l0.length ≤ c0) (h : slices_Clone_byte_byte.f l0 = some r) :
    Calls Try.prog 44 #[.slice A0 l0.length c0] w fun e w' => ∃ v0_ : Value, e = .returned (v0_) ∧ Kd.R (Kd.int .u8) 5 w' w.heap.size (fun _ => True) v0_ r ∧ Below w.heap.size w w' := by
  unfold slices_Clone_byte_byte.f at h
  by_cases g : l0.length * 1 ≤ 140737488355328
  case neg => rw [if_neg g] at h; cases h
  rw [if_pos g] at h
  injection h with h
  have HG := Aside0.mk g
  have HH := Aside0.mk h
  have HR := Aside0.mk hr0
  have hsn := Lib.run_eql_slice_nil (P := Try.prog) w 30 5 A0 l0.length c0 0 0 Try.underlying30
  have HB := Aside0.mk (Below.refl w.heap.size w)
  cases A0 with
  | none =>
    have hl : l0 = [] := by
      cases l0 with
      | nil => rfl
      | cons x t =>
        obtain ⟨ad, h2, _⟩ := hr0.2.2 (by simp)
        cases h2
    subst hl
    clear h g hr0
    rw [show (none : Option Addr).isNone = true from rfl, List.length_nil] at hsn
    rw [List.length_nil]
    go_enter Try.func44, Try.ntmps44
    go_wp2
    go_ret
    exact ⟨_, rfl, by rw [← HH.out]; exact Kd.R_nil _ _ _ _ _, HB.out⟩
  | some ad =>
    clear h g hr0
    rw [show (some ad : Option Addr).isNone = false from rfl] at hsn
    go_enter Try.func44, Try.ntmps44
    go_wp2_with (first | ((with_reducible refine gate_dst (N := 5) rfl ?_); refine Kd.R_lit (Kd.int .u8) _ 5 ?hg (N := 5) ?hd (xs := ([] : List Int)) (inner := []) (ok := fun _ => True) (okp := fun _ => True) ?hr ?hp (fun _ hk => hk) trivial (Below.refl _ _) (Nat.le_refl _) (by simp) ?_; (case hd => rfl); (case hg => rfl); (case hr => first | (go_simp; done) | (go_simp; rfl)); (case hp => exact (Reps.none _ _)); intro v5 w6 ho7 hb _ _; have HO5 := Aside0.mk ho7; have HB1 := Aside0.mk hb; clear hb ho7) | ((with_reducible refine gate_builtin (b := .append) (xs := #[.tmp 5, .tmp 6]) rfl ?_); at_builtin; refine Kd.R_append_rows (Kd.int .u8) (w0 := w) w.heap.size rfl (.tmp 5) (.tmp 6) 30 5 (.int .u8 0) 1 rfl Try.underlying30 info5 rfl (by decide) (by omega) v5 [] l0 _ _ _ (fun _ => True) (fun _ => False) rfl rfl HO5.out (Kd.C_below HR.out HB1.out) (fun _ _ h => h) (fun _ h => h.elim) (fun _ _ => trivial) HB1.out (below_size HB1.out) (by have := HG.out; simp; omega) ?_; intro v113 w8 ho hb _ _; have HO6 := Aside0.mk ho; have HB2 := Aside0.mk hb; clear ho hb))
    go_ret
    exact ⟨_, rfl, by rw [← HH.out]; exact HO6.out, HB2.out⟩

/-! ### digest_Open: function 33 -/
section
variable {α : Type} {P : Program} {ops : Array Oper} {rest : List Oper} {o : Oper} {a : Act} {Q : Exit → Act → World → Prop}
/-- make([]T, 0, n): an empty row with room. -/
theorem R_make_room (d : Kd α) {w0 W : World} (base e : Nat) (hgd : o.guard = none) {N : Tmp} (hd : o.dst = some N) (t : TypeId) (x y : Operand) (ho : o.op = .makeSlice t x y) (n : Int) (hx : a.eval x = .int .i64 0) (hy : a.eval y = .int .i64 n)
    (ht : P.underlying t = some (.slice e)) (z : Value) (bytes : Nat) (hinfo : (P.info? e).map (fun i => (i.zero, i.size, i.bytes)) = some (some z, d.sz, bytes)) (hz : z.cells.size = d.sz) (hs0 : 0 < d.sz) (hb0 : 0 < bytes)
    (z0 : α) {ok okp : Nat → Prop} (hzero : d.M W base okp z0 z.cells.toList) (hok : ∀ k, okp k → ok k) (hfresh : ok W.heap.size) (h0 : 0 ≤ n) (hl : n.toNat * bytes ≤ 281474976710656) (HB : Below base w0 W) (hbase : base ≤ W.heap.size)
    (h : ∀ v1 w1, d.R e w1 base ok v1 ([] : List α) → Below base w0 w1 → W.grownBy w1 none → (∃ b, v1.ownBlock = some b ∧ W.heap.size ≤ b) → wpList P ops Q rest (a.put o.dst v1) w1) : wpList P ops Q (o :: rest) a W := by
  obtain ⟨m, rfl⟩ := Int.eq_ofNat_of_zero_le h0
  simp only [Int.toNat_natCast] at hl
  obtain ⟨i0, hi, hzz⟩ := Option.map_eq_some_iff.1 hinfo
  simp only [Prod.mk.injEq] at hzz
  obtain ⟨hz0, hz1, hz2⟩ := hzz
  have hm : m ≤ 281474976710656 := Nat.le_trans (Nat.le_mul_of_pos_right _ hb0) hl
  have hr := run_make (P := P) W t e i0 z ht hi hz0 .i64 .i64 (0 : Int) (m : Int) (by omega) (by omega)
    (by
      have h3 : ((i0.bytes * m : Nat) : Int) ≤ 281474976710656 := by rw [hz2, Nat.mul_comm]; omega
      rwa [Int.natCast_mul] at h3) (by omega)
  simp only [Int.toNat_natCast] at hr
  rw [hz1] at hr
  have hr2 : (execOp a.eval o).run P W = .ok (.value (.slice (some ⟨W.heap.size, 0, none⟩) 0 m)) (W.alloc (.cells (madeCells z.cells (m * d.sz)) e)) := by
    simp [execOp, ho, hx, hy, hr]
  refine Kd.event_run hgd hr2 (h _ _ ⟨fun k hk => ?_, [], ?_, ?_⟩ (HB.alloc hbase _) (World.grownBy_alloc W _ none) ⟨W.heap.size, by simp [Value.ownBlock], Nat.le_refl _⟩)
  · have : W.heap.size = k := by simpa [Value.ownBlock] using hk
    subst this
    exact hfresh
  · refine ⟨by simp, .inr ⟨W.heap.size, m, madeCells z.cells (m * d.sz), rfl, hbase, heap_alloc_new W _, Nat.zero_le _, by simp only [maxLen]; omega, by simp [size_madeCells], by simp⟩⟩
  · exact Reps.none _ _
end

def digest_Open.f (l0 : List Int) : Option (List Int × Int) :=
  if l0.all (fun x => decide (0 ≤ x) && decide (x ≤ 255)) = true then if l0.length ≤ 140737488355328 then if l0.length < 4 then some ([], 5)
  else (digest_sum.f (l0.take (l0.length - 4))).bind fun c => if l0.drop (l0.length - 4) = tailL c then some (l0.take (l0.length - 4), 0) else some ([], 6)
  else none else none
theorem run_load_arr {P : Program} (w : World) (ty : TypeId) (ad : Addr) (cs : List Value) (d : TypeDesc) (hc : ∀ j v, cs[j]? = some v → w.cell? (ad.add j) = some v) (hu : P.underlying ty = some d) (hd : (match d with | .struct _ | .array _ _ => true | _ => false) = true) (hi : (P.info? ty).map (·.size) = some cs.length) :
    (loadVar ty ad).run P w = .ok (.agg cs.toArray) w := by
  have hl : (loadCells ad cs.length).run P w = .ok cs.toArray w := run_loadCells_list (P := P) w ad cs hc
  cases hq : P.info? ty with
  | none => simp [hq] at hi
  | some i =>
    have hs : i.size = cs.length := by simpa [hq] using hi
    have hagg : (isAgg ty).run P w = .ok true w := by
      unfold isAgg
      rw [Sem.run_bind, run_underlying hu w]
      cases d <;> simp_all
    simp [loadVar, Sem.run_bind, hagg, sizeOf, typeInfo, hq, hs, hl]
set_option maxHeartbeats 1000000 in
theorem open_short (A0 : Option Addr) (c0 : Nat) (n : Nat) (w : World) (hn : n < 4) :
    Calls Try.prog 33 #[.slice A0 n c0] w fun e w' => e = .returned (.tuple #[.slice none 0 0, .int .i64 5]) ∧ w = w' := by
  have hb : decide ((n : Int) - 4 < 0) = true := by simp; omega
  go_enter Try.func33, Try.ntmps33
  go_wp2
  go_ret2
  exact ⟨rfl, rfl⟩
theorem exec_load {P : Program} {oi : Oper} {a : Act} {w : World} {ty : TypeId} {x : Operand} {ad : Addr} {v : Value} (ho : oi.op = .load ty x) (hx : a.eval x = .pointer (some ad)) (h : (loadVar ty ad).run P w = .ok v w) : (execOp a.eval oi).run P w = .ok (.value v) w := by
  unfold execOp
  simp only [ho, hx, Instr.loadAt, Instr.sureAddr, Sem.run_bind, Sem.run_pure, Result.andThen_ok, h]
theorem take_reads {ad : Addr} {N : Nat} {l0 : List Int} {w : World} (hl : l0.length = N + 4) (hr : Kd.C (Kd.int .u8) w (some ad) (N + 4) l0) : Kd.C (Kd.int .u8) w (some ad) (l0.take N).length (l0.take N) := by
  have hlen : (l0.take N).length = N := by rw [List.length_take]; omega
  rw [hlen]
  obtain ⟨q1, q2, q3⟩ := hr
  refine ⟨hlen, by omega, fun _ => ?_⟩
  obtain ⟨ad', e, hq⟩ := q3 (by omega)
  refine ⟨ad', e, fun j p hp => hq j p ?_⟩
  rw [List.getElem?_take] at hp
  split at hp
  · exact hp
  · cases hp
theorem sum_take {ad : Addr} {c0 N : Nat} {l0 : List Int} {w w4 : World} {c : Int} (hl : l0.length = N + 4) (hr : Kd.C (Kd.int .u8) w (some ad) (N + 4) l0) (hb : Below w.heap.size w w4) (hc : N ≤ c0) (h : digest_sum.f (l0.take N) = some c) :
    Calls Try.prog 42 #[.slice (some ad) N c0] w4 fun e w' => e = .returned (.int .u32 c) ∧ Below w.heap.size w w' := by
  have hlen : (l0.take N).length = N := by rw [List.length_take]; omega
  have hC : Kd.C (Kd.int .u8) w4 (some ad) (l0.take N).length (l0.take N) := by
    rw [hlen]
    obtain ⟨q1, q2, q3⟩ := Kd.C_below hr hb
    refine ⟨hlen, by omega, fun _ => ?_⟩
    obtain ⟨ad', e, hq⟩ := q3 (by omega)
    refine ⟨ad', e, fun j p hp => hq j p ?_⟩
    rw [List.getElem?_take] at hp
    split at hp
    · exact hp
    · cases hp
  have := digest_sum.calls (some ad) c0 (l0.take N) c w4 hC (by omega) h
  rw [hlen] at this
  exact this.mono fun e w' ⟨h1, h2⟩ => ⟨h1, below_step hb h2⟩
theorem clone_take {ad : Addr} {c0 N : Nat} {l0 r : List Int} {w w4 : World} (hlen : (l0.take N).length = N) (hC : Kd.C (Kd.int .u8) w (some ad) N (l0.take N)) (hb : Below w.heap.size w w4) (hc : N ≤ c0) (h : slices_Clone_byte_byte.f (l0.take N) = some r) :
    Calls Try.prog 44 #[.slice (some ad) N c0] w4 fun e w' => ∃ v0_ : Value, e = .returned (v0_) ∧ Kd.R (Kd.int .u8) 5 w' w.heap.size (fun _ => True) v0_ r ∧ Below w.heap.size w w' := by
  have := slices_Clone_byte_byte.calls (some ad) c0 (l0.take N) r w4 (by rw [hlen]; exact Kd.C_below hC hb) (by omega) h
  rw [hlen] at this
  exact this.mono fun e w' ⟨v, h1, h2, h3⟩ => ⟨v, h1, Kd.R_lower h2 (below_size hb), below_step hb h3⟩
def OpenPost (w : World) (l0 : List Int) (r : List Int) (x : Int) (e : Ending) (w' : World) : Prop := ∃ v0_ : Value, e = .returned (.tuple #[v0_, .int .i64 x]) ∧ Kd.R (Kd.int .u8) 5 w' w.heap.size (fun _ => True) v0_ r ∧ Below w.heap.size w w'
set_option maxHeartbeats 2000000 in
theorem open_long (ad : Addr) (c0 : Nat) (N : Nat) (l0 : List Int) (w : World) (hn : N + 4 ≤ 4611686018427387904) (hc : N + 4 ≤ c0) (hl : l0.length = N + 4) (hr : Kd.C (Kd.int .u8) w (some ad) (N + 4) l0) (X : List Int) (hX : X = l0.drop N) (c : Int) (hs : digest_sum.f (l0.take N) = some c)
    (b : Bool) (hneq : ∀ w', (binOp .neq 59 (.agg (X.map (Value.int .u8)).toArray) (.agg #[.int .u8 (c / 16777216 % 256), .int .u8 (c / 65536 % 256), .int .u8 (c / 256 % 256), .int .u8 (c % 256)])).run Try.prog w' = .ok (.bool b) w') (r : List Int) (x : Int) (hrx : (b = true ∧ r = [] ∧ x = 6) ∨ (b = false ∧ r = l0.take N ∧ x = 0 ∧ N + 4 ≤ 140737488355328)) :
    Calls Try.prog 33 #[.slice (some ad) (N + 4) c0] w (OpenPost w l0 r x) := by
  have hb : decide ((N : Int) < 0) = false := by simp
  have hcN : ¬ c0 = N := by omega
  have hN1 : (N : Int) ≤ (N : Int) + 4 := by omega
  have hN2 : N ≤ c0 := by omega
  have harr : ∀ w', (Instr.arrayAt 59 (.slice (some (ad.add N)) 4 (c0 - N))).run Try.prog w' = .ok (.pointer (some (ad.add N))) w' := fun w' => run_arrayAt w' 59 _ 4 _ 4 _ Try.underlying59 (by omega)
  have HS := Aside0.mk hs
  have HLd : Aside0 (∀ w', Below w.heap.size w w' → (loadVar 59 (ad.add N)).run Try.prog w' = .ok (.agg (X.map (Value.int .u8)).toArray) w') := ⟨fun w' hb => by
    refine run_load_arr w' 59 (ad.add N) (X.map (Value.int .u8)) _ (fun j v hj => ?_) Try.underlying59 rfl ?_
    · obtain ⟨_, _, q3⟩ := Kd.C_below hr hb
      obtain ⟨ad', e, hq⟩ := q3 (by omega)
      cases e
      rw [List.getElem?_map] at hj
      cases hx : X[j]? with
      | none => rw [hx] at hj; cases hj
      | some p =>
        rw [hx] at hj
        injection hj with hj
        subst hj
        rw [hX, List.getElem?_drop] at hx
        obtain ⟨cs, h1, h2, h3⟩ := hq (N + j) p hx
        have h2' : cs = [Value.int .u8 p] := h2
        subst h2'
        have := h3 0 _ rfl
        have hsz : (Kd.int .u8).sz = 1 := rfl
        rw [hsz, Nat.mul_one, Nat.add_zero] at this
        rw [Addr.add_add]
        exact this
    · rw [List.length_map, hX, List.length_drop, hl, Nat.add_sub_cancel_left]
      kernel_rfl⟩
  have HX := Aside0.mk hrx
  clear hrx hs hX
  go_enter Try.func33, Try.ntmps33
  go_wp2
  refine start_ (n := 11) (S := fun w' => Below w.heap.size w w') (ds := []) #[false, false, false, false, false, false, false, false, false, false, false] (by kernel_rfl) rfl rfl (Below.refl _ _).drew (fun hHeld => ?_)
  generalize w.drew = w3 at hHeld ⊢
  refine pure_ (i := 0) (N := some 10) (v := ?_) (a' := ?_) #[true, false, false, false, false, false, false, false, false, false, false] rfl rfl (by kernel_rfl) (fun _ _ _ h => h) (Or.inl ⟨by rfl, ?_⟩) ?_ ?_
  rotate_left
  · intro w'
    go_simp
    with_reducible rfl
  rotate_left
  · simp only [Act.put, List.setIfInBounds_toArray, List.set_cons_zero, List.set_cons_succ, i64_w, i32_w]
    rfl
  refine pure_ (i := 1) (N := some 11) (v := ?_) (a' := ?_) #[true, true, false, false, false, false, false, false, false, false, false] rfl rfl (by kernel_rfl) (fun _ _ _ h => h) (Or.inl ⟨by rfl, ?_⟩) ?_ ?_
  rotate_left
  · intro w'
    go_simp
    with_reducible rfl
  rotate_left
  · simp only [Act.put, List.setIfInBounds_toArray, List.set_cons_zero, List.set_cons_succ, i64_w, i32_w]
    rfl
  refine pure_ (i := 2) (N := some 12) (v := ?_) (a' := ?_) #[true, true, true, false, false, false, false, false, false, false, false] rfl rfl (by kernel_rfl) (fun _ _ _ h => h) (Or.inl ⟨by rfl, ?_⟩) ?_ ?_
  rotate_left
  · intro w'
    go_simp
    with_reducible rfl
  rotate_left
  · simp only [Act.put, List.setIfInBounds_toArray, List.set_cons_zero, List.set_cons_succ, i64_w, i32_w]
    rfl
  refine pure_ (i := 3) (N := some 13) (v := ?_) (a' := ?_) #[true, true, true, true, false, false, false, false, false, false, false] rfl rfl (by kernel_rfl) (fun _ _ _ h => h) (Or.inl ⟨by rfl, ?_⟩) ?_ ?_
  rotate_left
  · intro w'
    go_simp
    with_reducible rfl
  rotate_left
  · simp only [Act.put, List.setIfInBounds_toArray, List.set_cons_zero, List.set_cons_succ, i64_w, i32_w]
    rfl
  refine take_ (i := 4) (N := some 14) (v := .agg (X.map (Value.int .u8)).toArray) (a' := ?_) #[true, true, true, true, true, false, false, false, false, false, false] rfl rfl (by kernel_rfl) (fun _ _ _ h => h) (Or.inl ⟨by rfl, fun w' hS => ?_⟩) hHeld ?_ ?_
  · exact exec_load rfl rfl (HLd.out w' hS)
  rotate_left
  · simp only [Act.put, List.setIfInBounds_toArray, List.set_cons_zero, List.set_cons_succ, i64_w, i32_w]
    rfl
  refine pure_ (i := 5) (N := some 15) (v := ?_) (a' := ?_) #[true, true, true, true, true, true, false, false, false, false, false] rfl rfl (by kernel_rfl) (fun _ _ _ h => h) (Or.inl ⟨by rfl, ?_⟩) ?_ ?_
  rotate_left
  · intro w'
    go_simp
    with_reducible rfl
  rotate_left
  · simp only [Act.put, List.setIfInBounds_toArray, List.set_cons_zero, List.set_cons_succ, i64_w, i32_w]
    rfl
  refine pure_ (i := 6) (N := some 16) (v := ?_) (a' := ?_) #[true, true, true, true, true, true, true, false, false, false, false] rfl rfl (by kernel_rfl) (fun _ _ _ h => h) (Or.inl ⟨by rfl, ?_⟩) ?_ ?_
  rotate_left
  · intro w'
    go_simp
    with_reducible rfl
  rotate_left
  · simp only [Act.put, List.setIfInBounds_toArray, List.set_cons_zero, List.set_cons_succ, i64_w, i32_w]
    rfl
  refine pure_ (i := 7) (N := some 17) (v := ?_) (a' := ?_) #[true, true, true, true, true, true, true, true, false, false, false] rfl rfl (by kernel_rfl) (fun _ _ _ h => h) (Or.inl ⟨by rfl, ?_⟩) ?_ ?_
  rotate_left
  · intro w'
    go_simp
    with_reducible rfl
  rotate_left
  · simp only [Act.put, List.setIfInBounds_toArray, List.set_cons_zero, List.set_cons_succ, i64_w, i32_w]
    rfl
  refine one_ (i := 8) (N := some 18) #[true, true, true, true, true, true, true, true, true, false, false] rfl rfl (by kernel_rfl) (by decide) (fun K hK => ?_)
  refine goes_ Try.func42 (by kernel_rfl) rfl #[.slice (some ad) N c0] (by rfl) rfl rfl (by (try simp only [List.map_toArray, List.map_cons, List.map_nil]); first | done | rfl) ?_
  refine (sum_take hl hr hHeld (by omega) HS.out).mono ?_
  rintro e w4 ⟨rfl, hb4⟩
  refine ⟨_, rfl, ?_⟩
  refine hK.out _ _ hb4 (fun hHeld => ?_)
  clear hK K
  refine norm_ (a' := ?_) ?_ ?_
  rotate_left
  · show Act.put _ (some 18) _ = _
    simp only [Act.put, List.setIfInBounds_toArray, List.set_cons_zero, List.set_cons_succ, i64_w, i32_w]
    rfl
  refine one_ (i := 9) (N := some 19) #[true, true, true, true, true, true, true, true, true, true, false] rfl rfl (by kernel_rfl) (by decide) (fun K hK => ?_)
  refine goes_ Try.func41 (by kernel_rfl) rfl #[.int .u32 c] (by rfl) rfl rfl (by (try simp only [List.map_toArray, List.map_cons, List.map_nil]); first | done | rfl) ?_
  refine (tail_calls c _).mono ?_
  rintro e w5 ⟨rfl, hb5⟩
  refine ⟨_, rfl, ?_⟩
  refine hK.out _ _ (below_step hHeld hb5) (fun hHeld => ?_)
  clear hK K
  refine norm_ (a' := ?_) ?_ ?_
  rotate_left
  · show Act.put _ (some 19) _ = _
    simp only [Act.put, List.setIfInBounds_toArray, List.set_cons_zero, List.set_cons_succ, i64_w, i32_w]
    rfl
  refine pure_ (i := 10) (N := some 20) (v := ?_) (a' := ?_) #[true, true, true, true, true, true, true, true, true, true, true] rfl rfl (by kernel_rfl) (fun _ _ _ h => h) (Or.inl ⟨by rfl, ?_⟩) ?_ ?_
  rotate_left
  · intro w'
    go_simp
    with_reducible rfl
  rotate_left
  · simp only [Act.put, List.setIfInBounds_toArray, List.set_cons_zero, List.set_cons_succ, i64_w, i32_w]
    rfl
  refine done_ (by kernel_rfl) ?_
  have HB := Aside0.mk hHeld
  have HR := Aside0.mk hr
  clear hHeld hneq harr hr
  rcases HX.out with ⟨rfl, rfl, rfl⟩ | ⟨rfl, rfl, rfl, h47⟩
  · go_wp2
    go_ret2
    exact ⟨_, rfl, Kd.R_nil _ _ _ _ _, HB.out⟩
  · have HF : Aside0 (slices_Clone_byte_byte.f (l0.take N) = some (l0.take N)) := ⟨by unfold slices_Clone_byte_byte.f; rw [if_pos (by rw [List.length_take]; omega)]⟩
    have HC : Aside0 (Kd.C (Kd.int .u8) w (some ad) (l0.take N).length (l0.take N)) := ⟨take_reads hl HR.out⟩
    have hlen : (l0.take N).length = N := by rw [List.length_take]; omega
    rw [hlen] at HC
    have HLen := Aside0.mk hlen
    clear hlen h47
    go_wp2_with fail
    refine (clone_take HLen.out HC.out HB.out hN2 HF.out).mono ?_
    rintro e w6 ⟨v0, rfl, ho, hb6⟩
    have HO := Aside0.mk ho
    have HB6 := Aside0.mk hb6
    clear ho hb6
    go_wp2
    go_ret2
    exact ⟨_, rfl, HO.out, HB6.out⟩
/-- two arrays of four bytes, compared -/
theorem neq4 {P : Program} (t e : TypeId) (ht : P.underlying t = some (.array 4 e)) (he : P.underlying e = some (.int .u8)) (hsz : ∀ w, (sizeOf e).run P w = .ok 1 w) (xs ys : List Int) (hx : xs.length = 4) (hy : ys.length = 4) (bx : ∀ x ∈ xs, 0 ≤ x ∧ x ≤ 255) (by' : ∀ x ∈ ys, 0 ≤ x ∧ x ≤ 255) (w : World) :
    (binOp .neq t (.agg (xs.map (Value.int .u8)).toArray) (.agg (ys.map (Value.int .u8)).toArray)).run P w = .ok (.bool (!decide (xs = ys))) w := by
  have conv : ∀ zs : List Int, (∀ x ∈ zs, 0 ≤ x ∧ x ≤ 255) → zs.map (Value.int .u8) = (zs.map fun n => UInt8.ofNat n.toNat).map Extern.Stop.cell := by
    intro zs hz
    rw [List.map_map]
    apply List.map_congr_left
    intro z hzm
    have := hz z hzm
    simp only [Function.comp, Extern.Stop.cell, UInt8.toNat_ofNat']
    congr 1
    show z = ((z.toNat % 2 ^ 8 : Nat) : Int)
    omega
  have inj : ∀ zs us : List Int, (∀ x ∈ zs, 0 ≤ x ∧ x ≤ 255) → (∀ x ∈ us, 0 ≤ x ∧ x ≤ 255) → zs.map (fun n : Int => UInt8.ofNat n.toNat) = us.map (fun n : Int => UInt8.ofNat n.toNat) → zs = us := by
    intro zs
    induction zs with
    | nil => intro us _ _ h; cases us with | nil => rfl | cons u us => simp at h
    | cons z zs ih =>
      intro us hz hu h
      cases us with
      | nil => simp at h
      | cons u us =>
        simp only [List.map_cons, List.cons.injEq] at h
        have h1 := hz z List.mem_cons_self
        have h2 := hu u List.mem_cons_self
        have h3 := congrArg UInt8.toNat h.1
        simp only [UInt8.toNat_ofNat'] at h3
        rw [ih us (fun x hx => hz x (List.mem_cons_of_mem _ hx)) (fun x hx => hu x (List.mem_cons_of_mem _ hx)) h.2]
        congr 1
        omega
  rw [run_neq_struct, conv xs bx, conv ys by', run_equalIn_bytes w 9998 t e 4 ht he hsz _ _ (by simpa using hx) (by simpa using hy)]
  simp only [Result.andThen_ok]
  congr 3
  rw [Bool.eq_iff_iff]
  simp only [beq_iff_eq, decide_eq_true_eq]
  exact ⟨fun h => inj xs ys bx by' h, fun h => by rw [h]⟩
theorem tailL_bytes (c : Int) : ∀ x ∈ tailL c, 0 ≤ x ∧ x ≤ 255 := by
  intro x hx
  unfold tailL at hx
  simp only [List.mem_cons, List.not_mem_nil, or_false] at hx
  rcases hx with rfl | rfl | rfl | rfl <;> omega
theorem digest_Open.calls (A0 : Option Addr) (c0 : Nat) (l0 : List Int) (r1 : List Int) (r2 : Int) (w : World) (hr0 : Kd.C (Kd.int .u8) w A0 l0.length l0) (hc0 : l0.length ≤ c0) (h : digest_Open.f l0 = some (r1, r2)) :
    Calls Try.prog 33 #[.slice A0 l0.length c0] w fun e w' => ∃ v0_ : Value, e = .returned (.tuple #[v0_, .int .i64 r2]) ∧ Kd.R (Kd.int .u8) 5 w' w.heap.size (fun _ => True) v0_ r1 ∧ Below w.heap.size w w' := by
  unfold digest_Open.f at h
  by_cases hby : l0.all (fun x => decide (0 ≤ x) && decide (x ≤ 255)) = true
  case neg => rw [if_neg hby] at h; cases h
  rw [if_pos hby] at h
  by_cases h47 : l0.length ≤ 140737488355328
  case neg => rw [if_neg h47] at h; cases h
  rw [if_pos h47] at h
  have hall := List.all_eq_true.1 hby
  by_cases h4 : l0.length < 4
  · rw [if_pos h4] at h
    simp only [Option.some.injEq, Prod.mk.injEq] at h
    obtain ⟨rfl, rfl⟩ := h
    exact (open_short A0 c0 l0.length w h4).mono fun e w' ⟨h1, h2⟩ => ⟨_, h1, Kd.R_nil _ _ _ _ _, by subst h2; exact Below.refl _ _⟩
  · rw [if_neg h4] at h
    obtain ⟨N, hN⟩ : ∃ N, l0.length = N + 4 := ⟨l0.length - 4, by omega⟩
    rw [hN, Nat.add_sub_cancel] at h
    obtain ⟨c, hc, h⟩ := Option.bind_eq_some_iff.1 h
    obtain ⟨ad, rfl⟩ : ∃ ad, A0 = some ad := by
      obtain ⟨ad, e, _⟩ := hr0.2.2 (by omega)
      exact ⟨ad, e⟩
    have hlast : ∀ x ∈ l0.drop N, 0 ≤ x ∧ x ≤ 255 := fun x hx => by simpa using hall x (List.mem_of_mem_drop hx)
    have hsz : ∀ w, (sizeOf 5).run Try.prog w = .ok 1 w := fun w => by kernel_rfl
    have hneq := fun w' => neq4 (P := Try.prog) 59 5 Try.underlying59 Try.underlying5 hsz (l0.drop N) (tailL c) (by rw [List.length_drop, hN]; omega) rfl hlast (tailL_bytes c) w'
    rw [hN] at hr0 hc0 ⊢
    refine open_long ad c0 N l0 w (by omega) hc0 hN hr0 (l0.drop N) rfl c hc (!decide (l0.drop N = tailL c)) hneq r1 r2 ?_
    by_cases he : l0.drop N = tailL c
    · rw [if_pos he] at h
      simp only [Option.some.injEq, Prod.mk.injEq] at h
      exact .inr ⟨by simp [he], h.1.symm, h.2.symm, by omega⟩
    · rw [if_neg he] at h
      simp only [Option.some.injEq, Prod.mk.injEq] at h
      exact .inl ⟨by simp [he], h.1.symm, h.2.symm⟩

end Go.Proofs.Ytaappifdpbgchaa.PA
