-- Written by wip/pp.py of this repository, on the kit's print program. Not trusted: Lean checks it.
import Derived.Test.YtoopfdamdghbmaaPAx0
namespace Go.Proofs.Ytoopfdamdghbmaa.PA
open Go.RowKit Go.Proofs.YtoopfdamdghbmaaW.PrintWords Go.Proofs.YtoopfdamdghbmaaW.PrintLast Go.Proofs.YtoopfdamdghbmaaW.PrintMore
attribute [local go_sem] max2_int min2_int max_two min_two max_three min_three max_four min_four   -- for this text's walks alone
set_option linter.unusedVariables false
set_option linter.unusedSimpArgs false

/-! ### vclock_Of_1: function 29 -/
def vclock_Of_1.f (_ : S46) : Option Bool := some true

/-! ### mapsheetslaw27_few: function 9 -/
def mapsheetslaw27_few.f (l0 : List (S32)) (l1 : List (S32)) : Option (Bool) := if (l0.length : Int) ≤ 60 then (some (decide ((l1.length : Int) ≤ 60))) else (some false)
set_option maxHeartbeats 8000000 in
set_option maxRecDepth 100000 in
theorem mapsheetslaw27_few.calls (A0 : Option Addr) (c0 : Nat) (l0 : List (S32)) (A1 : Option Addr) (c1 : Nat) (l1 : List (S32)) (r : Bool) (w : World) (hr0 : Kd.C k32 w A0 l0.length l0) (hc0 : l0.length ≤ c0) (hr1 : Kd.C k32 w A1 l1.length l1) (hc1 : l1.length ≤ c1) (h : mapsheetslaw27_few.f l0 l1 = some r) :
    Calls Try.prog 9 #[.slice A0 l0.length c0, .slice A1 l1.length c1] w fun e w' => e = .returned (.bool r) ∧ Drawn0 w w' := by
  have HR0 := Aside0.mk hr0
  have HC0 := Aside0.mk hc0
  clear hr0 hc0
  have HR1 := Aside0.mk hr1
  have HC1 := Aside0.mk hc1
  clear hr1 hc1
  have H : (if (l0.length : Int) ≤ 60 then (some (decide ((l1.length : Int) ≤ 60))) else (some false)) = some r := h
  clear h
  by_cases c3 : (l0.length : Int) ≤ 60
  · rw [if_pos c3] at H
    have c3b0 : decide ((l0.length : Int) ≤ 60) = true := decide_eq_true c3
    have c3b1 : decide (l0.length ≤ 60) = true := decide_eq_true (by omega)
    clear c3
    obtain rfl := Option.some.inj H
    go_enter Try.func9, Try.ntmps9
    go_wp2
    go_ret
    exact ⟨by first | rfl | (simp; done) | (simp [*]; done), by repeat (first | exact Drawn0.refl _ | apply Drawn0.step)⟩
  · rw [if_neg c3] at H
    have c3b0 : decide ((l0.length : Int) ≤ 60) = false := decide_eq_false c3
    have c3b1 : decide (l0.length ≤ 60) = false := decide_eq_false (by omega)
    clear c3
    obtain rfl := Option.some.inj H
    go_enter Try.func9, Try.ntmps9
    go_wp2
    go_ret
    exact ⟨by first | rfl | (simp; done) | (simp [*]; done), by repeat (first | exact Drawn0.refl _ | apply Drawn0.step)⟩

/-! ### vclock_read: function 37 -/
/-- A call of a function value that stands in a slot, in a plain region. -/
theorem goesLV_ {P : Program} {ops : Array Oper} {Q : Exit → Act → World → Prop} {rest : List Oper} {oi : Oper} {a : Act} {w : World} (N : Option Tmp) (hd : oi.dst = N) (hg : oi.guard = none) {f : FuncId} {fn : Func} {j : Tmp} {xs_ : Array Operand} {ts : Array TypeId} (hf : P.funcs[f]? = some fn) (hname : (fn.name == "runtime.NumGoroutine") = false) (hb : fn.body.isSome = true) (lb : Array Value) (args : Array Value)
    (hop : oi.op = .call { callee := .value (.tmp j), args := xs_, argTypes := ts }) (hv : a.eval (.tmp j) = .func (.func f) #[] lb) (hargs : xs_.map a.eval = args)
    (h : Calls P f (args ++ lb) w fun e w' => ∃ v, e = .returned v ∧ wpList P ops Q rest (a.put N v) w') : wpList P ops Q (oi :: rest) a w := by
  refine wpList_plain hg fun K hK => ?_
  have he := enters_ hf hname hb (args ++ lb) w
  have hrun : (execOp a.eval oi).run P w = .ok (.enter f (args ++ lb)) w := by
    unfold execOp
    simp [hop, resolve, Deferred.ofValue, invoke, hargs, he, hv]
  unfold Oper.wp
  rw [hrun, Oper.upon_enter]
  refine h.mono fun e w'' hh => ?_
  obtain ⟨v, rfl, hk⟩ := hh
  subst hd
  exact hK _ _ hk
/-- What the walk asks of a function value that tells of a whole number whether it holds. -/
def Tells (P : Program) (g : FuncId) (lb : Array Value) (S : Int → Bool) (w : World) : Prop := ∀ (W : World) (x : Int), Below w.heap.size w W → Calls P g (#[.int .i64 x] ++ lb) W fun e w' => e = .returned (.bool (S x)) ∧ Below W.heap.size W w'
theorem tells_calls {P : Program} {g : FuncId} {lb : Array Value} {S : Int → Bool} {w : World} (hS : Tells P g lb S w) (x : Int) (b : Bool) (W : World) (h : (some (S x) : Option Bool) = some b) (HB : Below w.heap.size w W) : Calls P g (#[.int .i64 x] ++ lb) W fun e w' => e = .returned (.bool b) ∧ Below W.heap.size W w' := by
  injection h with h
  rw [← h]
  exact hS W x HB

/-- A row of whole numbers of the call's own, in the library's words. -/
theorem ints_own {e : Nat} {w : World} {base : Nat} {ok : Nat → Prop} {v : Value} {xs : List Int} (h : (Kd.int .i64).R e w base ok v xs) : w.ownsRow base e 1 v xs.length (xs.map (Value.int .i64)) := by
  obtain ⟨_, inner, ho, hl, hr⟩ := h
  have hi : inner = xs.map (Value.int .i64) := by
    apply List.ext_getElem?
    intro j
    rw [List.getElem?_map]
    have hsz : (Kd.int .i64).sz = 1 := rfl
    rw [hsz] at hl hr
    rcases Nat.lt_or_ge j xs.length with hj | hj
    · have hp := hr j xs[j] (List.getElem?_eq_getElem hj)
      have hp : (inner.drop (j * 1)).take 1 = [Value.int .i64 xs[j]] := hp
      rw [List.getElem?_eq_getElem hj]
      have h0 := congrArg (fun l => l[0]?) hp
      simp only [List.getElem?_take, List.getElem?_drop] at h0
      simpa using h0
    · rw [List.getElem?_eq_none hj, List.getElem?_eq_none (by omega)]; rfl
  rw [← hi]; exact ho
theorem own_ints {e : Nat} {w : World} {base : Nat} {ok : Nat → Prop} {v : Value} {xs : List Int} (h : w.ownsRow base e 1 v xs.length (xs.map (Value.int .i64))) (hok : ∀ k, v.ownBlock = some k → ok k) : (Kd.int .i64).R e w base ok v xs := by
  refine ⟨hok, xs.map (Value.int .i64), h, ?_, fun j p hp => ?_⟩
  · show _ = xs.length * 1
    simp
  · show ((xs.map (Value.int .i64)).drop (j * 1)).take 1 = [Value.int .i64 p]
    obtain ⟨hj, rfl⟩ := List.getElem?_eq_some_iff.1 hp
    rw [Nat.mul_one, List.drop_eq_getElem_cons (by simpa using hj)]
    simp
theorem below_grow {B : Nat} {w0 w : World} (h : Below B w0 w) (hB : B ≤ w.heap.size) (os : Array Obj) : Below B w0 (Go.Sort.grow w os) :=
  ⟨h.os, h.tape, h.output, by have := h.size; simp [Go.Sort.grow]; omega, fun k hk => by
    rw [← h.block k hk]
    simp only [Go.Sort.grow]
    rw [Array.getElem?_append_left (by omega)]⟩
theorem own_grow {w : World} {base : Nat} {e size n : Nat} {v : Value} {xs : List Value} (h : w.ownsRow base e size v n xs) (os : Array Obj) : (Go.Sort.grow w os).ownsRow base e size v n xs := by
  rcases h with ⟨h1, ⟨h2, h3⟩ | ⟨g, cap, cur, h2, h3, h4, h5, h6, h7, h8⟩⟩
  · exact ⟨h1, .inl ⟨h2, h3⟩⟩
  · refine ⟨h1, .inr ⟨g, cap, cur, h2, h3, ?_, h5, h6, h7, h8⟩⟩
    have hlt : g < w.heap.size := (Array.getElem?_eq_some_iff.1 h4).1
    simp only [Go.Sort.grow]
    rw [Array.getElem?_append_left hlt]; exact h4
/-- slices.Sort of a row of the call's own. -/
theorem sort_own (v : Value) (xs : List Int) (w0 w : World) (base : Nat) (ho : (Kd.int .i64).R 3 w base (fun _ => True) v xs) (hb : Below base w0 w) (hbs : base ≤ w.heap.size) (hsz : xs.length < 4611686018427387904) :
    Calls Try.prog 30 #[v] w fun e w' => e = .returned (.tuple #[]) ∧ (Kd.int .i64).R 3 w' base (fun _ => True) v (xs.mergeSort fun x y => decide (x ≤ y)) ∧ Below base w0 w' ∧ base ≤ w'.heap.size := by
  by_cases hx : xs = []
  · subst hx
    obtain ⟨A, c, rfl⟩ := Kd.R_slice ho
    refine (Sh.Try.slices_Sort_int_none A c w).mono ?_
    rintro e w' ⟨rfl, rfl⟩
    refine ⟨rfl, ?_, hb, hbs⟩
    simpa using ho
  · have hown := ints_own ho
    have hv : v ≠ .slice none 0 0 := by
      rintro rfl
      obtain ⟨A, c, e⟩ := Kd.R_slice ho
      injection e with _ e2 _
      exact hx (List.eq_nil_of_length_eq_zero e2.symm)
    obtain ⟨g, cap, rfl, hbg, hlt, hn, hm, hlen, hH⟩ := Go.Lib.holds_of_ownsRow hown hv
    refine (Sh.Try.slices_Sort_int g 0 cap xs w hH hlt hsz).mono ?_
    rintro e w' ⟨rfl, n, os, rfl⟩
    have hl : (xs.mergeSort fun x y => decide (x ≤ y)).length = xs.length := List.length_mergeSort _
    have h1 := Go.Lib.ownsRow_putRow (q := n) (k := xs.length) hown hl (Nat.le_refl _)
    rw [← hl, List.take_length] at h1
    refine ⟨rfl, own_ints (by rw [hl] at h1 ⊢; exact own_grow h1 os) (fun _ _ => trivial), below_grow (Go.Lib.below_putRow hb hbg) ?_ os, ?_⟩
    · simp [Go.Sort.ahead]; exact hbs
    · simp [Go.Sort.grow, Go.Sort.ahead]; omega
/-- slices.Compact of a row of the call's own. -/
theorem compact_own (v : Value) (xs : List Int) (w0 w : World) (base : Nat) (ho : (Kd.int .i64).R 3 w base (fun _ => True) v xs) (hb : Below base w0 w) (hbs : base ≤ w.heap.size) (hsz : xs.length ≤ 9223372036854775807) :
    Calls Try.prog 31 #[v] w fun e w' => ∃ v', e = .returned v' ∧ (Kd.int .i64).R 3 w' base (fun _ => True) v' (Go.Lib.compact xs) ∧ Below base w0 w' := by
  by_cases hx : xs = []
  · subst hx
    obtain ⟨A, c, rfl⟩ := Kd.R_slice ho
    refine (Sh.Try.slices_Compact_int_empty A c w).mono ?_
    rintro e w' ⟨rfl, rfl⟩
    exact ⟨_, rfl, by simpa [Go.Lib.compact, Go.Lib.compactUpTo] using ho, hb⟩
  · have hown := ints_own ho
    have hv : v ≠ .slice none 0 0 := by
      rintro rfl
      obtain ⟨A, c, e⟩ := Kd.R_slice ho
      injection e with _ e2 _
      exact hx (List.eq_nil_of_length_eq_zero e2.symm)
    obtain ⟨g, cap, rfl, hbg, hlt, hn, hm, hlen, hH⟩ := Go.Lib.holds_of_ownsRow hown hv
    refine (Sh.Try.slices_Compact_int g 0 cap xs w hH hsz hn).mono ?_
    rintro e w' ⟨rfl, q, rfl⟩
    have hle : (Go.Lib.compact xs).length ≤ xs.length := by
      unfold Go.Lib.compact Go.Lib.compactUpTo
      rw [List.length_map]
      have := List.length_filter_le (Go.Lib.keeps xs.toArray) (List.range xs.length)
      simpa using this
    have h1 := Go.Lib.ownsRow_putRow (q := q) (k := (Go.Lib.compact xs).length) (ys := Go.Lib.compact xs ++ List.replicate (xs.length - (Go.Lib.compact xs).length) 0) hown (by simp; omega) hle
    rw [List.take_left'] at h1
    · exact ⟨_, rfl, own_ints h1 (fun _ _ => trivial), Go.Lib.below_putRow hb hbg⟩
    · rfl

set_option maxHeartbeats 1000000 in
/-- The counts of a clock: the first eight, none below zero. -/
def cnt (l : List Int) (j : Nat) : Int := max (l.getD j 0) 0
def arr (F : Nat → Int) : Array Value := #[.int .i64 (F 0), .int .i64 (F 1), .int .i64 (F 2), .int .i64 (F 3), .int .i64 (F 4), .int .i64 (F 5), .int .i64 (F 6), .int .i64 (F 7)]
theorem arr_get (F : Nat → Int) (k : Nat) (h : k < 8) : (arr F)[k]? = some (.int .i64 (F k)) := by
  rcases k with _ | _ | _ | _ | _ | _ | _ | _ | k <;> first | rfl | omega
theorem arr_set (F : Nat → Int) (k : Nat) (x : Int) : (arr F).setIfInBounds k (.int .i64 x) = arr (fun j => if j = k then x else F j) := by
  rcases k with _ | _ | _ | _ | _ | _ | _ | _ | k <;> first | rfl | simp [arr, Array.setIfInBounds]
theorem arr_congr {F G : Nat → Int} (h : ∀ j, j < 8 → F j = G j) : arr F = arr G := by
  simp only [arr, h 0 (by omega), h 1 (by omega), h 2 (by omega), h 3 (by omega), h 4 (by omega), h 5 (by omega), h 6 (by omega), h 7 (by omega)]
def ArrAt (w : World) (g : Nat) (F : Nat → Int) : Prop := w.heap[g]? = some (.cells (arr F) 48 (0, 0))
theorem ArrAt.get {w : World} {g : Nat} {F : Nat → Int} (h : ArrAt w g F) (k : Nat) (hk : k < 8) : w.cell? ⟨g, k, none⟩ = some (.int .i64 (F k)) :=
  (blk_cell h k).trans (arr_get F k hk)
theorem ArrAt.cells {w : World} {g : Nat} {F : Nat → Int} (h : ArrAt w g F) : w.cell? ⟨g, 0, none⟩ = some (.int .i64 (F 0)) ∧ w.cell? ⟨g, 1, none⟩ = some (.int .i64 (F 1)) ∧ w.cell? ⟨g, 2, none⟩ = some (.int .i64 (F 2)) ∧ w.cell? ⟨g, 3, none⟩ = some (.int .i64 (F 3)) ∧ w.cell? ⟨g, 4, none⟩ = some (.int .i64 (F 4)) ∧ w.cell? ⟨g, 5, none⟩ = some (.int .i64 (F 5)) ∧ w.cell? ⟨g, 6, none⟩ = some (.int .i64 (F 6)) ∧ w.cell? ⟨g, 7, none⟩ = some (.int .i64 (F 7)) :=
  ⟨h.get 0 (by omega), h.get 1 (by omega), h.get 2 (by omega), h.get 3 (by omega), h.get 4 (by omega), h.get 5 (by omega), h.get 6 (by omega), h.get 7 (by omega)⟩
theorem ArrAt.frz {w : World} {g : Nat} {F : Nat → Int} (h : ArrAt w g F) : w.frozen? ⟨g, 0, none⟩ = false ∧ w.frozen? ⟨g, 1, none⟩ = false ∧ w.frozen? ⟨g, 2, none⟩ = false ∧ w.frozen? ⟨g, 3, none⟩ = false ∧ w.frozen? ⟨g, 4, none⟩ = false ∧ w.frozen? ⟨g, 5, none⟩ = false ∧ w.frozen? ⟨g, 6, none⟩ = false ∧ w.frozen? ⟨g, 7, none⟩ = false :=
  ⟨blk_frozen h 0, blk_frozen h 1, blk_frozen h 2, blk_frozen h 3, blk_frozen h 4, blk_frozen h 5, blk_frozen h 6, blk_frozen h 7⟩
theorem ArrAt.put {w : World} {g : Nat} {F : Nat → Int} (h : ArrAt w g F) (k : Nat) (x : Int) : ArrAt (w.setCell ⟨g, k, none⟩ (.int .i64 x)) g (fun j => if j = k then x else F j) := blk_put h k _ (arr_set F k x)
theorem ArrAt.store {w : World} {g : Nat} {F : Nat → Int} (h : ArrAt w g F) (G : Nat → Int) : ArrAt ((((((((w.setCell ⟨g, 0, none⟩ (.int .i64 (G 0))).setCell ⟨g, 1, none⟩ (.int .i64 (G 1))).setCell ⟨g, 2, none⟩ (.int .i64 (G 2))).setCell ⟨g, 3, none⟩ (.int .i64 (G 3))).setCell ⟨g, 4, none⟩ (.int .i64 (G 4))).setCell ⟨g, 5, none⟩ (.int .i64 (G 5))).setCell ⟨g, 6, none⟩ (.int .i64 (G 6))).setCell ⟨g, 7, none⟩ (.int .i64 (G 7))) g G := by
  have h8 := (((((((h.put 0 (G 0)).put 1 (G 1)).put 2 (G 2)).put 3 (G 3)).put 4 (G 4)).put 5 (G 5)).put 6 (G 6)).put 7 (G 7)
  unfold ArrAt at h8 ⊢
  rw [h8]
  rfl
theorem ArrAt.next {w : World} {g k : Nat} {F : Nat → Int} (h : ArrAt w g (fun j => if j < k then F j else 0)) (x : Int) (hx : F k = x) : ArrAt (w.setCell ⟨g, k, none⟩ (.int .i64 x)) g (fun j => if j < k + 1 then F j else 0) := by
  have h1 := h.put k x
  unfold ArrAt at h1 ⊢
  rw [h1, arr_congr]
  intro j hj
  show (if j = k then x else if j < k then F j else 0) = _
  by_cases e : j = k
  · subst e; rw [if_pos rfl, if_pos (by omega), hx]
  · rw [if_neg e]
    by_cases e2 : j < k
    · rw [if_pos e2, if_pos (by omega)]
    · rw [if_neg e2, if_neg (by omega)]
theorem ArrAt.storeB {w0 w : World} {g : Nat} (h : Below w0.heap.size w0 w) (hg : w0.heap.size ≤ g) (G : Nat → Int) : Below w0.heap.size w0 ((((((((w.setCell ⟨g, 0, none⟩ (.int .i64 (G 0))).setCell ⟨g, 1, none⟩ (.int .i64 (G 1))).setCell ⟨g, 2, none⟩ (.int .i64 (G 2))).setCell ⟨g, 3, none⟩ (.int .i64 (G 3))).setCell ⟨g, 4, none⟩ (.int .i64 (G 4))).setCell ⟨g, 5, none⟩ (.int .i64 (G 5))).setCell ⟨g, 6, none⟩ (.int .i64 (G 6))).setCell ⟨g, 7, none⟩ (.int .i64 (G 7))) := by
  exact below_set (below_set (below_set (below_set (below_set (below_set (below_set (below_set h hg) hg) hg) hg) hg) hg) hg) hg
set_option maxHeartbeats 1000000 in
theorem read_calls (A0 : Option Addr) (c0 : Nat) (l : List Int) (w : World) (hr : Kd.C (Kd.int .i64) w A0 l.length l) (hc : l.length ≤ c0) :
    Calls Try.prog 37 #[.agg #[.slice A0 l.length c0]] w fun e w' => e = .returned (.agg (arr (cnt l))) ∧ Below w.heap.size w w' := by
  have HR := Aside0.mk hr
  have HC := Aside0.mk hc
  have HL : l.length ≤ 9223372036854775807 := hr.2.1
  clear hr hc
  go_enter Try.func37, Try.ntmps37
  go_upto_region 1 with fail
  have HG1 := Aside0.mk (blk_below (heap_alloc_new w (.cells #[.slice A0 l.length c0] 27 (0, 0))) (below_alloc (Below.refl _ _) (.cells (arr (fun _ => 0)) 48 (0, 0))))
  have HG2 : Aside0 (((w.alloc (.cells #[.slice A0 l.length c0] 27 (0, 0))).alloc (.cells (arr (fun _ => 0)) 48 (0, 0))).heap[w.heap.size + 1]? = some (.cells (arr (fun _ => 0)) 48 (0, 0))) := ⟨by have := heap_alloc_new (w.alloc (.cells #[.slice A0 l.length c0] 27 (0, 0))) (.cells (arr (fun _ => 0)) 48 (0, 0)); simpa using this⟩
  have HB := Aside0.mk (below_alloc (below_alloc (Below.refl w.heap.size w) (.cells #[.slice A0 l.length c0] 27 (0, 0))) (.cells (arr (fun _ => 0)) 48 (0, 0)))
  change Code.wp _ _ _ _ ((w.alloc (.cells #[.slice A0 l.length c0] 27 (0, 0))).alloc (.cells (arr (fun _ => 0)) 48 (0, 0)))
  generalize (w.alloc (.cells #[.slice A0 l.length c0] 27 (0, 0))).alloc (.cells (arr (fun _ => 0)) 48 (0, 0)) = wa at HG1 HG2 HB ⊢
  generalize hg1_ : w.heap.size = g1 at HG1 HG2
  have HGE := Aside0.mk hg1_
  clear hg1_
  have q1 : wa.cell? ⟨g1, 0, none⟩ = some (.slice A0 l.length c0) := (blk_cell HG1.out 0).trans rfl
  have hc := HC.out
  go_cut [11, 12, 13] (fun v11 v12 v13 wc => wc = wa ∧ v11 = .slice A0 (min l.length 8) c0 ∧ v12 = .int .i64 ((min l.length 8 : Nat) : Int) ∧ v13 = .int .i64 0)
  case first =>
    go_wp2
    all_goals (go_meet; try (exact ⟨rfl, by congr 1; omega, by congr 1; omega, rfl⟩))
    all_goals trace_state
  case rest =>
  obtain ⟨rfl, rfl, rfl, rfl⟩ := hcut
  have hm8 : min l.length 8 ≤ 8 := Nat.min_le_right _ _
  have hml : min l.length 8 ≤ l.length := Nat.min_le_left _ _
  have HM : Aside0 (min l.length 8 = l.length ∨ min l.length 8 = 8) := ⟨by omega⟩
  generalize min l.length 8 = m at hm8 hml HM ⊢
  go_wp2
  go_loopw [13] (fun i wr => ∃ k : Nat, k ≤ m ∧ i = .int .i64 k ∧ Aside0 (ArrAt wr (g1 + 1) (fun j => if j < k then cnt l j else 0)) ∧ Aside0 (Below w.heap.size w wr)) (fun i _ => m - (intOf i).toNat)
  case atStart => exact ⟨0, Nat.zero_le _, rfl, HG2, HB⟩
  case round =>
    obtain ⟨k, hk, rfl, HA, HW⟩ := hrel
    by_cases hlt : k < m
    · have hb : decide ((k : Int) < (m : Int)) = true := by simp; omega
      obtain ⟨ad, cc, e, hcc, hrd, hx0⟩ := Kd.C_get (Kd.C_below HR.out HW.out) (0 : Int) (k : Int) (by omega) (by omega)
      subst e
      have hcc1 : cc = [Value.int .i64 (l.getD k 0)] := by rw [Int.toNat_natCast] at hrd; exact hrd
      have hx := hx0 0 _ (by rw [hcc1]; rfl)
      have hsz : (Kd.int .i64).sz = 1 := rfl
      rw [hsz, Nat.mul_one, Nat.add_zero, Int.toNat_natCast] at hx
      clear hsz hx0 hrd hcc hcc1
      have HK : Aside0 (max (l.getD k 0) 0 = cnt l k) := ⟨rfl⟩
      generalize l.getD k 0 = x at hx HK
      have hk8 : k < 8 := by omega
      have qf := blk_frozen HA.out k
      obtain ⟨y, qk⟩ : ∃ y : Int, wr.cell? ⟨g1 + 1, k, none⟩ = some (.int .i64 y) := ⟨_, HA.out.get k hk8⟩
      have hge : w.heap.size ≤ g1 + 1 := by have := HGE.out; omega
      go_wp2
      all_goals go_roundw
      all_goals (first
        | (refine ⟨k + 1, by omega, by go_num, ⟨HA.out.next _ ?_⟩, ⟨below_set HW.out hge⟩⟩; have := HK.out; omega)
        | (simp [intOf]; omega))
    · have hb : decide ((k : Int) < (m : Int)) = false := by simp; omega
      have HA2 : Aside0 (ArrAt wr (g1 + 1) (cnt l)) := ⟨by
        have h := HA.out
        unfold ArrAt at h ⊢
        rw [h, arr_congr (G := cnt l)]
        intro j hj
        by_cases hjk : j < k
        · rw [if_pos hjk]
        · rw [if_neg hjk]
          have hml2 : l.length ≤ j := by have := HM.out; omega
          simp [cnt, List.getD, List.getElem?_eq_none hml2]⟩
      clear HA
      obtain ⟨F, hF⟩ : ∃ F, F = cnt l := ⟨_, rfl⟩
      rw [← hF] at HA2
      have HF := Aside0.mk hF
      clear hF
      obtain ⟨q0, q1', q2, q3, q4, q5, q6, q7⟩ := HA2.out.cells
      obtain ⟨z0, z1, z2, z3, z4, z5, z6, z7⟩ := HA2.out.frz
      go_wp2
      have hge : w.heap.size ≤ g1 + 1 := by have := HGE.out; omega
      have HS := HA2.out.store F
      have HT := ArrAt.storeB HW.out hge F
      refine bodyPost_ret (results_cell_row rfl _ _ (g1 + 1) 48 (arr F) (0, 0) _ rfl HS Try.underlying48 rfl (by kernel_rfl)) rfl ?_
      exact ⟨by rw [HF.out], HT⟩

end Go.Proofs.Ytoopfdamdghbmaa.PA
