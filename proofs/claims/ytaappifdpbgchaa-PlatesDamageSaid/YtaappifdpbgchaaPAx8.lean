-- Written by wip/pp.py of this repository, on the kit's print program. Not trusted: Lean checks it.
import Derived.Test.YtaappifdpbgchaaPAx0
import Derived.Test.YtaappifdpbgchaaPAx1
import Derived.Test.YtaappifdpbgchaaPAx7
namespace Go.Proofs.Ytaappifdpbgchaa.PA
open Go.RowKit Go.Proofs.YtaappifdpbgchaaW.PrintWords Go.Proofs.YtaappifdpbgchaaW.PrintLast Go.Proofs.YtaappifdpbgchaaW.PrintMore
attribute [local go_sem] max2_int min2_int max_two min_two max_three min_three max_four min_four   -- for this text's walks alone
set_option linter.unusedVariables false
set_option linter.unusedSimpArgs false

/-! ### plates_Limit: function 22 -/
/-! The plates of a Limit: four in one array. -/
def chk (W H : Int) (V : List Int) : Int := if 1 ≤ W ∧ W ≤ 256 ∧ 1 ≤ H ∧ H ≤ 256 then (if (V.length : Int) = W * H then (if ∀ v ∈ V, 0 ≤ v ∧ v ≤ 100 then 0 else 2) else 1) else 2
theorem check_l0 (V : List Int) (hl : V.length ≤ 9223372036854775807) : ∀ (d k i : Nat), V.length - i = d → i ≤ V.length → d < k → plates_Check.l0 k V (V.length : Int) (i : Int) = some (if ∀ v ∈ V.drop i, 0 ≤ v ∧ v ≤ 100 then 0 else 2) := by
  intro d
  induction d with
  | zero =>
    intro k i hd hi hk
    obtain ⟨k, rfl⟩ : ∃ m, k = m + 1 := ⟨k - 1, by omega⟩
    rw [plates_Check.l0, if_neg (by omega), List.drop_of_length_le (by omega), if_pos (fun v hv => by cases hv)]
  | succ d ih =>
    intro k i hd hi hk
    obtain ⟨k, rfl⟩ : ∃ m, k = m + 1 := ⟨k - 1, by omega⟩
    have hlt : i < V.length := by omega
    have hrd : rd V (i : Int) = V[i] := by
      unfold rd; rw [Int.toNat_natCast, List.getD_eq_getElem?_getD, List.getElem?_eq_getElem hlt]; rfl
    rw [plates_Check.l0, if_pos (by omega), if_pos (by omega), if_pos (by omega), hrd, show wrap64 ((i : Int) + 1) = ((i + 1 : Nat) : Int) by unfold wrap64; omega, List.drop_eq_getElem_cons hlt]
    unfold plates_ink.f
    by_cases h1 : V[i] ≥ 0
    · rw [if_pos h1, Option.bind_some]
      by_cases h2 : V[i] ≤ 100
      · rw [if_pos (by simp [h2]), ih k (i + 1) (by omega) (by omega) (by omega)]
        congr 1
        by_cases h3 : ∀ v ∈ V.drop (i + 1), 0 ≤ v ∧ v ≤ 100
        · rw [if_pos h3, if_pos]
          intro v hv
          rcases List.mem_cons.1 hv with rfl | hv
          · exact ⟨h1, h2⟩
          · exact h3 v hv
        · rw [if_neg h3, if_neg]
          intro h; exact h3 fun v hv => h v (List.mem_cons_of_mem _ hv)
      · rw [if_neg (by simp; omega), if_neg]
        intro h; exact h2 (h _ List.mem_cons_self).2
    · rw [if_neg h1, Option.bind_some, if_neg (by decide), if_neg]
      intro h; exact h1 (h _ List.mem_cons_self).1
theorem check_chk (W H : Int) (V : List Int) (hl : V.length ≤ 9223372036854775807) (k : Nat) (hk : V.length < k) : plates_Check.f k W H V = some (chk W H V) := by
  unfold plates_Check.f plates_sized.f chk
  by_cases h1 : W ≥ 1
  · by_cases h2 : W ≤ 256
    · by_cases h3 : H ≥ 1
      · rw [if_pos h1, if_pos h2, if_pos h3, Option.bind_some]
        by_cases h4 : H ≤ 256
        · have hw : wrap64 (W * H) = W * H := by
            have h5 : 0 ≤ W * H := Int.mul_nonneg (by omega) (by omega)
            have h6 : W * H ≤ 256 * 256 := Int.mul_le_mul h2 h4 (by omega) (by omega)
            unfold wrap64; omega
          rw [if_pos (by simp [h4]), hw, if_pos (show 1 ≤ W ∧ W ≤ 256 ∧ 1 ≤ H ∧ H ≤ 256 from ⟨h1, h2, h3, h4⟩)]
          by_cases h5 : (V.length : Int) = W * H
          · rw [if_pos h5, if_pos h5]
            have := check_l0 V hl V.length k 0 (by omega) (by omega) (by omega)
            rw [List.drop_zero] at this
            exact this
          · rw [if_neg h5, if_neg h5]
        · rw [if_neg (by simp; omega), if_neg (by omega)]
      · rw [if_pos h1, if_pos h2, if_neg h3, Option.bind_some, if_neg (by decide), if_neg (by omega)]
    · rw [if_pos h1, if_neg h2, Option.bind_some, if_neg (by decide), if_neg (by omega)]
  · rw [if_neg h1, Option.bind_some, if_neg (by decide), if_neg (by omega)]
theorem chk_zero {W H : Int} {V : List Int} (h : chk W H V = 0) : 1 ≤ W ∧ W ≤ 256 ∧ 1 ≤ H ∧ H ≤ 256 ∧ (V.length : Int) = W * H ∧ ∀ v ∈ V, 0 ≤ v ∧ v ≤ 100 := by
  unfold chk at h
  by_cases h1 : 1 ≤ W ∧ W ≤ 256 ∧ 1 ≤ H ∧ H ≤ 256
  · rw [if_pos h1] at h
    by_cases h2 : (V.length : Int) = W * H
    · rw [if_pos h2] at h
      by_cases h3 : ∀ v ∈ V, 0 ≤ v ∧ v ≤ 100
      · exact ⟨h1.1, h1.2.1, h1.2.2.1, h1.2.2.2, h2, h3⟩
      · rw [if_neg h3] at h; cases h
    · rw [if_neg h2] at h; cases h
  · rw [if_neg h1] at h; cases h
theorem chk_len {W H : Int} {V : List Int} (h : chk W H V = 0) : V.length ≤ 65536 ∧ 0 < V.length := by
  obtain ⟨h1, h2, h3, h4, h5, _⟩ := chk_zero h
  have h6 : W * H ≤ 256 * 256 := Int.mul_le_mul h2 h4 (by omega) (by omega)
  have h7 : 0 < W * H := Int.mul_pos (by omega) (by omega)
  omega
def sel4 {α : Type} (a b c d : α) : Nat → α | 0 => a | 1 => b | 2 => c | _ => d
/-- The cells of an array of four plates. -/
def pl (W H : Nat → Int) (v : Nat → Value) : Array Value := #[.int .i64 (W 0), .int .i64 (H 0), v 0, .int .i64 (W 1), .int .i64 (H 1), v 1, .int .i64 (W 2), .int .i64 (H 2), v 2, .int .i64 (W 3), .int .i64 (H 3), v 3]
def one4 (W H : Nat → Int) (v : Nat → Value) (j : Nat) : Array Value := #[.int .i64 (W j), .int .i64 (H j), v j]
theorem pl_index (W H : Nat → Int) (v : Nat → Value) (j : Nat) (h : j < 4) (w : World) : (Instr.index 39 (.agg (pl W H v)) (.int .i64 (j : Int))).run Try.prog w = .ok (.agg (one4 W H v j)) w := by
  rcases j with _ | _ | _ | _ | j <;> first | omega | kernel_rfl
theorem pl_get (W H : Nat → Int) (v : Nat → Value) (j : Nat) (h : j < 4) : (pl W H v)[j * 3]? = some (.int .i64 (W j)) ∧ (pl W H v)[j * 3 + 1]? = some (.int .i64 (H j)) ∧ (pl W H v)[j * 3 + 2]? = some (v j) := by
  rcases j with _ | _ | _ | _ | j <;> first | omega | exact ⟨rfl, rfl, rfl⟩
theorem pl_congr {W H W' H' : Nat → Int} {v v' : Nat → Value} (h : ∀ j, j < 4 → W j = W' j ∧ H j = H' j ∧ v j = v' j) : pl W H v = pl W' H' v' := by
  obtain ⟨a0, b0, c0⟩ := h 0 (by omega)
  obtain ⟨a1, b1, c1⟩ := h 1 (by omega)
  obtain ⟨a2, b2, c2⟩ := h 2 (by omega)
  obtain ⟨a3, b3, c3⟩ := h 3 (by omega)
  simp only [pl, a0, b0, c0, a1, b1, c1, a2, b2, c2, a3, b3, c3]
def PAt (w : World) (g : Nat) (W H : Nat → Int) (v : Nat → Value) : Prop := w.heap[g]? = some (.cells (pl W H v) 39 (0, 0))
theorem PAt.get {w : World} {g : Nat} {W H : Nat → Int} {v : Nat → Value} (h : PAt w g W H v) (j : Nat) (hj : j < 4) : w.cell? ⟨g, j * 3, none⟩ = some (.int .i64 (W j)) ∧ w.cell? ⟨g, j * 3 + 1, none⟩ = some (.int .i64 (H j)) ∧ w.cell? ⟨g, j * 3 + 2, none⟩ = some (v j) := by
  obtain ⟨h1, h2, h3⟩ := pl_get W H v j hj
  exact ⟨(blk_cell h _).trans h1, (blk_cell h _).trans h2, (blk_cell h _).trans h3⟩
theorem PAt.same {w : World} {g : Nat} {W H W' H' : Nat → Int} {v v' : Nat → Value} (h : PAt w g W H v) (e : ∀ j, j < 4 → W j = W' j ∧ H j = H' j ∧ v j = v' j) : PAt w g W' H' v' := by
  unfold PAt at h ⊢
  rw [h, pl_congr e]
theorem PAt.cells {w : World} {g : Nat} {W H : Nat → Int} {v : Nat → Value} (h : PAt w g W H v) : (w.cell? ⟨g, 0, none⟩ = some (.int .i64 (W 0)) ∧ w.cell? ⟨g, 1, none⟩ = some (.int .i64 (H 0)) ∧ w.cell? ⟨g, 2, none⟩ = some (v 0) ∧ w.cell? ⟨g, 3, none⟩ = some (.int .i64 (W 1)) ∧ w.cell? ⟨g, 4, none⟩ = some (.int .i64 (H 1)) ∧ w.cell? ⟨g, 5, none⟩ = some (v 1)) ∧ w.cell? ⟨g, 6, none⟩ = some (.int .i64 (W 2)) ∧ w.cell? ⟨g, 7, none⟩ = some (.int .i64 (H 2)) ∧ w.cell? ⟨g, 8, none⟩ = some (v 2) ∧ w.cell? ⟨g, 9, none⟩ = some (.int .i64 (W 3)) ∧ w.cell? ⟨g, 10, none⟩ = some (.int .i64 (H 3)) ∧ w.cell? ⟨g, 11, none⟩ = some (v 3) :=
  ⟨⟨(h.get 0 (by omega)).1, (h.get 0 (by omega)).2.1, (h.get 0 (by omega)).2.2, (h.get 1 (by omega)).1, (h.get 1 (by omega)).2.1, (h.get 1 (by omega)).2.2⟩, (h.get 2 (by omega)).1, (h.get 2 (by omega)).2.1, (h.get 2 (by omega)).2.2, (h.get 3 (by omega)).1, (h.get 3 (by omega)).2.1, (h.get 3 (by omega)).2.2⟩
theorem PAt.frz {w : World} {g : Nat} {W H : Nat → Int} {v : Nat → Value} (h : PAt w g W H v) : w.frozen? ⟨g, 0, none⟩ = false ∧ w.frozen? ⟨g, 1, none⟩ = false ∧ w.frozen? ⟨g, 2, none⟩ = false ∧ w.frozen? ⟨g, 3, none⟩ = false ∧ w.frozen? ⟨g, 4, none⟩ = false ∧ w.frozen? ⟨g, 5, none⟩ = false ∧ w.frozen? ⟨g, 6, none⟩ = false ∧ w.frozen? ⟨g, 7, none⟩ = false ∧ w.frozen? ⟨g, 8, none⟩ = false ∧ w.frozen? ⟨g, 9, none⟩ = false ∧ w.frozen? ⟨g, 10, none⟩ = false ∧ w.frozen? ⟨g, 11, none⟩ = false :=
  ⟨blk_frozen h 0, blk_frozen h 1, blk_frozen h 2, blk_frozen h 3, blk_frozen h 4, blk_frozen h 5, blk_frozen h 6, blk_frozen h 7, blk_frozen h 8, blk_frozen h 9, blk_frozen h 10, blk_frozen h 11⟩
def upd {α : Type} (F : Nat → α) (j : Nat) (x : α) : Nat → α := fun i => if i = j then x else F i
theorem pl_setW (W H : Nat → Int) (v : Nat → Value) (j : Nat) (h : j < 4) (x : Int) : (pl W H v).setIfInBounds (j * 3) (.int .i64 x) = pl (upd W j x) H v := by
  rcases j with _ | _ | _ | _ | j <;> first | omega | rfl
theorem pl_setH (W H : Nat → Int) (v : Nat → Value) (j : Nat) (h : j < 4) (x : Int) : (pl W H v).setIfInBounds (j * 3 + 1) (.int .i64 x) = pl W (upd H j x) v := by
  rcases j with _ | _ | _ | _ | j <;> first | omega | rfl
theorem pl_setV (W H : Nat → Int) (v : Nat → Value) (j : Nat) (h : j < 4) (x : Value) : (pl W H v).setIfInBounds (j * 3 + 2) x = pl W H (upd v j x) := by
  rcases j with _ | _ | _ | _ | j <;> first | omega | rfl
theorem PAt.putW {w : World} {g : Nat} {W H : Nat → Int} {v : Nat → Value} (h : PAt w g W H v) (j : Nat) (hj : j < 4) (x : Int) : PAt (w.setCell ⟨g, j * 3, none⟩ (.int .i64 x)) g (upd W j x) H v := blk_put h (j * 3) _ (pl_setW W H v j hj x)
theorem PAt.putH {w : World} {g : Nat} {W H : Nat → Int} {v : Nat → Value} (h : PAt w g W H v) (j : Nat) (hj : j < 4) (x : Int) : PAt (w.setCell ⟨g, j * 3 + 1, none⟩ (.int .i64 x)) g W (upd H j x) v := blk_put h (j * 3 + 1) _ (pl_setH W H v j hj x)
theorem PAt.putV {w : World} {g : Nat} {W H : Nat → Int} {v : Nat → Value} (h : PAt w g W H v) (j : Nat) (hj : j < 4) (x : Value) : PAt (w.setCell ⟨g, j * 3 + 2, none⟩ x) g W H (upd v j x) := blk_put h (j * 3 + 2) _ (pl_setV W H v j hj x)
theorem PAt.put3 {w : World} {g : Nat} {W H : Nat → Int} {v : Nat → Value} (h : PAt w g W H v) (j : Nat) (hj : j < 4) (x y : Int) (z : Value) : PAt (((w.setCell ⟨g, j * 3, none⟩ (.int .i64 x)).setCell ⟨g, j * 3 + 1, none⟩ (.int .i64 y)).setCell ⟨g, j * 3 + 2, none⟩ z) g (upd W j x) (upd H j y) (upd v j z) :=
  ((h.putW j hj x).putH j hj y).putV j hj z
theorem PAt.store {w : World} {g : Nat} {W0 H0 : Nat → Int} {v0 : Nat → Value} (h : PAt w g W0 H0 v0) (W H : Nat → Int) (v : Nat → Value) : PAt ((((((((((((w.setCell ⟨g, 0, none⟩ (.int .i64 (W 0))).setCell ⟨g, 1, none⟩ (.int .i64 (H 0))).setCell ⟨g, 2, none⟩ (v 0)).setCell ⟨g, 3, none⟩ (.int .i64 (W 1))).setCell ⟨g, 4, none⟩ (.int .i64 (H 1))).setCell ⟨g, 5, none⟩ (v 1)).setCell ⟨g, 6, none⟩ (.int .i64 (W 2))).setCell ⟨g, 7, none⟩ (.int .i64 (H 2))).setCell ⟨g, 8, none⟩ (v 2)).setCell ⟨g, 9, none⟩ (.int .i64 (W 3))).setCell ⟨g, 10, none⟩ (.int .i64 (H 3))).setCell ⟨g, 11, none⟩ (v 3)) g W H v := by
  have b := (((h.put3 0 (by omega) (W 0) (H 0) (v 0)).put3 1 (by omega) (W 1) (H 1) (v 1)).put3 2 (by omega) (W 2) (H 2) (v 2)).put3 3 (by omega) (W 3) (H 3) (v 3)
  refine PAt.same (W := upd (upd (upd (upd W0 0 (W 0)) 1 (W 1)) 2 (W 2)) 3 (W 3)) (H := upd (upd (upd (upd H0 0 (H 0)) 1 (H 1)) 2 (H 2)) 3 (H 3)) (v := upd (upd (upd (upd v0 0 (v 0)) 1 (v 1)) 2 (v 2)) 3 (v 3)) b ?_
  intro j hj
  rcases j with _ | _ | _ | _ | j <;> first | omega | exact ⟨rfl, rfl, rfl⟩
theorem PAt.storeB {w0 w : World} {g : Nat} (h : Below w0.heap.size w0 w) (hg : w0.heap.size ≤ g) (W H : Nat → Int) (v : Nat → Value) : Below w0.heap.size w0 ((((((((((((w.setCell ⟨g, 0, none⟩ (.int .i64 (W 0))).setCell ⟨g, 1, none⟩ (.int .i64 (H 0))).setCell ⟨g, 2, none⟩ (v 0)).setCell ⟨g, 3, none⟩ (.int .i64 (W 1))).setCell ⟨g, 4, none⟩ (.int .i64 (H 1))).setCell ⟨g, 5, none⟩ (v 1)).setCell ⟨g, 6, none⟩ (.int .i64 (W 2))).setCell ⟨g, 7, none⟩ (.int .i64 (H 2))).setCell ⟨g, 8, none⟩ (v 2)).setCell ⟨g, 9, none⟩ (.int .i64 (W 3))).setCell ⟨g, 10, none⟩ (.int .i64 (H 3))).setCell ⟨g, 11, none⟩ (v 3)) :=
  below_set (below_set (below_set (below_set (below_set (below_set (below_set (below_set (below_set (below_set (below_set (below_set h hg) hg) hg) hg) hg) hg) hg) hg) hg) hg) hg) hg
theorem own_intsL {e : Nat} {w : World} {base : Nat} {ok : Nat → Prop} {v : Value} {xs : List Int} (h : w.ownsRow base e 1 v xs.length (xs.map (Value.int .i64))) (hok : ∀ k, v.ownBlock = some k → ok k) : (Kd.int .i64).R e w base ok v xs := by
  refine ⟨hok, xs.map (Value.int .i64), h, ?_, fun j p hp => ?_⟩
  · show _ = xs.length * 1
    simp
  · show ((xs.map (Value.int .i64)).drop (j * 1)).take 1 = [Value.int .i64 p]
    obtain ⟨hj, rfl⟩ := List.getElem?_eq_some_iff.1 hp
    rw [Nat.mul_one, List.drop_eq_getElem_cons (by simpa using hj)]
    simp
/-- copy onto a row of the call's own of the same length. -/
theorem copy_run {W : World} {base g n cap : Nat} {ok : Nat → Prop} {xs ys : List Int} {A : Option Addr} {c : Nat} (ty : TypeId) (hn : 0 < n) (hx : xs.length = n) (HO : (Kd.int .i64).R 3 W base ok (.slice (some ⟨g, 0, none⟩) n cap) xs) (HR : (Kd.int .i64).C W A n ys) :
    ∃ w1, (Builtin.copy_ #[22, 22] ty #[.slice (some ⟨g, 0, none⟩) n cap, .slice A n c]).run Try.prog W = .ok (goInt (n : Int)) w1 ∧ (Kd.int .i64).R 3 w1 base ok (.slice (some ⟨g, 0, none⟩) n cap) ys ∧ W.grownBy w1 (some g) := by
  have hR := Kd.reads_of_C (enc := Value.int .i64) (d := (0 : Int)) (h1 := fun _ => rfl) HR
  have hyl : ys.length = n := hR.1
  have hown := Kd.own_of_R (enc := Value.int .i64) (h1 := fun _ => rfl) HO
  obtain ⟨ad, rfl, hc⟩ := hR.2.2 hn
  rcases hown.2 with ⟨h0, _⟩ | ⟨g', cap', cur, hv, hb, hh, hnc, hcm, hcs, htake⟩
  · cases h0
  · injection hv with h1 _ h3
    injection h1 with h1
    injection h1 with h1
    subst h1 h3
    have hcs1 : cur.size = cap := by omega
    have hel : (ys.map (Value.int .i64)).length = n := by rw [List.length_map, hyl]
    have hr := run_copy_cells (P := Try.prog) W 22 22 ty 3 g 0 n cap ad n c (ys.map (Value.int .i64)) Try.underlying22 (by kernel_rfl) (by rw [hel]; simp)
      (fun j u hu => by
        have hj : j < ys.length := by
          rcases Nat.lt_or_ge j ys.length with h | h
          · exact h
          · rw [List.getElem?_eq_none (by rw [List.length_map]; exact h)] at hu; cases hu
        rw [hc j (by omega), ← hu, List.getElem?_map, List.getElem?_eq_getElem hj, List.getD_eq_getElem?_getD, List.getElem?_eq_getElem hj]; rfl)
      (fun j hj => by rw [cell_of_row W g _ cur 3 (0, 0) hh]; simp; omega) (fun j _ => blk_frozen hh _) (by intro u hu; obtain ⟨q, _, rfl⟩ := List.mem_map.1 hu; rfl)
    obtain ⟨cur', h3, h4, h5⟩ := setCells_row (ys.map (Value.int .i64)) 0 W cur hh (by rw [hel]; omega)
    obtain ⟨s1, s2, s3, s4⟩ := setCells_same g (ys.map (Value.int .i64)) 0 W
    refine ⟨_, by rw [hr, hel], ?_, ⟨s1, s2, s3, by rw [s4]; exact Nat.le_refl _, fun k _ hk => setCells_far _ _ k (fun he => hk (by rw [he]))⟩⟩
    subst hyl
    refine own_intsL ⟨by simp, .inr ⟨g, cap, cur', rfl, hb, h3, by omega, hcm, by rw [h4, hcs], ?_⟩⟩ HO.1
    rw [h5, List.take_zero, List.nil_append, Nat.mul_one, List.take_append_of_le_length (by rw [List.length_map]; exact Nat.le_refl _), List.take_of_length_le (by rw [List.length_map]; exact Nat.le_refl _)]
theorem store12_far (w : World) (g : Nat) (W H : Nat → Int) (v : Nat → Value) (k : Nat) (hk : k ≠ g) : ((((((((((((w.setCell ⟨g, 0, none⟩ (.int .i64 (W 0))).setCell ⟨g, 1, none⟩ (.int .i64 (H 0))).setCell ⟨g, 2, none⟩ (v 0)).setCell ⟨g, 3, none⟩ (.int .i64 (W 1))).setCell ⟨g, 4, none⟩ (.int .i64 (H 1))).setCell ⟨g, 5, none⟩ (v 1)).setCell ⟨g, 6, none⟩ (.int .i64 (W 2))).setCell ⟨g, 7, none⟩ (.int .i64 (H 2))).setCell ⟨g, 8, none⟩ (v 2)).setCell ⟨g, 9, none⟩ (.int .i64 (W 3))).setCell ⟨g, 10, none⟩ (.int .i64 (H 3))).setCell ⟨g, 11, none⟩ (v 3)).heap[k]? = w.heap[k]? := by
  rw [Below.heap_setCell _ _ _ _ hk, Below.heap_setCell _ _ _ _ hk, Below.heap_setCell _ _ _ _ hk, Below.heap_setCell _ _ _ _ hk, Below.heap_setCell _ _ _ _ hk, Below.heap_setCell _ _ _ _ hk, Below.heap_setCell _ _ _ _ hk, Below.heap_setCell _ _ _ _ hk, Below.heap_setCell _ _ _ _ hk, Below.heap_setCell _ _ _ _ hk, Below.heap_setCell _ _ _ _ hk, Below.heap_setCell _ _ _ _ hk]
/-- The error of Limit. -/
def limE (W H : Nat → Int) (V : Nat → List Int) (most : Int) : Int :=
  if chk (W 0) (H 0) (V 0) ≠ 0 then chk (W 0) (H 0) (V 0) else if chk (W 1) (H 1) (V 1) ≠ 0 then chk (W 1) (H 1) (V 1) else if chk (W 2) (H 2) (V 2) ≠ 0 then chk (W 2) (H 2) (V 2) else if chk (W 3) (H 3) (V 3) ≠ 0 then chk (W 3) (H 3) (V 3)
  else if W 1 = W 0 ∧ H 1 = H 0 ∧ W 2 = W 0 ∧ H 2 = H 0 ∧ W 3 = W 0 ∧ H 3 = H 0 then (if 0 ≤ most ∧ most ≤ 400 then 0 else 2) else 1
theorem limE_bad {W H : Nat → Int} {V : Nat → List Int} {most : Int} (j : Nat) (hj : j < 4) (h0 : ∀ i, i < j → chk (W i) (H i) (V i) = 0) (h1 : chk (W j) (H j) (V j) ≠ 0) : limE W H V most = chk (W j) (H j) (V j) := by
  unfold limE
  rcases j with _ | _ | _ | _ | j
  · rw [if_pos h1]
  · rw [if_neg (fun h => h (h0 0 (by omega))), if_pos h1]
  · rw [if_neg (fun h => h (h0 0 (by omega))), if_neg (fun h => h (h0 1 (by omega))), if_pos h1]
  · rw [if_neg (fun h => h (h0 0 (by omega))), if_neg (fun h => h (h0 1 (by omega))), if_neg (fun h => h (h0 2 (by omega))), if_pos h1]
  · omega
theorem limE_good {W H : Nat → Int} {V : Nat → List Int} {most : Int} (h0 : ∀ i, i < 4 → chk (W i) (H i) (V i) = 0) : limE W H V most = if W 1 = W 0 ∧ H 1 = H 0 ∧ W 2 = W 0 ∧ H 2 = H 0 ∧ W 3 = W 0 ∧ H 3 = H 0 then (if 0 ≤ most ∧ most ≤ 400 then 0 else 2) else 1 := by
  unfold limE
  rw [if_neg (fun h => h (h0 0 (by omega))), if_neg (fun h => h (h0 1 (by omega))), if_neg (fun h => h (h0 2 (by omega))), if_neg (fun h => h (h0 3 (by omega)))]
/-- The four values of cell n. -/
def at4 (V : Nat → List Int) (n : Nat) (i : Nat) : Int := (V i).getD n 0
/-- What Limit answers. -/
def limL (V : Nat → List Int) (most : Int) (i : Nat) : List Int := (List.range (V 0).length).map fun n => lim (at4 V n) most i
/-- The first n cells are reduced, the others are not yet. -/
def mixL (V : Nat → List Int) (most : Int) (n : Nat) (i : Nat) : List Int := (List.range n).map (fun m => lim (at4 V m) most i) ++ (V i).drop n
theorem cells8 {w w' : World} {a0 a1 a2 a3 a4 a5 a6 a7 : Addr} {v0 v1 v2 v3 v4 v5 v6 v7 : Value} (h : w.cell? a0 = some v0 ∧ w.cell? a1 = some v1 ∧ w.cell? a2 = some v2 ∧ w.cell? a3 = some v3 ∧ w.cell? a4 = some v4 ∧ w.cell? a5 = some v5 ∧ w.cell? a6 = some v6 ∧ w.cell? a7 = some v7) (hb : Below w.heap.size w w') :
    w'.cell? a0 = some v0 ∧ w'.cell? a1 = some v1 ∧ w'.cell? a2 = some v2 ∧ w'.cell? a3 = some v3 ∧ w'.cell? a4 = some v4 ∧ w'.cell? a5 = some v5 ∧ w'.cell? a6 = some v6 ∧ w'.cell? a7 = some v7 := by
  obtain ⟨h0, h1, h2, h3, h4, h5, h6, h7⟩ := h
  exact ⟨pw_cell_below hb h0, pw_cell_below hb h1, pw_cell_below hb h2, pw_cell_below hb h3, pw_cell_below hb h4, pw_cell_below hb h5, pw_cell_below hb h6, pw_cell_below hb h7⟩
theorem mixL_len {V : Nat → List Int} {most : Int} {n i : Nat} (h : n ≤ (V i).length) : (mixL V most n i).length = (V i).length := by
  unfold mixL
  rw [List.length_append, List.length_map, List.length_range, List.length_drop]
  omega
theorem mixL_set {V : Nat → List Int} {most : Int} {n i : Nat} (h : n < (V i).length) : (mixL V most n i).set n (lim (at4 V n) most i) = mixL V most (n + 1) i := by
  unfold mixL
  have e : ((List.range n).map (fun m => lim (at4 V m) most i)).length = n := by simp
  rw [List.set_append_right _ _ (by omega), e, Nat.sub_self, List.drop_eq_getElem_cons h, List.set_cons_zero, List.range_succ, List.map_append, List.append_assoc]
  rfl
theorem mixL_all {V : Nat → List Int} {most : Int} {n i : Nat} (h : (V i).length = n) (h0 : (V 0).length = n) : mixL V most n i = limL V most i := by
  unfold mixL limL
  rw [List.drop_of_length_le (by omega), List.append_nil, h0]
/-- Four rows of the call's own, in an array of plates. -/
def Outs (base : Nat) (w : World) (g : Nat) (W H : Nat → Int) (v : Nat → Value) (L : Nat → List Int) : Prop :=
  PAt w g W H v ∧ ∀ i, i < 4 → Kd.R (Kd.int .i64) 3 w base (fun k => k ≠ g ∧ ∀ j, j < 4 → j ≠ i → (v j).ownBlock ≠ some k) (v i) (L i)
theorem Outs.below {base : Nat} {w w' : World} {g : Nat} {W H : Nat → Int} {v : Nat → Value} {L : Nat → List Int} (h : Outs base w g W H v L) (hb : Below w.heap.size w w') : Outs base w' g W H v L :=
  ⟨blk_below h.1 hb, fun i hi => Kd.R_below (h.2 i hi) hb⟩
theorem Outs.drew {base : Nat} {w : World} {g : Nat} {W H : Nat → Int} {v : Nat → Value} {L : Nat → List Int} (h : Outs base w g W H v L) : Outs base w.drew g W H v L := h.below (below_drew (Below.refl _ _))
theorem Outs.same {base : Nat} {w : World} {g : Nat} {W H W' H' : Nat → Int} {v v' : Nat → Value} {L L' : Nat → List Int} (h : Outs base w g W H v L) (e : ∀ j, j < 4 → W j = W' j ∧ H j = H' j ∧ v j = v' j ∧ L j = L' j) : Outs base w g W' H' v' L' := by
  refine ⟨h.1.same fun j hj => ⟨(e j hj).1, (e j hj).2.1, (e j hj).2.2.1⟩, fun i hi => ?_⟩
  have := h.2 i hi
  rw [(e i hi).2.2.1, (e i hi).2.2.2] at this
  exact Kd.R_mono this fun k hk => ⟨hk.1, fun j hj hn => by rw [← (e j hj).2.2.1]; exact hk.2 j hj hn⟩
/-- A made row is put into place j. -/
theorem Outs.made {base : Nat} {wd : World} {go : Nat} {W H : Nat → Int} {v : Nat → Value} {L : Nat → List Int} (h : Outs base wd go W H v L) (hbs : base ≤ wd.heap.size) (j : Nat) (hj : j < 4) (x y : Int) (n : Nat) (hn : n ≤ 9223372036854775807) :
    Outs base ((((wd.alloc (.cells (madeCells #[.int .i64 0] n) 3)).setCell ⟨go, j * 3, none⟩ (.int .i64 x)).setCell ⟨go, j * 3 + 1, none⟩ (.int .i64 y)).setCell ⟨go, j * 3 + 2, none⟩ (.slice (some ⟨wd.heap.size, 0, none⟩) n n)) go (upd W j x) (upd H j y) (upd v j (.slice (some ⟨wd.heap.size, 0, none⟩) n n)) (upd L j (List.replicate n 0)) := by
  have hgo : go < wd.heap.size := blk_lt h.1
  have hba := below_alloc (Below.refl wd.heap.size wd) (.cells (madeCells #[.int .i64 0] n) 3)
  refine ⟨PAt.put3 (show PAt _ go W H v from blk_below h.1 hba) j hj x y _, fun i hi => ?_⟩
  by_cases e : i = j
  · subst e
    have h1 := own_made wd base 3 .i64 n hbs hn
    have h2 : (Kd.int .i64).R 3 (wd.alloc (.cells (madeCells #[.int .i64 0] n) 3)) base (fun k => k = wd.heap.size) (.slice (some ⟨wd.heap.size, 0, none⟩) n n) (List.replicate n 0) := by
      refine own_intsL ?_ (fun k hk => by simp [Value.ownBlock] at hk; omega)
      simpa [nums] using h1
    have h3 := Kd.R_far (p := ⟨go, i * 3 + 2, none⟩) (Kd.R_far (p := ⟨go, i * 3 + 1, none⟩) (Kd.R_far (p := ⟨go, i * 3, none⟩) h2 (fun k hk => by show k ≠ go; omega) (.int .i64 x)) (fun k hk => by show k ≠ go; omega) (.int .i64 y)) (fun k hk => by show k ≠ go; omega) (.slice (some ⟨wd.heap.size, 0, none⟩) n n)
    have e1 : upd v i (.slice (some ⟨wd.heap.size, 0, none⟩) n n) i = .slice (some ⟨wd.heap.size, 0, none⟩) n n := by simp [upd]
    have e2 : upd L i (List.replicate n 0) i = List.replicate n 0 := by simp [upd]
    rw [e1, e2]
    refine Kd.R_mono h3 fun k hk => ⟨by omega, fun q hq hne ho => ?_⟩
    have e3 : upd v i (.slice (some ⟨wd.heap.size, 0, none⟩) n n) q = v q := by simp [upd, hne]
    rw [e3] at ho
    have := (Kd.R_bound (h.2 q hq)).1 k ho
    have := this.2.2.1
    omega
  · have h2 := Kd.R_below (Kd.R_bound (h.2 i hi)) hba
    have h3 := Kd.R_far (p := ⟨go, j * 3 + 2, none⟩) (Kd.R_far (p := ⟨go, j * 3 + 1, none⟩) (Kd.R_far (p := ⟨go, j * 3, none⟩) h2 (fun k hk => hk.1.1) (.int .i64 x)) (fun k hk => hk.1.1) (.int .i64 y)) (fun k hk => hk.1.1) (.slice (some ⟨wd.heap.size, 0, none⟩) n n)
    have e1 : upd v j (.slice (some ⟨wd.heap.size, 0, none⟩) n n) i = v i := by simp [upd, e]
    have e2 : upd L j (List.replicate n 0) i = L i := by simp [upd, e]
    rw [e1, e2]
    refine Kd.R_mono h3 fun k hk => ⟨hk.1.1, fun q hq hne => ?_⟩
    by_cases eq : q = j
    · subst eq
      have e3 : upd v q (.slice (some ⟨wd.heap.size, 0, none⟩) n n) q = .slice (some ⟨wd.heap.size, 0, none⟩) n n := by simp [upd]
      rw [e3]
      have := hk.2.2.1
      intro ho
      simp [Value.ownBlock] at ho
      omega
    · have e3 : upd v j (.slice (some ⟨wd.heap.size, 0, none⟩) n n) q = v q := by simp [upd, eq]
      rw [e3]
      exact hk.1.2 q hq hne
/-- Row j is written, and nothing else. -/
theorem Outs.wrote {base : Nat} {w w1 : World} {go : Nat} {W H : Nat → Int} {v : Nat → Value} {L : Nat → List Int} (h : Outs base w go W H v L) (j : Nat) (hj : j < 4) (ys : List Int) {gj : Nat} (hgj : (v j).ownBlock = some gj) (hg : w.grownBy w1 (some gj)) (hr : (Kd.int .i64).R 3 w1 base (fun _ => True) (v j) ys) : Outs base w1 go W H v (upd L j ys) := by
  have hj1 := (h.2 j hj).1 gj hgj
  obtain ⟨_, _, _, _, hkb⟩ := hg
  have keep : ∀ k, k < w.heap.size → k ≠ gj → w1.heap[k]? = w.heap[k]? := fun k hk hn => hkb k hk (by intro h; injection h with h; exact hn h)
  refine ⟨?_, fun i hi => ?_⟩
  · have : w1.heap[go]? = w.heap[go]? := keep go (blk_lt h.1) (Ne.symm hj1.1)
    exact this.trans h.1
  · by_cases e : i = j
    · subst e
      have e2 : upd L i ys i = ys := by simp [upd]
      rw [e2]
      exact own_intsL (Kd.own_of_R (enc := Value.int .i64) (h1 := fun _ => rfl) hr) (fun k hk => (h.2 i hi).1 k hk)
    · have e2 : upd L j ys i = L i := by simp [upd, e]
      rw [e2]
      refine Kd.R_step (h.2 i hi) fun k hk hlt => keep k hlt fun he => ?_
      exact hk.2 j hj (Ne.symm e) (by rw [he]; exact hgj)
def LimPost (base : Nat) (W H : Nat → Int) (V : Nat → List Int) (most : Int) (w0 : World) (e : Ending) (w' : World) : Prop :=
  ∃ v : Nat → Value, e = .returned (.tuple #[.agg (pl (fun i => if limE W H V most = 0 then W i else 0) (fun i => if limE W H V most = 0 then H i else 0) v), .int .i64 (limE W H V most)]) ∧
    (∀ i, i < 4 → Kd.R (Kd.int .i64) 3 w' base (fun k => ∀ j, j < 4 → j ≠ i → (v j).ownBlock ≠ some k) (v i) (if limE W H V most = 0 then limL V most i else [])) ∧ Below base w0 w'
def plz : Array Value := pl (fun _ => 0) (fun _ => 0) (fun _ => .slice none 0 0)
theorem limPost_bad {base : Nat} {W H : Nat → Int} {V : Nat → List Int} {most e : Int} {w0 w' : World} (he : limE W H V most = e) (hn : e ≠ 0) (hb : Below base w0 w') : LimPost base W H V most w0 (.returned (.tuple #[.agg plz, .int .i64 e])) w' := by
  refine ⟨fun _ => .slice none 0 0, ?_, fun i _ => ?_, hb⟩
  · rw [he]
    simp only [if_neg hn]
    rfl
  · rw [he, if_neg hn]
    exact Kd.R_nil _ _ _ _ _
/-- The answer of Limit, spelled out. -/
def limF (W H : Nat → Int) (V : Nat → List Int) (most : Int) : Option (Int × Int × List Int × Int × Int × List Int × Int × Int × List Int × Int × Int × List Int × Int) :=
  if limE W H V most = 0 then some (W 0, H 0, limL V most 0, W 1, H 1, limL V most 1, W 2, H 2, limL V most 2, W 3, H 3, limL V most 3, 0) else some (0, 0, [], 0, 0, [], 0, 0, [], 0, 0, [], limE W H V most)
set_option maxHeartbeats 8000000 in
set_option maxRecDepth 100000 in
theorem limit_calls (W H : Nat → Int) (V : Nat → List Int) (A : Nat → Option Addr) (c : Nat → Nat) (most : Int) (w : World) (hC : ∀ i, i < 4 → Kd.C (Kd.int .i64) w (A i) (V i).length (V i)) (hc : ∀ i, i < 4 → (V i).length ≤ c i) :
    Calls Try.prog 22 #[.agg (pl W H fun i => .slice (A i) (V i).length (c i)), .int .i64 most] w (LimPost w.heap.size W H V most w) := by
  have hb2 := pboxes2 w (pl W H fun i => .slice (A i) (V i).length (c i)) plz 39 39
  have HC := Aside0.mk hC
  have HCC := Aside0.mk hc
  clear hC hc
  go_enter Try.func22, Try.ntmps22
  go_upto_region 1 with fail
  change Code.wp _ _ _ _ ((w.alloc (.cells (pl W H fun i => .slice (A i) (V i).length (c i)) 39 (0, 0))).alloc (.cells plz 39 (0, 0)))
  generalize (w.alloc (.cells (pl W H fun i => .slice (A i) (V i).length (c i)) 39 (0, 0))).alloc (.cells plz 39 (0, 0)) = wa at hb2 ⊢
  obtain ⟨hg1, hg2, hbw⟩ := hb2
  generalize hg_ : w.heap.size = g at hg1 hg2
  obtain ⟨v, hv⟩ : ∃ v : Nat → Value, v = fun i => .slice (A i) (V i).length (c i) := ⟨_, rfl⟩
  rw [← hv] at hg1 ⊢
  have HV := Aside0.mk (show ∀ i, v i = .slice (A i) (V i).length (c i) from fun i => by rw [hv])
  have HA := Aside0.mk (show PAt wa g W H v from hg1)
  have HR := Aside0.mk (show PAt wa (g + 1) (fun _ => 0) (fun _ => 0) (fun _ => .slice none 0 0) from hg2)
  have HB := Aside0.mk hbw
  have HGE := Aside0.mk hg_
  clear hg1 hg2 hbw hg_ hv
  obtain ⟨⟨q0, q1, q2, q3, q4, q5⟩, q6, q7, q8, q9, q10, q11⟩ := HA.out.cells
  go_wp2
  go_loopw [18] (fun i wr => ∃ j : Nat, j ≤ 4 ∧ i = .int .i64 j ∧ Aside0 (∀ i, i < j → chk (W i) (H i) (V i) = 0) ∧ Aside0 (PAt wr g W H v) ∧ Aside0 (PAt wr (g + 1) (fun _ => 0) (fun _ => 0) (fun _ => .slice none 0 0)) ∧ Aside0 (Below w.heap.size w wr)) (fun i _ => 4 - (intOf i).toNat)
  case atStart => exact ⟨0, by omega, rfl, ⟨fun i hi => by omega⟩, HA, HR, HB⟩
  case round =>
    obtain ⟨j, hj, rfl, HE, HA1, HR1, HW⟩ := hrel
    by_cases hlt : j < 4
    · have hbd : decide ((j : Int) < 4) = true := by simp; omega
      have hix := fun w => pl_index W H v j hlt w
      unfold pl one4 at hix
      rw [HV.out j] at hix
      have hCj := Kd.C_below (HC.out j hlt) HW.out
      have HCj := Aside0.mk hCj
      have HKj := Aside0.mk (check_chk (W j) (H j) (V j) hCj.2.1 ((V j).length + 1) (by omega))
      have HCl := Aside0.mk (HCC.out j hlt)
      have HLt := Aside0.mk hlt
      clear hCj
      go_upto_region 4 with fail
      go_cut [8] (fun v8 wc => v8 = .int .i64 (chk (W j) (H j) (V j)) ∧ Below wr.heap.size wr wc)
      case first =>
        go_wp2_with (go_at_call 11; ((with_reducible refine (plates_Check.calls ((V j).length + 1) (W j) (H j) (A j) (c j) (V j) (chk (W j) (H j) (V j)) _ ?side1 HCl.out HKj.out).mono ?_); (case side1 => exact Kd.C_alloc HCj.out _); rintro e w1 ⟨rfl, hb⟩; have HB1 := Aside0.mk hb; clear hb))
        go_meet
        exact ⟨rfl, below_step (below_alloc (Below.refl _ _) _) HB1.out⟩
      case rest =>
      obtain ⟨wd, hw_⟩ : ∃ x : World, x = wc := ⟨_, rfl⟩
      subst hw_
      obtain ⟨rfl, hb⟩ := hcut
      have HA2 : Aside0 (PAt wd g W H v) := ⟨blk_below HA1.out hb⟩
      have HR2 : Aside0 (PAt wd (g + 1) (fun _ => 0) (fun _ => 0) (fun _ => .slice none 0 0)) := ⟨blk_below HR1.out hb⟩
      have HW2 := Aside0.mk (below_step HW.out hb)
      have HEb := fun h => limE_bad (W := W) (H := H) (V := V) (most := most) j hlt HE.out h
      have HEE : Aside0 (chk (W j) (H j) (V j) = 0 → ∀ i, i < j + 1 → chk (W i) (H i) (V i) = 0) := ⟨fun h i hi => by
        by_cases e : i = j
        · subst e; exact h
        · exact HE.out i (by omega)⟩
      clear hb HA1 HR1 HW hix HCj HKj HCl
      generalize chk (W j) (H j) (V j) = E at HEb HEE
      have HEb := Aside0.mk HEb
      by_cases hE : E = 0
      · have e1 : (E == 0) = true := by simp [hE]
        have e2 : (E != 0) = false := by simp [hE]
        have HE2 := Aside0.mk (HEE.out hE)
        clear hE
        go_wp2
        exact ⟨⟨j + 1, by omega, by go_num, HE2, HA2, HR2, HW2⟩, by simp [intOf]; omega⟩
      · have e1 : (E == 0) = false := by simp [hE]
        have e2 : (E != 0) = true := by simp [hE]
        have HE2 := Aside0.mk hE
        clear hE q0 q1 q2 q3 q4 q5 q6 q7 q8 q9 q10 q11
        obtain ⟨⟨r0, r1, r2, r3, r4, r5⟩, r6, r7, r8, r9, r10, r11⟩ := HR2.out.cells
        obtain ⟨z0, z1, z2, z3, z4, z5, z6, z7, z8, z9, z10, z11⟩ := HR2.out.frz
        have hge : w.heap.size ≤ g + 1 := by have := HGE.out; omega
        go_wp2
        have HS := HR2.out.store (fun _ => 0) (fun _ => 0) (fun _ => .slice none 0 0)
        refine bodyPost_ret (results_list (rs := [.cell 4 39, .tmp 5]) rfl (by simp) (.cell (g + 1) 39 _ (0, 0) _ rfl HS Try.underlying39 rfl (by kernel_rfl) (.tmp .nil))) rfl ?_
        exact limPost_bad (HEb.out HE2.out) HE2.out (PAt.storeB HW2.out hge (fun _ => 0) (fun _ => 0) (fun _ => .slice none 0 0))
    · have hbd : decide ((j : Int) < 4) = false := by simp; omega
      obtain rfl : j = 4 := by omega
      have HG := Aside0.mk (limE_good (most := most) HE.out)
      obtain ⟨⟨q0, q1, q2, q3, q4, q5⟩, q6, q7, q8, q9, q10, q11⟩ := HA1.out.cells
      clear HA HR HB
      go_wp2
      go_loopw [29] (fun i wr => ∃ j : Nat, j ≤ 4 ∧ i = .int .i64 j ∧ Aside0 (∀ i, i < j → W i = W 0 ∧ H i = H 0) ∧ Aside0 (PAt wr g W H v) ∧ Aside0 (PAt wr (g + 1) (fun _ => 0) (fun _ => 0) (fun _ => .slice none 0 0)) ∧ Aside0 (Below w.heap.size w wr)) (fun i _ => 4 - (intOf i).toNat)
      case atStart => exact ⟨0, by omega, rfl, ⟨fun i hi => by omega⟩, HA1, HR1, HW⟩
      case round =>
        clear q0 q1 q2 q3 q4 q5 q6 q7 q8 q9 q10 q11 HA1 HR1 HW
        obtain ⟨j, hj, rfl, HS, HA1, HR1, HW⟩ := hrel
        by_cases hlt : j < 4
        · have hbd : decide ((j : Int) < 4) = true := by simp; omega
          have hix := fun w => pl_index W H v j hlt w
          unfold pl one4 at hix
          rw [HV.out j] at hix
          go_upto_region 10 with fail
          go_cut [10] (fun v10 wc => v10 = .pointer (some ⟨wr.heap.size, 0, none⟩) ∧ wc.heap[wr.heap.size]? = some (.cells #[.int .i64 (W j), .int .i64 (H j), .slice (A j) (V j).length (c j)] 24 (0, 0)) ∧ Below wr.heap.size wr wc)
          case first =>
            go_wp2
            go_meet
            exact ⟨rfl, heap_alloc_new wr _, below_alloc (Below.refl _ _) _⟩
          case rest =>
          obtain ⟨wd, hw_⟩ : ∃ x : World, x = wc := ⟨_, rfl⟩
          subst hw_
          obtain ⟨rfl, hx, hb⟩ := hcut
          have HA2 : Aside0 (PAt wd g W H v) := ⟨blk_below HA1.out hb⟩
          have HR2 : Aside0 (PAt wd (g + 1) (fun _ => 0) (fun _ => 0) (fun _ => .slice none 0 0)) := ⟨blk_below HR1.out hb⟩
          have HW2 := Aside0.mk (below_step HW.out hb)
          clear HA1 HR1 HW hb hix
          generalize wr.heap.size = gx at hx ⊢
          have p0 := (blk_cell hx 0).trans rfl
          have p1 := (blk_cell hx 1).trans rfl
          clear hx
          obtain ⟨q0, q1, -⟩ := HA2.out.get 0 (by omega)
          simp only [Nat.zero_mul, Nat.zero_add] at q0 q1
          go_upto_region 11 with fail
          go_cut [45] (fun v45 wc => v45 = .bool (!(decide (W j = W 0) && decide (H j = H 0))) ∧ wc = wd)
          case first =>
            by_cases h1 : W j = W 0
            · by_cases h2 : H j = H 0
              · have e1 : (W j == W 0) = true := by simp [h1]
                have e2 : (H j == H 0) = true := by simp [h2]
                have e3 : (W j != W 0) = false := by simp [h1]
                have e4 : (H j != H 0) = false := by simp [h2]
                have HH := Aside0.mk (And.intro h1 h2)
                clear h1 h2
                go_wp2
                go_meet
                exact ⟨by simp [HH.out.1, HH.out.2], rfl⟩
              · have e1 : (W j == W 0) = true := by simp [h1]
                have e2 : (H j == H 0) = false := by simp [h2]
                have e3 : (W j != W 0) = false := by simp [h1]
                have e4 : (H j != H 0) = true := by simp [h2]
                have HH := Aside0.mk (And.intro h1 h2)
                clear h1 h2
                go_wp2
                go_meet
                exact ⟨by simp [HH.out.2], rfl⟩
            · have e1 : (W j == W 0) = false := by simp [h1]
              have e3 : (W j != W 0) = true := by simp [h1]
              have HH := Aside0.mk h1
              clear h1
              go_wp2
              go_meet
              exact ⟨by simp [HH.out], rfl⟩
          case rest =>
          obtain ⟨rfl, rfl⟩ := hcut
          clear q0 q1 p0 p1
          by_cases h1 : W j = W 0 ∧ H j = H 0
          · have e1 : (!(decide (W j = W 0) && decide (H j = H 0))) = false := by simp [h1.1, h1.2]
            rw [e1]
            have HS2 : Aside0 (∀ i, i < j + 1 → W i = W 0 ∧ H i = H 0) := ⟨fun i hi => by
              by_cases e : i = j
              · subst e; exact h1
              · exact HS.out i (by omega)⟩
            clear h1 e1
            go_wp2
            exact ⟨⟨j + 1, by omega, by go_num, HS2, HA2, HR2, HW2⟩, by simp [intOf]; omega⟩
          · have e1 : (!(decide (W j = W 0) && decide (H j = H 0))) = true := by
              by_cases h2 : W j = W 0
              · have h3 : ¬ H j = H 0 := fun h => h1 ⟨h2, h⟩
                simp [h3]
              · simp [h2]
            rw [e1]
            have HE1 : Aside0 (limE W H V most = 1) := ⟨by
              rw [HG.out, if_neg]
              rintro ⟨a, b, c_, d, e, f⟩
              apply h1
              rcases j with _ | _ | _ | _ | j
              · exact ⟨rfl, rfl⟩
              · exact ⟨a, b⟩
              · exact ⟨c_, d⟩
              · exact ⟨e, f⟩
              · omega⟩
            clear h1 e1
            obtain ⟨⟨r0, r1, r2, r3, r4, r5⟩, r6, r7, r8, r9, r10, r11⟩ := HR2.out.cells
            obtain ⟨z0, z1, z2, z3, z4, z5, z6, z7, z8, z9, z10, z11⟩ := HR2.out.frz
            have hge : w.heap.size ≤ g + 1 := by have := HGE.out; omega
            go_wp2
            have HS := HR2.out.store (fun _ => 0) (fun _ => 0) (fun _ => .slice none 0 0)
            refine bodyPost_ret (results_list (rs := [.cell 4 39, .tmp 5]) rfl (by simp) (.cell (g + 1) 39 _ (0, 0) _ rfl HS Try.underlying39 rfl (by kernel_rfl) (.tmp .nil))) rfl ?_
            exact limPost_bad HE1.out (by decide) (PAt.storeB HW2.out hge (fun _ => 0) (fun _ => 0) (fun _ => .slice none 0 0))
        · have hbd : decide ((j : Int) < 4) = false := by simp; omega
          obtain rfl : j = 4 := by omega
          have HE1 : Aside0 (limE W H V most = if 0 ≤ most ∧ most ≤ 400 then 0 else 2) := ⟨by
            rw [HG.out, if_pos]
            exact ⟨(HS.out 1 (by omega)).1, (HS.out 1 (by omega)).2, (HS.out 2 (by omega)).1, (HS.out 2 (by omega)).2, (HS.out 3 (by omega)).1, (HS.out 3 (by omega)).2⟩⟩
          have hge : w.heap.size ≤ g + 1 := by have := HGE.out; omega
          clear HG
          by_cases hm : 0 ≤ most ∧ most ≤ 400
          case neg =>
            have HE2 : Aside0 (limE W H V most = 2) := ⟨by rw [HE1.out, if_neg hm]⟩
            clear HE1
            obtain ⟨⟨r0, r1, r2, r3, r4, r5⟩, r6, r7, r8, r9, r10, r11⟩ := HR1.out.cells
            obtain ⟨z0, z1, z2, z3, z4, z5, z6, z7, z8, z9, z10, z11⟩ := HR1.out.frz
            by_cases h1 : most < 0
            · have e1 : decide (most < 0) = true := by simp [h1]
              clear hm
              go_wp2
              have HS := HR1.out.store (fun _ => 0) (fun _ => 0) (fun _ => .slice none 0 0)
              refine bodyPost_ret (results_list (rs := [.cell 4 39, .tmp 5]) rfl (by simp) (.cell (g + 1) 39 _ (0, 0) _ rfl HS Try.underlying39 rfl (by kernel_rfl) (.tmp .nil))) rfl ?_
              exact limPost_bad HE2.out (by decide) (PAt.storeB HW.out hge (fun _ => 0) (fun _ => 0) (fun _ => .slice none 0 0))
            · have e1 : decide (most < 0) = false := by simp [h1]
              have h2 : 400 < most := by omega
              clear hm h1
              go_wp2
              have HS := HR1.out.store (fun _ => 0) (fun _ => 0) (fun _ => .slice none 0 0)
              refine bodyPost_ret (results_list (rs := [.cell 4 39, .tmp 5]) rfl (by simp) (.cell (g + 1) 39 _ (0, 0) _ rfl HS Try.underlying39 rfl (by kernel_rfl) (.tmp .nil))) rfl ?_
              exact limPost_bad HE2.out (by decide) (PAt.storeB HW.out hge (fun _ => 0) (fun _ => 0) (fun _ => .slice none 0 0))
          obtain ⟨hm0, hm1⟩ := hm
          have HE2 : Aside0 (limE W H V most = 0) := ⟨by rw [HE1.out, if_pos ⟨hm0, hm1⟩]⟩
          have e1 : decide (most < 0) = false := by simp; omega
          have e2 : decide (most > 400) = false := by simp; omega
          have e3 : decide (400 < most) = false := by simp; omega
          clear HE1
          go_upto_region 16 with fail
          go_cut [11] (fun v11 wc => ∃ go : Nat, v11 = .pointer (some ⟨go, 0, none⟩) ∧ wr.heap.size ≤ go ∧ PAt wc go (fun _ => 0) (fun _ => 0) (fun _ => .slice none 0 0) ∧ Below wr.heap.size wr wc)
          case first =>
            go_wp2
            go_meet
            exact ⟨wr.heap.size, rfl, Nat.le_refl _, heap_alloc_new wr _, below_alloc (Below.refl _ _) _⟩
          case rest =>
          obtain ⟨wd, hw_⟩ : ∃ x : World, x = wc := ⟨_, rfl⟩
          subst hw_
          obtain ⟨go, rfl, hgo, hp, hb⟩ := hcut
          have hlg : g + 1 < wr.heap.size := blk_lt HR1.out
          have hgg : g + 1 < go := by omega
          have hgw : w.heap.size ≤ go := by omega
          have HA2 : Aside0 (PAt wd g W H v) := ⟨blk_below HA1.out hb⟩
          have HR2 : Aside0 (PAt wd (g + 1) (fun _ => 0) (fun _ => 0) (fun _ => .slice none 0 0)) := ⟨blk_below HR1.out hb⟩
          have HW2 := Aside0.mk (below_step HW.out hb)
          have HO2 : Aside0 (∃ vv, Outs (g + 2) wd go (fun i => if i < 0 then W i else 0) (fun i => if i < 0 then H i else 0) vv (fun i => if i < 0 then V i else [])) := ⟨fun _ => .slice none 0 0, PAt.same hp (fun j _ => ⟨rfl, rfl, rfl⟩), fun i _ => Kd.R_nil _ _ _ _ _⟩
          clear HA1 HR1 HW hb hp hgo hlg e1 e2 e3
          obtain ⟨⟨q0, q1, q2, q3, q4, q5⟩, q6, q7, q8, q9, q10, q11⟩ := HA2.out.cells
          go_wp2
          go_loopw [56] (fun i wr => ∃ j : Nat, j ≤ 4 ∧ i = .int .i64 j ∧ Aside0 (PAt wr g W H v) ∧ Aside0 (PAt wr (g + 1) (fun _ => 0) (fun _ => 0) (fun _ => .slice none 0 0)) ∧ Aside0 (∃ vv, Outs (g + 2) wr go (fun i => if i < j then W i else 0) (fun i => if i < j then H i else 0) vv (fun i => if i < j then V i else [])) ∧ Aside0 (Below w.heap.size w wr)) (fun i _ => 4 - (intOf i).toNat)
          case atStart => exact ⟨0, by omega, rfl, HA2, HR2, HO2, HW2⟩
          case round =>
            clear q0 q1 q2 q3 q4 q5 q6 q7 q8 q9 q10 q11 HA2 HR2 HO2 HW2
            obtain ⟨j, hj, rfl, HA1, HR1, HO1, HW⟩ := hrel
            by_cases hlt : j < 4
            · have hbd : decide ((j : Int) < 4) = true := by simp; omega
              have hix := fun w => pl_index W H v j hlt w
              unfold pl one4 at hix
              rw [HV.out j] at hix
              go_upto_region 19 with fail
              go_cut [12, 13] (fun v12 v13 wc => v12 = .int .i64 j ∧ v13 = .pointer (some ⟨wr.heap.size, 0, none⟩) ∧ wc.heap[wr.heap.size]? = some (.cells #[.int .i64 (W j), .int .i64 (H j), .slice (A j) (V j).length (c j)] 24 (0, 0)) ∧ Below wr.heap.size wr wc)
              case first =>
                go_wp2
                go_meet
                exact ⟨rfl, rfl, heap_alloc_new wr _, below_alloc (Below.refl _ _) _⟩
              case rest =>
              obtain ⟨wd, hw_⟩ : ∃ x : World, x = wc := ⟨_, rfl⟩
              subst hw_
              obtain ⟨rfl, rfl, hx, hb⟩ := hcut
              have HA2 : Aside0 (PAt wd g W H v) := ⟨blk_below HA1.out hb⟩
              have HR2 : Aside0 (PAt wd (g + 1) (fun _ => 0) (fun _ => 0) (fun _ => .slice none 0 0)) := ⟨blk_below HR1.out hb⟩
              have HW2 := Aside0.mk (below_step HW.out hb)
              obtain ⟨vv, ho⟩ := HO1.out
              have HO2 := Aside0.mk (Outs.below ho hb)
              have hlo : go < wr.heap.size := blk_lt ho.1
              clear HA1 HR1 HW hb hix HO1 ho
              generalize wr.heap.size = gx at hx hlo ⊢
              have p0 := (blk_cell hx 0).trans rfl
              have p1 := (blk_cell hx 1).trans rfl
              have p2 := (blk_cell hx 2).trans rfl
              have HX := Aside0.mk hx
              clear hx
              go_upto_region 20 with fail
              obtain ⟨hml, hmp⟩ := chk_len (HE.out j hlt)
              have HAl : Aside0 (Below wd.heap.size wd (wd.alloc (.cells (madeCells #[.int .i64 0] (V j).length) 3))) := ⟨below_alloc (Below.refl _ _) _⟩
              have hj4 : (j : Int) < 4 := by omega
              go_cut [] (fun wc => Aside0 (PAt wc g W H v) ∧ Aside0 (PAt wc (g + 1) (fun _ => 0) (fun _ => 0) (fun _ => .slice none 0 0)) ∧ wc.heap[gx]? = some (.cells #[.int .i64 (W j), .int .i64 (H j), .slice (A j) (V j).length (c j)] 24 (0, 0)) ∧
                Aside0 (∃ gn, g + 1 < gn ∧ gn < wc.heap.size ∧ Outs (g + 2) wc go (upd (fun i => if i < j then W i else 0) j (W j)) (upd (fun i => if i < j then H i else 0) j (H j)) (upd vv j (.slice (some ⟨gn, 0, none⟩) (V j).length (V j).length)) (upd (fun i => if i < j then V i else []) j (List.replicate (V j).length 0))) ∧ Aside0 (Below w.heap.size w wc))
              case first =>
                have hi := info3
                have hmk := fun w => run_make_row' (P := Try.prog) 22 3 (.int .i64 0) 8 Try.underlying22 hi rfl .i64 .i64 (V j).length (by omega) (by omega) w
                have pa0 := (blk_cell (blk_below HX.out HAl.out) 0).trans rfl
                have pa1 := (blk_cell (blk_below HX.out HAl.out) 1).trans rfl
                have pa2 := (blk_cell (blk_below HX.out HAl.out) 2).trans rfl
                have HOa : Aside0 (PAt (wd.alloc (.cells (madeCells #[.int .i64 0] (V j).length) 3)) go _ _ _) := ⟨blk_below HO2.out.1 HAl.out⟩
                obtain ⟨qa0, qa1, qa2⟩ := HOa.out.get j hlt
                have za0 := blk_frozen HOa.out (j * 3)
                have za1 := blk_frozen HOa.out (j * 3 + 1)
                have za2 := blk_frozen HOa.out (j * 3 + 2)
                go_region
                clear pa0 pa1 pa2 qa0 qa1 qa2 za0 za1 za2 hmk hi
                have hlt2 : g + 1 < wd.heap.size := blk_lt HR2.out
                have hbs : g + 2 ≤ wd.heap.size := by omega
                have hgw2 : w.heap.size ≤ go := hgw
                go_wp2_with fail
                go_meet
                refine ⟨⟨?_⟩, ⟨?_⟩, ?_, ⟨wd.heap.size, hlt2, by simp, (Outs.made HO2.out hbs j hlt (W j) (H j) (V j).length (by omega)).drew⟩, ⟨below_drew (below_set (below_set (below_set (below_alloc HW2.out _) hgw2) hgw2) hgw2)⟩⟩
                · exact blk_drew (blk_far (blk_far (blk_far (blk_below HA2.out HAl.out) (show g ≠ go by omega) _) (show g ≠ go by omega) _) (show g ≠ go by omega) _)
                · exact blk_drew (blk_far (blk_far (blk_far (blk_below HR2.out HAl.out) (show g + 1 ≠ go by omega) _) (show g + 1 ≠ go by omega) _) (show g + 1 ≠ go by omega) _)
                · exact blk_drew (blk_far (blk_far (blk_far (blk_below HX.out HAl.out) (show gx ≠ go by omega) _) (show gx ≠ go by omega) _) (show gx ≠ go by omega) _)
              case rest =>
              obtain ⟨we, hw_⟩ : ∃ x : World, x = wc := ⟨_, rfl⟩
              subst hw_
              obtain ⟨HA3, HR3, hx, HO3, HW3⟩ := hcut
              obtain ⟨gn, hgn, hgnl, ho⟩ := HO3.out
              clear HA2 HR2 HX HO2 HW2 HAl p0 p1 p2 HO3
              have p2 := (blk_cell hx 2).trans rfl
              have q2 := (ho.1.get j hlt).2.2
              have e_ : upd vv j (.slice (some ⟨gn, 0, none⟩) (V j).length (V j).length) j = .slice (some ⟨gn, 0, none⟩) (V j).length (V j).length := by simp [upd]
              rw [e_] at q2
              have hrow := ho.drew.2 j hlt
              have e2_ : upd (fun i => if i < j then V i else []) j (List.replicate (V j).length 0) j = List.replicate (V j).length 0 := by simp [upd]
              rw [e_, e2_] at hrow
              obtain ⟨w1, hcp, hr1, hg1⟩ := copy_run 3 hmp (by simp) hrow (ys := V j) (A := A j) (c := c j) (Kd.C_drew (Kd.C_below (HC.out j hlt) HW3.out))
              have HO4 := Aside0.mk ho
              have HG4 := Aside0.mk hg1
              have HR4 := Aside0.mk (Kd.R_mono hr1 (fun _ _ => trivial))
              clear ho hrow hg1 hr1 hx
              go_upto_region 21 with fail
              go_region
              have HAn : Aside0 (PAt w1 g W H v) := ⟨by
                obtain ⟨_, _, _, _, hkb⟩ := HG4.out
                exact (hkb g (blk_lt (blk_drew HA3.out)) (by intro h; injection h with h; omega)).trans (blk_drew HA3.out)⟩
              have HRn : Aside0 (PAt w1 (g + 1) (fun _ => 0) (fun _ => 0) (fun _ => .slice none 0 0)) := ⟨by
                obtain ⟨_, _, _, _, hkb⟩ := HG4.out
                exact (hkb (g + 1) (blk_lt (blk_drew HR3.out)) (by intro h; injection h with h; omega)).trans (blk_drew HR3.out)⟩
              have HOn : Aside0 (∃ vv, Outs (g + 2) w1 go (fun i => if i < j + 1 then W i else 0) (fun i => if i < j + 1 then H i else 0) vv (fun i => if i < j + 1 then V i else [])) := ⟨by
                have h1 := Outs.wrote HO4.out.drew j hlt (V j) (gj := gn) (by rw [e_]; rfl) HG4.out (by rw [e_]; exact HR4.out)
                refine ⟨upd vv j (.slice (some ⟨gn, 0, none⟩) (V j).length (V j).length), h1.same fun i hi => ?_⟩
                by_cases e : i = j
                · subst e; simp [upd]
                · by_cases e2 : i < j
                  · have e3 : i < j + 1 := by omega
                    simp [upd, e, e2, e3]
                  · have e3 : ¬ i < j + 1 := by omega
                    simp [upd, e, e2, e3]⟩
              have HWn : Aside0 (Below w.heap.size w w1) := ⟨Below.grown (below_drew HW3.out) HG4.out (below_size (below_drew HW3.out)) (fun k hk => by injection hk with hk; have := HGE.out; omega)⟩
              clear HO4 HG4 HR4 hcp
              go_wp2
              exact ⟨⟨j + 1, by omega, by go_num, HAn, HRn, HOn, HWn⟩, by simp [intOf]; omega⟩
            · have hbd : decide ((j : Int) < 4) = false := by simp; omega
              obtain rfl : j = 4 := by omega
              have HO2 : Aside0 (∃ vv, Outs (g + 2) wr go W H vv (mixL V most 0)) := ⟨by
                obtain ⟨vv, h⟩ := HO1.out
                exact ⟨vv, h.same fun i hi => by simp [hi, mixL]⟩⟩
              have hN : ∀ i, i < 4 → (V i).length = (V 0).length := fun i hi => by
                have h1 := (chk_zero (HE.out i hi)).2.2.2.2.1
                have h2 := (chk_zero (HE.out 0 (by omega))).2.2.2.2.1
                rw [(HS.out i hi).1, (HS.out i hi).2, ← h2] at h1
                omega
              have HN := Aside0.mk hN
              obtain ⟨hml, hmp⟩ := chk_len (HE.out 0 (by omega))
              obtain ⟨⟨q0, q1, q2, q3, q4, q5⟩, q6, q7, q8, q9, q10, q11⟩ := HA1.out.cells
              rw [HV.out 0] at q2
              clear hN q0 q1 q3 q4 q5 q6 q7 q8 q9 q10 q11 HO1 HS
              go_wp2
              go_loopw [83] (fun i wr => ∃ n : Nat, n ≤ (V 0).length ∧ i = .int .i64 n ∧ Aside0 (PAt wr g W H v) ∧ Aside0 (PAt wr (g + 1) (fun _ => 0) (fun _ => 0) (fun _ => .slice none 0 0)) ∧ Aside0 (∃ vv, Outs (g + 2) wr go W H vv (mixL V most n)) ∧ Aside0 (Below w.heap.size w wr)) (fun i _ => (V 0).length - (intOf i).toNat)
              case atStart => exact ⟨0, by omega, rfl, HA1, HR1, HO2, HW⟩
              case round =>
                clear q2 HA1 HR1 HO2 HW
                obtain ⟨n, hn, rfl, HA1, HR1, HO1, HW⟩ := hrel
                by_cases hlt : n < (V 0).length
                · have hbd : decide ((n : Int) < ((V 0).length : Int)) = true := by simp; omega
                  have el : ∀ i, i < 4 → ∃ ad, A i = some ad ∧ wr.cell? (ad.add n) = some (.int .i64 (at4 V n i)) := fun i hi => by
                    obtain ⟨ad, h1, h2⟩ := Kd.at_int (Kd.C_below (HC.out i hi) HW.out) (n : Int) (by omega) (by rw [HN.out i hi]; omega)
                    exact ⟨ad, h1, by simpa [rd, at4] using h2⟩
                  have hx4 : ∀ i, i < 4 → 0 ≤ at4 V n i ∧ at4 V n i ≤ 100 := fun i hi => by
                    have h1 := (chk_zero (HE.out i hi)).2.2.2.2.2
                    have h2 : n < (V i).length := by rw [HN.out i hi]; exact hlt
                    have h3 := h1 (V i)[n] (List.getElem_mem h2)
                    simpa [at4, List.getD_eq_getElem?_getD, List.getElem?_eq_getElem h2] using h3
                  have HX4 := Aside0.mk hx4
                  have HXe : Aside0 (∀ i, lim (at4 V n) most i = lim (at4 V n) most i) := ⟨fun _ => rfl⟩
                  obtain ⟨ad0, ha0, x0⟩ := el 0 (by omega)
                  obtain ⟨ad1, ha1, x1⟩ := el 1 (by omega)
                  obtain ⟨ad2, ha2, x2⟩ := el 2 (by omega)
                  obtain ⟨ad3, ha3, x3⟩ := el 3 (by omega)
                  obtain ⟨⟨-, -, q2, -, -, q5⟩, -, -, q8, -, -, q11⟩ := HA1.out.cells
                  rw [HV.out 0, ha0] at q2
                  rw [HV.out 1, ha1, HN.out 1 (by omega)] at q5
                  rw [HV.out 2, ha2, HN.out 2 (by omega)] at q8
                  rw [HV.out 3, ha3, HN.out 3 (by omega)] at q11
                  clear el hx4 ha0 ha1 ha2 ha3
                  have hml3 : (V 0).length ≤ 9223372036854775807 := by omega
                  go_upto_region 26 with fail
                  go_cut [15] (fun v15 wc => ∃ gc, v15 = .pointer (some ⟨gc, 0, none⟩) ∧ wr.heap.size ≤ gc ∧ At4 wc gc (lim (at4 V n) most) ∧ Below wr.heap.size wr wc)
                  case first =>
                    obtain ⟨x, hx_⟩ : ∃ x, at4 V n = x := ⟨_, rfl⟩
                    rw [hx_] at x0 x1 x2 x3 HX4
                    have HXX := Aside0.mk hx_
                    clear hx_ HXe
                    have HQ := Aside0.mk (And.intro q2 (And.intro q5 (And.intro q8 (And.intro q11 (And.intro x0 (And.intro x1 (And.intro x2 x3)))))))
                    clear q2 q5 q8 q11 x0 x1 x2 x3
                    have hnl : (n : Int) < ((V 0).length : Int) := by omega
                    have hgl : Aside0 (g + 1 < wr.heap.size) := ⟨blk_lt HR1.out⟩
                    go_region_held3 (fun w' => (w'.cell? ⟨g, 2, none⟩ = some (.slice (some ad0) (V 0).length (c 0)) ∧ w'.cell? ⟨g, 5, none⟩ = some (.slice (some ad1) (V 0).length (c 1)) ∧ w'.cell? ⟨g, 8, none⟩ = some (.slice (some ad2) (V 0).length (c 2)) ∧ w'.cell? ⟨g, 11, none⟩ = some (.slice (some ad3) (V 0).length (c 3)) ∧ w'.cell? (ad0.add n) = some (.int .i64 (x 0)) ∧ w'.cell? (ad1.add n) = some (.int .i64 (x 1)) ∧ w'.cell? (ad2.add n) = some (.int .i64 (x 2)) ∧ w'.cell? (ad3.add n) = some (.int .i64 (x 3))))
                      ((refine cells8 HQ.out ?_; (repeat (first | (with_reducible first | exact HBz.out | exact Below.refl _ _ | apply below_alloc | apply below_drew | apply pw_below_drewN | refine below_set ?_ (Nat.le_refl _) | refine below_set ?_ (below_size HBz.out)))); done))
                      (first
                        | (go_at_call 37; (refine (reduced_lit x most _ HX4.out hm0 hm1).mono ?_); rintro e w1 ⟨rfl, hb⟩; have HBz : Aside0 (Below wr.heap.size wr w1) := ⟨below_step (by repeat (first | (with_reducible first | exact Below.refl _ _ | apply below_alloc | apply below_drew | apply pw_below_drewN) | exact Below.refl _ _)) hb⟩; (first | (have HKz := Aside0.mk (show At4 w1 wr.heap.size (fun _ => 0) from blk_below (g := wr.heap.size) (o := .cells #[.int .i64 0, .int .i64 0, .int .i64 0, .int .i64 0] 53 (0, 0)) (by (with_reducible repeat (first | refine blk_drewN ?_ _ | refine blk_drew ?_)); exact heap_alloc_new _ _) hb); obtain ⟨r0, r1, r2, r3⟩ := At4.cells HKz.out; obtain ⟨z0, z1, z2, z3⟩ := At4.frz HKz.out) | skip); clear hb))
                    all_goals (go_wp2_with fail; go_meet)
                    · refine ⟨_, rfl, below_size HBz.out, ?_, below_alloc HBz.out _⟩
                      rw [HXX.out]
                      exact heap_alloc_new _ _
                    · refine ⟨_, rfl, Nat.le_refl _, ?_, ?_⟩
                      · rw [HXX.out]
                        exact At4.store HKz.out (lim x most)
                      · exact below_set (below_set (below_set (below_set HBz.out (Nat.le_refl _)) (Nat.le_refl _)) (Nat.le_refl _)) (Nat.le_refl _)
                  case rest =>
                  obtain ⟨wd, hw_⟩ : ∃ x : World, x = wc := ⟨_, rfl⟩
                  subst hw_
                  obtain ⟨gc, rfl, hgc, hc4, hb⟩ := hcut
                  clear q2 q5 q8 q11 x0 x1 x2 x3
                  have hlg : g + 1 < wr.heap.size := blk_lt HR1.out
                  have hlo : go < wr.heap.size := by obtain ⟨vv, h⟩ := HO1.out; exact blk_lt h.1
                  have HA2 : Aside0 (PAt wd g W H v) := ⟨blk_below HA1.out hb⟩
                  have HR2 : Aside0 (PAt wd (g + 1) (fun _ => 0) (fun _ => 0) (fun _ => .slice none 0 0)) := ⟨blk_below HR1.out hb⟩
                  have HW2 := Aside0.mk (below_step HW.out hb)
                  have HC4 := Aside0.mk hc4
                  have HO2 : Aside0 (∃ vv, (∀ i, i < 4 → ∀ k, (vv i).ownBlock = some k → k < gc) ∧ Outs (g + 2) wd go W H vv (fun i => if i < 0 then mixL V most (n + 1) i else mixL V most n i)) := ⟨by
                    obtain ⟨vv, h⟩ := HO1.out
                    refine ⟨vv, fun i hi k hk => ?_, (h.below hb).same fun i hi => ⟨rfl, rfl, rfl, rfl⟩⟩
                    have := (Kd.R_bound (h.2 i hi)).1 k hk
                    have := this.2.2.1
                    omega⟩
                  have hgo2 : go < gc := by omega
                  have hgg2 : g + 1 < gc := by omega
                  clear HA1 HR1 HO1 HW hb hc4 hlo hlg hgc
                  go_wp2
                  go_loopw [113] (fun i wr => ∃ i0 : Nat, i0 ≤ 4 ∧ i = .int .i64 i0 ∧ Aside0 (PAt wr g W H v) ∧ Aside0 (PAt wr (g + 1) (fun _ => 0) (fun _ => 0) (fun _ => .slice none 0 0)) ∧ Aside0 (At4 wr gc (lim (at4 V n) most)) ∧ Aside0 (∃ vv, (∀ i, i < 4 → ∀ k, (vv i).ownBlock = some k → k < gc) ∧ Outs (g + 2) wr go W H vv (fun i => if i < i0 then mixL V most (n + 1) i else mixL V most n i)) ∧ Aside0 (Below w.heap.size w wr)) (fun i _ => 4 - (intOf i).toNat)
                  case atStart => exact ⟨0, by omega, rfl, HA2, HR2, HC4, HO2, HW2⟩
                  case round =>
                    clear HA2 HR2 HC4 HO2 HW2
                    obtain ⟨i, hi, rfl, HA1, HR1, HC1, HO1, HW⟩ := hrel
                    by_cases hli : i < 4
                    · have hbi : decide ((i : Int) < 4) = true := by simp; omega
                      have hi4 : (i : Int) < 4 := by omega
                      have hnl : (n : Int) < ((V 0).length : Int) := by omega
                      obtain ⟨vv, hvb, ho⟩ := HO1.out
                      have hrow := ho.2 i hli
                      have eL : (if i < i then mixL V most (n + 1) i else mixL V most n i) = mixL V most n i := by simp
                      dsimp only at hrow
                      rw [eL] at hrow
                      have hll : (mixL V most n i).length = (V 0).length := by rw [mixL_len (by rw [HN.out i hli]; omega), HN.out i hli]
                      obtain ⟨gi, cap, ev, hgib, hgil, -⟩ := Kd.R_form hrow (by omega)
                      rw [hll] at ev
                      have q2 := (ho.1.get i hli).2.2
                      rw [ev] at q2 hrow
                      have r2 := HC1.out.get i hli
                      obtain ⟨qn, zn⟩ := Kd.R_celln (0 : Int) hrow (n : Int) (by omega) (by omega)
                      simp only [Int.toNat_natCast] at qn zn
                      have hput := Kd.R_putn hrow (n : Int) (lim (at4 V n) most i)
                      rw [Int.toNat_natCast, mixL_set (by rw [HN.out i hli]; omega)] at hput
                      have hgig := hvb i hli gi (by rw [ev]; rfl)
                      have HP := Aside0.mk (Kd.R_mono hput (fun _ _ => trivial))
                      have HOO := Aside0.mk ho
                      have hown := Kd.own_of_R (enc := Value.int .i64) (h1 := fun _ => rfl) hrow
                      rw [hll] at hown
                      have HGr0 := fun y : Int => (hown.stored n (.int .i64 y)).2
                      clear hown
                      have HVB := Aside0.mk hvb
                      have HEV := Aside0.mk ev
                      have HLL := Aside0.mk eL
                      generalize rdOf (0 : Int) _ (n : Int) = old at qn
                      clear ho hvb ev hput hrow eL hll
                      obtain ⟨y, hy⟩ : ∃ y, lim (at4 V n) most i = y := ⟨_, rfl⟩
                      rw [hy] at r2 HP
                      have HGr := Aside0.mk (HGr0 y)
                      clear HGr0
                      have HY := Aside0.mk hy
                      clear hy
                      go_upto_region 30 with fail
                      go_region
                      have HOn : Aside0 (∃ vv, (∀ i, i < 4 → ∀ k, (vv i).ownBlock = some k → k < gc) ∧ Outs (g + 2) (wr.setCell ⟨gi, n, none⟩ (.int .i64 y)).drew go W H vv (fun i' => if i' < i + 1 then mixL V most (n + 1) i' else mixL V most n i')) := ⟨by
                        refine ⟨vv, HVB.out, ?_⟩
                        have h1 := Outs.wrote HOO.out i hli (mixL V most (n + 1) i) (gj := gi) (by rw [HEV.out]; rfl) HGr.out (by rw [HEV.out]; exact HP.out)
                        refine h1.drew.same fun i' hi' => ⟨rfl, rfl, rfl, ?_⟩
                        by_cases e : i' = i
                        · subst e; simp [upd]
                        · by_cases e2 : i' < i
                          · have e3 : i' < i + 1 := by omega
                            simp [upd, e, e2, e3]
                          · have e3 : ¬ i' < i + 1 := by omega
                            simp [upd, e, e2, e3]⟩
                      have HAn : Aside0 (PAt (wr.setCell ⟨gi, n, none⟩ (.int .i64 y)).drew g W H v) := ⟨blk_drew (blk_far HA1.out (show g ≠ gi by omega) _)⟩
                      have HRn : Aside0 (PAt (wr.setCell ⟨gi, n, none⟩ (.int .i64 y)).drew (g + 1) (fun _ => 0) (fun _ => 0) (fun _ => .slice none 0 0)) := ⟨blk_drew (blk_far HR1.out (show g + 1 ≠ gi by omega) _)⟩
                      have HCn : Aside0 (At4 (wr.setCell ⟨gi, n, none⟩ (.int .i64 y)).drew gc (lim (at4 V n) most)) := ⟨blk_drew (blk_far HC1.out (show gc ≠ gi by omega) _)⟩
                      have HWn : Aside0 (Below w.heap.size w (wr.setCell ⟨gi, n, none⟩ (.int .i64 y)).drew) := ⟨below_drew (below_set HW.out (show w.heap.size ≤ gi by have := HGE.out; omega))⟩
                      clear HOO HVB HEV HP HGr HA1 HR1 HC1 HO1 HW q2 r2 qn zn HLL HY
                      go_wp2
                      exact ⟨⟨i + 1, by omega, by go_num, HAn, HRn, HCn, HOn, HWn⟩, by simp [intOf]; omega⟩
                    · have hbi : decide ((i : Int) < 4) = false := by simp; omega
                      obtain rfl : i = 4 := by omega
                      have HOn : Aside0 (∃ vv, Outs (g + 2) wr go W H vv (mixL V most (n + 1))) := ⟨by
                        obtain ⟨vv, _, h⟩ := HO1.out
                        exact ⟨vv, h.same fun i hi => by simp [hi]⟩⟩
                      go_wp2
                      exact ⟨⟨n + 1, by omega, by go_num, HA1, HR1, HOn, HW⟩, by simp [intOf]; omega⟩
                · have hbd : decide ((n : Int) < ((V 0).length : Int)) = false := by simp; omega
                  obtain rfl : n = (V 0).length := by omega
                  obtain ⟨vv, ho1⟩ := HO1.out
                  have ho := ho1.same (W' := W) (H' := H) (v' := vv) (L' := limL V most) fun i hi => ⟨rfl, rfl, rfl, mixL_all (HN.out i hi) rfl⟩
                  have HO := Aside0.mk ho
                  obtain ⟨⟨q0, q1, q2, q3, q4, q5⟩, q6, q7, q8, q9, q10, q11⟩ := ho.1.cells
                  obtain ⟨B0, d0, e0⟩ := Kd.R_slice (ho.2 0 (by omega))
                  obtain ⟨B1, d1, e1⟩ := Kd.R_slice (ho.2 1 (by omega))
                  obtain ⟨B2, d2, e2⟩ := Kd.R_slice (ho.2 2 (by omega))
                  obtain ⟨B3, d3, e3⟩ := Kd.R_slice (ho.2 3 (by omega))
                  rw [e0] at q2
                  rw [e1] at q5
                  rw [e2] at q8
                  rw [e3] at q11
                  have HS := HR1.out.store W H vv
                  have HSB := PAt.storeB HW.out hge W H vv
                  have HSF := store12_far wr (g + 1) W H vv
                  rw [e0, e1, e2, e3] at HS HSB HSF
                  have HS := Aside0.mk HS
                  have HSB := Aside0.mk HSB
                  have HSF := Aside0.mk HSF
                  have HEq := Aside0.mk (And.intro e0 (And.intro e1 (And.intro e2 e3)))
                  obtain ⟨⟨r0, r1, r2, r3, r4, r5⟩, r6, r7, r8, r9, r10, r11⟩ := HR1.out.cells
                  obtain ⟨z0, z1, z2, z3, z4, z5, z6, z7, z8, z9, z10, z11⟩ := HR1.out.frz
                  clear ho ho1 e0 e1 e2 e3 HO1 HA1 HR1 HW
                  go_wp2
                  refine bodyPost_ret (results_list (rs := [.cell 4 39, .tmp 5]) rfl (by simp) (.cell (g + 1) 39 _ (0, 0) _ rfl HS.out Try.underlying39 rfl (by kernel_rfl) (.tmp .nil))) rfl ?_
                  refine ⟨vv, ?_, fun i hi => ?_, HSB.out⟩
                  · simp only [HE2.out, if_true]
                    rfl
                  · rw [HE2.out, if_pos rfl]
                    have hgs : w.heap.size ≤ g + 2 := by have := HGE.out; omega
                    exact Kd.R_mono (Kd.R_lower (Kd.R_step (Kd.R_mono (Kd.R_bound (HO.out.2 i hi)) (fun k hk => (⟨by have := hk.2.1; omega, hk.1.2⟩ : k ≠ g + 1 ∧ ∀ j, j < 4 → j ≠ i → (vv j).ownBlock ≠ some k))) (fun k hk _ => HSF.out k hk.1)) hgs) (fun k hk => hk.2)
def plates_Limit.f (a0_0 : Int) (a0_1 : Int) (l0_2 : List Int) (a0_3 : Int) (a0_4 : Int) (l0_5 : List Int) (a0_6 : Int) (a0_7 : Int) (l0_8 : List Int) (a0_9 : Int) (a0_10 : Int) (l0_11 : List Int) (a1 : Int) : Option (Int × Int × List Int × Int × Int × List Int × Int × Int × List Int × Int × Int × List Int × Int) :=
  limF (sel4 a0_0 a0_3 a0_6 a0_9) (sel4 a0_1 a0_4 a0_7 a0_10) (sel4 l0_2 l0_5 l0_8 l0_11) a1
theorem plates_Limit.calls (a0_0 : Int) (a0_1 : Int) (A0_2 : Option Addr) (c0_2 : Nat) (l0_2 : List Int) (a0_3 : Int) (a0_4 : Int) (A0_5 : Option Addr) (c0_5 : Nat) (l0_5 : List Int) (a0_6 : Int) (a0_7 : Int) (A0_8 : Option Addr) (c0_8 : Nat) (l0_8 : List Int) (a0_9 : Int) (a0_10 : Int) (A0_11 : Option Addr) (c0_11 : Nat) (l0_11 : List Int) (a1 : Int) (r1 : Int) (r2 : Int) (r3 : List Int) (r4 : Int) (r5 : Int) (r6 : List Int) (r7 : Int) (r8 : Int) (r9 : List Int) (r10 : Int) (r11 : Int) (r12 : List Int) (r13 : Int) (w : World) (hr0_2 : Kd.C (Kd.int .i64) w A0_2 l0_2.length l0_2) (hc0_2 : l0_2.length ≤ c0_2) (hr0_5 : Kd.C (Kd.int .i64) w A0_5 l0_5.length l0_5) (hc0_5 : l0_5.length ≤ c0_5) (hr0_8 : Kd.C (Kd.int .i64) w A0_8 l0_8.length l0_8) (hc0_8 : l0_8.length ≤ c0_8) (hr0_11 : Kd.C (Kd.int .i64) w A0_11 l0_11.length l0_11) (hc0_11 : l0_11.length ≤ c0_11) (h : plates_Limit.f a0_0 a0_1 l0_2 a0_3 a0_4 l0_5 a0_6 a0_7 l0_8 a0_9 a0_10 l0_11 a1 = some (r1, r2, r3, r4, r5, r6, r7, r8, r9, r10, r11, r12, r13)) :
    Calls Try.prog 22 #[.agg #[.int .i64 a0_0, .int .i64 a0_1, .slice A0_2 l0_2.length c0_2, .int .i64 a0_3, .int .i64 a0_4, .slice A0_5 l0_5.length c0_5, .int .i64 a0_6, .int .i64 a0_7, .slice A0_8 l0_8.length c0_8, .int .i64 a0_9, .int .i64 a0_10, .slice A0_11 l0_11.length c0_11], .int .i64 a1] w fun e w' => ∃ v2_ v5_ v8_ v11_ : Value, e = .returned (.tuple #[.agg #[.int .i64 r1, .int .i64 r2, v2_, .int .i64 r4, .int .i64 r5, v5_, .int .i64 r7, .int .i64 r8, v8_, .int .i64 r10, .int .i64 r11, v11_], .int .i64 r13]) ∧ Kd.R (Kd.int .i64) 3 w' w.heap.size (fun k_ => some k_ ≠ v5_.ownBlock ∧ some k_ ≠ v8_.ownBlock ∧ some k_ ≠ v11_.ownBlock) v2_ r3 ∧ Kd.R (Kd.int .i64) 3 w' w.heap.size (fun k_ => some k_ ≠ v8_.ownBlock ∧ some k_ ≠ v11_.ownBlock) v5_ r6 ∧ Kd.R (Kd.int .i64) 3 w' w.heap.size (fun k_ => some k_ ≠ v11_.ownBlock) v8_ r9 ∧ Kd.R (Kd.int .i64) 3 w' w.heap.size (fun _ => True) v11_ r12 ∧ Below w.heap.size w w' := by
  have hC : ∀ i, i < 4 → Kd.C (Kd.int .i64) w (sel4 A0_2 A0_5 A0_8 A0_11 i) (sel4 l0_2 l0_5 l0_8 l0_11 i).length (sel4 l0_2 l0_5 l0_8 l0_11 i) := fun i hi => by
    rcases i with _ | _ | _ | _ | i <;> first | assumption | omega
  have hc : ∀ i, i < 4 → (sel4 l0_2 l0_5 l0_8 l0_11 i).length ≤ sel4 c0_2 c0_5 c0_8 c0_11 i := fun i hi => by
    rcases i with _ | _ | _ | _ | i <;> first | assumption | omega
  refine (limit_calls (sel4 a0_0 a0_3 a0_6 a0_9) (sel4 a0_1 a0_4 a0_7 a0_10) (sel4 l0_2 l0_5 l0_8 l0_11) (sel4 A0_2 A0_5 A0_8 A0_11) (sel4 c0_2 c0_5 c0_8 c0_11) a1 w hC hc).mono ?_
  rintro e w' ⟨v, rfl, hrow, hb⟩
  have r0_ := Kd.R_mono (ok' := fun k_ => some k_ ≠ (v 1).ownBlock ∧ some k_ ≠ (v 2).ownBlock ∧ some k_ ≠ (v 3).ownBlock) (hrow 0 (by omega)) (fun k hk => ⟨(hk 1 (by omega) (by omega)).symm, (hk 2 (by omega) (by omega)).symm, (hk 3 (by omega) (by omega)).symm⟩)
  have r1_ := Kd.R_mono (ok' := fun k_ => some k_ ≠ (v 2).ownBlock ∧ some k_ ≠ (v 3).ownBlock) (hrow 1 (by omega)) (fun k hk => ⟨(hk 2 (by omega) (by omega)).symm, (hk 3 (by omega) (by omega)).symm⟩)
  have r2_ := Kd.R_mono (ok' := fun k_ => some k_ ≠ (v 3).ownBlock) (hrow 2 (by omega)) (fun k hk => (hk 3 (by omega) (by omega)).symm)
  have r3_ := Kd.R_mono (ok' := fun _ => True) (hrow 3 (by omega)) (fun _ _ => trivial)
  clear hrow hC hc
  unfold plates_Limit.f limF at h
  by_cases e0 : limE (sel4 a0_0 a0_3 a0_6 a0_9) (sel4 a0_1 a0_4 a0_7 a0_10) (sel4 l0_2 l0_5 l0_8 l0_11) a1 = 0
  · rw [if_pos e0] at h r0_ r1_ r2_ r3_
    simp only [Option.some.injEq, Prod.mk.injEq] at h
    obtain ⟨rfl, rfl, rfl, rfl, rfl, rfl, rfl, rfl, rfl, rfl, rfl, rfl, rfl⟩ := h
    refine ⟨v 0, v 1, v 2, v 3, ?_, r0_, r1_, r2_, r3_, hb⟩
    rw [e0]
    rfl
  · rw [if_neg e0] at h r0_ r1_ r2_ r3_
    simp only [Option.some.injEq, Prod.mk.injEq] at h
    obtain ⟨rfl, rfl, rfl, rfl, rfl, rfl, rfl, rfl, rfl, rfl, rfl, rfl, rfl⟩ := h
    refine ⟨v 0, v 1, v 2, v 3, ?_, r0_, r1_, r2_, r3_, hb⟩
    simp only [if_neg e0]
    rfl

end Go.Proofs.Ytaappifdpbgchaa.PA
