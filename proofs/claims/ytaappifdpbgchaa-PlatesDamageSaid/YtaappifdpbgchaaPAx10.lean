-- Written by wip/pp.py of this repository, on the kit's print program. Not trusted: Lean checks it.
import Derived.Test.YtaappifdpbgchaaPAx0
import Derived.Test.YtaappifdpbgchaaPAx1
import Derived.Test.YtaappifdpbgchaaPAx3
import Derived.Test.YtaappifdpbgchaaPAx4
import Derived.Test.YtaappifdpbgchaaPAx6
import Derived.Test.YtaappifdpbgchaaPAx7
import Derived.Test.YtaappifdpbgchaaPAx8
import Derived.Test.YtaappifdpbgchaaPAx9
namespace Go.Proofs.Ytaappifdpbgchaa.PA
open Go.RowKit Go.Proofs.YtaappifdpbgchaaW.PrintWords Go.Proofs.YtaappifdpbgchaaW.PrintLast Go.Proofs.YtaappifdpbgchaaW.PrintMore
attribute [local go_sem] max2_int min2_int max_two min_two max_three min_three max_four min_four   -- for this text's walks alone
set_option linter.unusedVariables false
set_option linter.unusedSimpArgs false

/-! ### mapsheetslaw54_awake: function 10 -/
/-! The chapter's examples. -/
def CI (w : World) (v : Value) (L : List Int) : Prop := ∃ A c, v = .slice A L.length c ∧ Kd.C (Kd.int .i64) w A L.length L ∧ L.length ≤ c
def CU (w : World) (v : Value) (L : List Int) : Prop := ∃ A c, v = .slice A L.length c ∧ Kd.C (Kd.int .u8) w A L.length L ∧ L.length ≤ c
theorem CI.below {w w' : World} {v : Value} {L : List Int} (h : CI w v L) (hb : Below w.heap.size w w') : CI w' v L := by
  obtain ⟨A, c, h0, h1, h2⟩ := h
  exact ⟨A, c, h0, Kd.C_below h1 hb, h2⟩
theorem CU.below {w w' : World} {v : Value} {L : List Int} (h : CU w v L) (hb : Below w.heap.size w w') : CU w' v L := by
  obtain ⟨A, c, h0, h1, h2⟩ := h
  exact ⟨A, c, h0, Kd.C_below h1 hb, h2⟩
theorem CI.R {w : World} {v : Value} {L : List Int} {base : Nat} {ok : Nat → Prop} (h : Kd.R (Kd.int .i64) 3 w base ok v L) : CI w v L := by
  obtain ⟨A, c, rfl⟩ := Kd.R_slice h
  exact ⟨A, c, rfl, (Kd.R_reads' h).2.2, (Kd.R_reads' h).2.1⟩
theorem CU.R {w : World} {v : Value} {L : List Int} {base : Nat} {ok : Nat → Prop} (h : Kd.R (Kd.int .u8) 5 w base ok v L) : CU w v L := by
  obtain ⟨A, c, rfl⟩ := Kd.R_slice h
  exact ⟨A, c, rfl, (Kd.R_reads' h).2.2, (Kd.R_reads' h).2.1⟩
theorem lit_row (k : IntKind) (w : World) (xs : List Int) (t : TypeId) (fr : Nat × Nat) (hn : xs.length ≤ 9223372036854775807) : Kd.C (Kd.int k) (w.alloc (.cells (xs.map (Value.int k)).toArray t fr)) (some ⟨w.heap.size, 0, none⟩) xs.length xs := by
  refine ⟨rfl, hn, fun _ => ⟨_, rfl, fun j p hp => ⟨[.int k p], rfl, rfl, fun i u hu => ?_⟩⟩⟩
  have hj : j < xs.length := (List.getElem?_eq_some_iff.1 hp).1
  cases i with
  | succ i => simp at hu
  | zero =>
    simp at hu
    subst hu
    have hadd : (⟨w.heap.size, 0, none⟩ : Addr).add (j * 1 + 0) = ⟨w.heap.size, j, none⟩ := by rw [Addr.add_lit]; simp
    show (w.alloc (.cells (xs.map (Value.int k)).toArray t fr)).cell? ((⟨w.heap.size, 0, none⟩ : Addr).add (j * 1 + 0)) = _
    rw [hadd, World.cell?_alloc_mark, List.getElem?_toArray, List.getElem?_map, hp]
    rfl
/-- A plate in a variable of the call's own. -/
def PlateAt (w : World) (g : Nat) (W H : Int) (L : List Int) : Prop := ∃ v, w.heap[g]? = some (.cells #[.int .i64 W, .int .i64 H, v] 24 (0, 0)) ∧ CI w v L
theorem PlateAt.below {w w' : World} {g : Nat} {W H : Int} {L : List Int} (h : PlateAt w g W H L) (hb : Below w.heap.size w w') : PlateAt w' g W H L := by
  obtain ⟨v, h0, h1⟩ := h
  exact ⟨v, blk_below h0 hb, h1.below hb⟩
/-- Four plates of one cell each. -/
def FourAt (w : World) (g : Nat) (x : Nat → Int) : Prop := ∃ v, PAt w g (fun _ => 1) (fun _ => 1) v ∧ ∀ i, i < 4 → CI w (v i) [x i]
theorem FourAt.below {w w' : World} {g : Nat} {x : Nat → Int} (h : FourAt w g x) (hb : Below w.heap.size w w') : FourAt w' g x := by
  obtain ⟨v, h0, h1⟩ := h
  exact ⟨v, blk_below h0 hb, fun i hi => (h1 i hi).below hb⟩
def aw_b1 : List Int := [4, 4, 6, 0, 2, 10, 40, 91, 145, 53]
def aw_b2 : List Int := [4, 4, 2, 0, 4, 0, 2, 10, 5, 110, 72, 64]
theorem a_pack : plates_Pack.f 100 2 2 [0, 0, 0, 5] = some (aw_b1, 0) := by kernel_rfl
theorem a_unpack : plates_Unpack.f 100 aw_b1 = some (2, 2, [0, 0, 0, 5], 0) := by kernel_rfl
theorem a_seal2 : mapsheetsref03_Seal.f 1000 [4, 4, 2, 0, 4, 0, 2, 10] = some aw_b2 := by kernel_rfl
theorem a_unpack2 : plates_Unpack.f 100 aw_b2 = some (0, 0, [], 4) := by kernel_rfl
theorem a_one (x : Int) : mapsheetslaw54_one.f x = some (1, 1, [x]) := rfl
theorem a_lim1 : plates_Limit.f 1 1 [80] 1 1 [60] 1 1 [40] 1 1 [90] 180 = some (1, 1, [40], 1, 1, [30], 1, 1, [20], 1, 1, [90], 0) := by kernel_rfl
theorem a_lim2 : plates_Limit.f 1 1 [80] 1 1 [60] 1 1 [40] 1 1 [90] 50 = some (1, 1, [0], 1, 1, [0], 1, 1, [0], 1, 1, [50], 0) := by kernel_rfl
theorem a_seal1 : mapsheetsref03_Seal.f 1000 [4, 4, 6, 0, 2, 10] = some aw_b1 := by kernel_rfl
theorem a_same1 : mapsheetsref03_Same.f 100 aw_b1 aw_b1 = some true := by kernel_rfl
theorem a_same2 : mapsheetsref54_Same.f 100 2 2 [0, 0, 0, 5] 2 2 [0, 0, 0, 5] = some true := by kernel_rfl
theorem a_four1 : mapsheetsref54_SameFour.f 100 1 1 [40] 1 1 [30] 1 1 [20] 1 1 [90] 1 1 [40] 1 1 [30] 1 1 [20] 1 1 [90] = some true := by kernel_rfl
theorem a_four2 : mapsheetsref54_SameFour.f 100 1 1 [0] 1 1 [0] 1 1 [0] 1 1 [50] 1 1 [0] 1 1 [0] 1 1 [0] 1 1 [50] = some true := by kernel_rfl
theorem a_total : plates_Total.f 100 2 2 [0, 0, 0, 5] = some 5 := by kernel_rfl
theorem a_check : plates_Check.f 100 1 1 [] = some 1 := by kernel_rfl
/-- A plate of one cell. -/
theorem one_lit (x : Int) (w : World) : Calls Try.prog 26 #[.int .i64 x] w fun e w' => ∃ A c, e = .returned (.agg #[.int .i64 1, .int .i64 1, .slice A 1 c]) ∧ CI w' (.slice A 1 c) [x] ∧ Below w.heap.size w w' := by
  refine (mapsheetslaw54_one.calls x 1 1 [x] w (a_one x)).mono ?_
  rintro e w' ⟨v, rfl, ho, hb⟩
  obtain ⟨A, c, rfl⟩ := Kd.R_slice ho
  exact ⟨A, c, rfl, CI.R ho, hb⟩
theorem CI.row {w : World} {A : Option Addr} {n c : Nat} {L : List Int} (h : CI w (.slice A n c) L) : n = L.length ∧ Kd.C (Kd.int .i64) w A L.length L ∧ L.length ≤ c := by
  obtain ⟨A', c', h0, h1, h2⟩ := h
  injection h0 with e1 e2 e3
  subst e1 e3
  exact ⟨e2, h1, h2⟩
theorem CU.row {w : World} {A : Option Addr} {n c : Nat} {L : List Int} (h : CU w (.slice A n c) L) : n = L.length ∧ Kd.C (Kd.int .u8) w A L.length L ∧ L.length ≤ c := by
  obtain ⟨A', c', h0, h1, h2⟩ := h
  injection h0 with e1 e2 e3
  subst e1 e3
  exact ⟨e2, h1, h2⟩
set_option maxHeartbeats 8000000 in
set_option maxRecDepth 100000 in
theorem awake_walk (w : World) : Calls Try.prog 10 #[] w fun e w' => e = .returned (.bool true) ∧ Below w.heap.size w w' := by
  go_enter Try.func10, Try.ntmps10
  go_upto_region 1 with fail
  go_cut [1] (fun v1 wc => ∃ g : Nat, v1 = .pointer (some ⟨g, 0, none⟩) ∧ PlateAt wc g 2 2 [0, 0, 0, 5] ∧ Below w.heap.size w wc)
  case first =>
    go_wp2
    go_meet
    have hb := below_alloc (Below.refl w.heap.size w) (.cells #[.int .i64 0, .int .i64 0, .int .i64 0, .int .i64 5] 3 (0, 0))
    have hn := heap_alloc_new (w.alloc (.cells #[.int .i64 0, .int .i64 0, .int .i64 0, .int .i64 5] 3 (0, 0))) (.cells #[.int .i64 2, .int .i64 2, .slice (some ⟨w.heap.size, 0, none⟩) 4 4] 24 (0, 0))
    refine ⟨_, rfl, ⟨_, by simpa using hn, CI.below ⟨some ⟨w.heap.size, 0, none⟩, 4, rfl, lit_row .i64 w [0, 0, 0, 5] 3 (0, 0) (by decide), by decide⟩ (below_alloc (Below.refl _ _) _)⟩, below_alloc hb _⟩
  case rest =>
  obtain ⟨w1, hw_⟩ : ∃ x : World, x = wc := ⟨_, rfl⟩
  subst hw_
  obtain ⟨g1, rfl, hp1, hb1⟩ := hcut
  have HP1 := Aside0.mk hp1
  have HB := Aside0.mk hb1
  clear hb1
  obtain ⟨v1, hk1, hv1⟩ := hp1
  obtain ⟨A1, c1, rfl, hC1, hl1⟩ := hv1
  have HC1 := Aside0.mk hC1
  have HL1 := Aside0.mk hl1
  have q0 := (blk_cell hk1 0).trans rfl
  have q1 := (blk_cell hk1 1).trans rfl
  have q2 := (blk_cell hk1 2).trans rfl
  clear hk1 hC1 hl1
  go_upto_region 2 with fail
  go_cut [2, 3] (fun v2 v3 wc => v3 = .int .i64 0 ∧ CU wc v2 aw_b1 ∧ Below w1.heap.size w1 wc)
  case first =>
    go_wp2_with (go_at_call 15; (refine (plates_Pack.calls 100 2 2 A1 c1 [0, 0, 0, 5] aw_b1 0 _ HC1.out HL1.out a_pack).mono ?_); rintro e wx ⟨v0, rfl, ho, hb⟩; have HO := Aside0.mk ho; have HBx := Aside0.mk hb; clear ho hb)
    go_meet
    exact ⟨rfl, CU.R HO.out, HBx.out⟩
  case rest =>
  obtain ⟨w2, hw_⟩ : ∃ x : World, x = wc := ⟨_, rfl⟩
  subst hw_
  obtain ⟨rfl, hcu, hb⟩ := hcut
  have HP1n := Aside0.mk (HP1.out.below hb)
  have HBn := Aside0.mk (below_step HB.out hb)
  clear HP1 HB hb HC1 HL1 q0 q1 q2
  have HP1 := HP1n
  have HB := HBn
  clear HP1n HBn
  have HU := Aside0.mk hcu
  obtain ⟨A2, c2, rfl, hC2, hl2⟩ := hcu
  have HC2 := Aside0.mk hC2
  have HL2 := Aside0.mk hl2
  clear hC2 hl2
  go_upto_region 3 with fail
  go_cut [4, 5] (fun v4 v5 wc => v5 = .int .i64 0 ∧ ∃ g, v4 = .pointer (some ⟨g, 0, none⟩) ∧ PlateAt wc g 2 2 [0, 0, 0, 5] ∧ Below w2.heap.size w2 wc)
  case first =>
    go_wp2_with (go_at_call 18; (refine (plates_Unpack.calls 100 A2 c2 aw_b1 2 2 [0, 0, 0, 5] 0 _ HC2.out HL2.out a_unpack).mono ?_); rintro e wx ⟨v0, rfl, ho, hb⟩; obtain ⟨Ax, cx, rfl⟩ := Kd.R_slice ho; have HO := Aside0.mk ho; have HBx := Aside0.mk hb; clear ho hb)
    go_meet
    exact ⟨rfl, _, rfl, ⟨_, heap_alloc_new _ _, (CI.R HO.out).below (below_alloc (Below.refl _ _) _)⟩, below_alloc HBx.out _⟩
  case rest =>
  obtain ⟨w3, hw_⟩ : ∃ x : World, x = wc := ⟨_, rfl⟩
  subst hw_
  obtain ⟨rfl, g4, rfl, hp4, hb⟩ := hcut
  have HP1n := Aside0.mk (HP1.out.below hb)
  have HBn := Aside0.mk (below_step HB.out hb)
  have HUn := Aside0.mk (HU.out.below hb)
  clear HP1 HB HU hb HC2 HL2
  have HP1 := HP1n
  have HB := HBn
  have HU := HUn
  clear HP1n HBn HUn
  have HP4 := Aside0.mk hp4
  clear hp4
  go_upto_region 4 with fail
  go_cut [7] (fun v7 wc => v7 = .int .i64 4 ∧ Below w3.heap.size w3 wc)
  case first =>
    have HLt : Aside0 (Kd.C (Kd.int .u8) (w3.alloc (.cells #[.int .u8 4, .int .u8 4, .int .u8 2, .int .u8 0, .int .u8 4, .int .u8 0, .int .u8 2, .int .u8 10] 5 (0, 0))) (some ⟨w3.heap.size, 0, none⟩) 8 [4, 4, 2, 0, 4, 0, 2, 10]) := ⟨lit_row .u8 w3 [4, 4, 2, 0, 4, 0, 2, 10] 5 (0, 0) (by decide)⟩
    go_wp2_with (first
      | (go_at_call 25; (refine (mapsheetsref03_Seal.calls 1000 (some ⟨w3.heap.size, 0, none⟩) 8 [4, 4, 2, 0, 4, 0, 2, 10] aw_b2 _ HLt.out (by decide) a_seal2).mono ?_); rintro e wx ⟨v0, rfl, ho, hb⟩; obtain ⟨Ax, cx, rfl⟩ := Kd.R_slice ho; have HO := Aside0.mk ho; have HBx := Aside0.mk (below_step (below_alloc (Below.refl w3.heap.size w3) _) hb); clear ho hb)
      | (go_at_call 18; (refine (plates_Unpack.calls 100 Ax cx aw_b2 0 0 [] 4 _ (Kd.R_reads' HO.out).2.2 (Kd.R_reads' HO.out).2.1 a_unpack2).mono ?_); rintro e wy ⟨v0, rfl, ho, hb⟩; obtain ⟨Ay, cy, rfl⟩ := Kd.R_slice ho; have HBy := Aside0.mk (below_step HBx.out hb); clear ho hb))
    go_meet
    exact ⟨rfl, below_alloc HBy.out _⟩
  case rest =>
  obtain ⟨w4, hw_⟩ : ∃ x : World, x = wc := ⟨_, rfl⟩
  subst hw_
  obtain ⟨rfl, hb⟩ := hcut
  have HP1n := Aside0.mk (HP1.out.below hb)
  have HP4n := Aside0.mk (HP4.out.below hb)
  have HBn := Aside0.mk (below_step HB.out hb)
  have HUn := Aside0.mk (HU.out.below hb)
  clear HP1 HP4 HB HU hb
  have HP1 := HP1n
  have HP4 := HP4n
  have HB := HBn
  have HU := HUn
  clear HP1n HP4n HBn HUn
  go_upto_region 5 with fail
  go_cut [8] (fun v8 wc => ∃ g, v8 = .pointer (some ⟨g, 0, none⟩) ∧ FourAt wc g (sel4 80 60 40 90) ∧ Below w4.heap.size w4 wc)
  case first =>
    go_wp2_with (first
      | (have _t := HX2; go_at_call 26; (refine (one_lit 90 _).mono ?_); rintro e wy ⟨A8, c8, rfl, hc, hb⟩; have HX3 := Aside0.mk hc; have n0 := Aside0.mk (HX0.out.below hb); have n1 := Aside0.mk (HX1.out.below hb); have n2 := Aside0.mk (HX2.out.below hb); have nb := Aside0.mk (below_step HBx.out hb); clear HX0 HX1 HX2 HBx hc hb)
      | (have _t := HX1; go_at_call 26; (refine (one_lit 40 _).mono ?_); rintro e wy ⟨A7, c7, rfl, hc, hb⟩; have HX2 := Aside0.mk hc; have n0 := Aside0.mk (HX0.out.below hb); have n1 := Aside0.mk (HX1.out.below hb); have nb := Aside0.mk (below_step HBx.out hb); clear HX0 HX1 HBx hc hb; have HX0 := n0; have HX1 := n1; have HBx := nb; clear n0 n1 nb)
      | (have _t := HX0; go_at_call 26; (refine (one_lit 60 _).mono ?_); rintro e wy ⟨A6, c6, rfl, hc, hb⟩; have HX1 := Aside0.mk hc; have n0 := Aside0.mk (HX0.out.below hb); have nb := Aside0.mk (below_step HBx.out hb); clear HX0 HBx hc hb; have HX0 := n0; have HBx := nb; clear n0 nb)
      | (go_at_call 26; (refine (one_lit 80 _).mono ?_); rintro e wy ⟨A5, c5, rfl, hc, hb⟩; have HX0 := Aside0.mk hc; have HBx := Aside0.mk hb; clear hc hb))
    go_meet
    refine ⟨_, rfl, ⟨sel4 (.slice A5 1 c5) (.slice A6 1 c6) (.slice A7 1 c7) (.slice A8 1 c8), heap_alloc_new _ _, fun i hi => ?_⟩, below_alloc nb.out _⟩
    rcases i with _ | _ | _ | _ | i
    · exact n0.out.below (below_alloc (Below.refl _ _) _)
    · exact n1.out.below (below_alloc (Below.refl _ _) _)
    · exact n2.out.below (below_alloc (Below.refl _ _) _)
    · exact HX3.out.below (below_alloc (Below.refl _ _) _)
    · omega
  case rest =>
  obtain ⟨w5, hw_⟩ : ∃ x : World, x = wc := ⟨_, rfl⟩
  subst hw_
  obtain ⟨g8, rfl, hf8, hb⟩ := hcut
  have HP1n := Aside0.mk (HP1.out.below hb)
  have HP4n := Aside0.mk (HP4.out.below hb)
  have HBn := Aside0.mk (below_step HB.out hb)
  have HUn := Aside0.mk (HU.out.below hb)
  clear HP1 HP4 HB HU hb
  have HP1 := HP1n
  have HP4 := HP4n
  have HB := HBn
  have HU := HUn
  clear HP1n HP4n HBn HUn
  have HF8 := Aside0.mk hf8
  obtain ⟨vv, hpa, hvv⟩ := hf8
  obtain ⟨Y0, y0, e0, hY0, hy0⟩ := hvv 0 (by omega)
  obtain ⟨Y1, y1, e1, hY1, hy1⟩ := hvv 1 (by omega)
  obtain ⟨Y2, y2, e2, hY2, hy2⟩ := hvv 2 (by omega)
  obtain ⟨Y3, y3, e3, hY3, hy3⟩ := hvv 3 (by omega)
  obtain ⟨⟨q0, q1, q2, q3, q4, q5⟩, q6, q7, q8, q9, q10, q11⟩ := hpa.cells
  rw [e0] at q2
  rw [e1] at q5
  rw [e2] at q8
  rw [e3] at q11
  have HY0 := Aside0.mk hY0
  have HY1 := Aside0.mk hY1
  have HY2 := Aside0.mk hY2
  have HY3 := Aside0.mk hY3
  have Hy := Aside0.mk (And.intro hy0 (And.intro hy1 (And.intro hy2 hy3)))
  clear hvv hpa e0 e1 e2 e3 hY0 hY1 hY2 hY3 hy0 hy1 hy2 hy3
  go_upto_region 6 with fail
  go_cut [9, 10] (fun vp ve wc => ve = .int .i64 0 ∧ ∃ g, vp = .pointer (some ⟨g, 0, none⟩) ∧ FourAt wc g (sel4 40 30 20 90) ∧ Below w5.heap.size w5 wc)
  case first =>
    go_wp2_with (go_at_call 22; (refine (plates_Limit.calls 1 1 Y0 y0 [80] 1 1 Y1 y1 [60] 1 1 Y2 y2 [40] 1 1 Y3 y3 [90] 180 _ _ _ _ _ _ _ _ _ _ _ _ _ _ HY0.out Hy.out.1 HY1.out Hy.out.2.1 HY2.out Hy.out.2.2.1 HY3.out Hy.out.2.2.2 a_lim1).mono ?_); rintro e wx ⟨u0, u1, u2, u3, rfl, ho0, ho1, ho2, ho3, hb⟩; have HO0 := Aside0.mk (CI.R ho0); have HO1 := Aside0.mk (CI.R ho1); have HO2 := Aside0.mk (CI.R ho2); have HO3 := Aside0.mk (CI.R ho3); obtain ⟨U0, d0, rfl⟩ := Kd.R_slice ho0; obtain ⟨U1, d1, rfl⟩ := Kd.R_slice ho1; obtain ⟨U2, d2, rfl⟩ := Kd.R_slice ho2; obtain ⟨U3, d3, rfl⟩ := Kd.R_slice ho3; have HBx := Aside0.mk hb; clear ho0 ho1 ho2 ho3 hb)
    go_meet
    refine ⟨rfl, _, rfl, ⟨sel4 (.slice U0 1 d0) (.slice U1 1 d1) (.slice U2 1 d2) (.slice U3 1 d3), heap_alloc_new _ _, fun i hi => ?_⟩, below_alloc HBx.out _⟩
    rcases i with _ | _ | _ | _ | i
    · exact HO0.out.below (below_alloc (Below.refl _ _) _)
    · exact HO1.out.below (below_alloc (Below.refl _ _) _)
    · exact HO2.out.below (below_alloc (Below.refl _ _) _)
    · exact HO3.out.below (below_alloc (Below.refl _ _) _)
    · omega
  case rest =>
  obtain ⟨w6, hw_⟩ : ∃ x : World, x = wc := ⟨_, rfl⟩
  subst hw_
  clear q0 q1 q2 q3 q4 q5 q6 q7 q8 q9 q10 q11 HY0 HY1 HY2 HY3 Hy
  obtain ⟨rfl, g9, rfl, hf9, hb⟩ := hcut
  have HP1n := Aside0.mk (HP1.out.below hb)
  have HP4n := Aside0.mk (HP4.out.below hb)
  have HBn := Aside0.mk (below_step HB.out hb)
  have HUn := Aside0.mk (HU.out.below hb)
  have HF8n := Aside0.mk (HF8.out.below hb)
  clear HP1 HP4 HB HU HF8 hb
  have HP1 := HP1n
  have HP4 := HP4n
  have HB := HBn
  have HU := HUn
  have HF8 := HF8n
  clear HP1n HP4n HBn HUn HF8n
  have HF9 := Aside0.mk hf9
  clear hf9
  have hf8 := HF8.out
  obtain ⟨vv, hpa, hvv⟩ := hf8
  obtain ⟨Y0, y0, e0, hY0, hy0⟩ := hvv 0 (by omega)
  obtain ⟨Y1, y1, e1, hY1, hy1⟩ := hvv 1 (by omega)
  obtain ⟨Y2, y2, e2, hY2, hy2⟩ := hvv 2 (by omega)
  obtain ⟨Y3, y3, e3, hY3, hy3⟩ := hvv 3 (by omega)
  obtain ⟨⟨q0, q1, q2, q3, q4, q5⟩, q6, q7, q8, q9, q10, q11⟩ := hpa.cells
  rw [e0] at q2
  rw [e1] at q5
  rw [e2] at q8
  rw [e3] at q11
  have HY0 := Aside0.mk hY0
  have HY1 := Aside0.mk hY1
  have HY2 := Aside0.mk hY2
  have HY3 := Aside0.mk hY3
  have Hy := Aside0.mk (And.intro hy0 (And.intro hy1 (And.intro hy2 hy3)))
  clear hvv hpa e0 e1 e2 e3 hY0 hY1 hY2 hY3 hy0 hy1 hy2 hy3
  go_upto_region 7 with fail
  go_cut [11, 12] (fun vp ve wc => ve = .int .i64 0 ∧ ∃ g, vp = .pointer (some ⟨g, 0, none⟩) ∧ FourAt wc g (sel4 0 0 0 50) ∧ Below w6.heap.size w6 wc)
  case first =>
    go_wp2_with (go_at_call 22; (refine (plates_Limit.calls 1 1 Y0 y0 [80] 1 1 Y1 y1 [60] 1 1 Y2 y2 [40] 1 1 Y3 y3 [90] 50 _ _ _ _ _ _ _ _ _ _ _ _ _ _ HY0.out Hy.out.1 HY1.out Hy.out.2.1 HY2.out Hy.out.2.2.1 HY3.out Hy.out.2.2.2 a_lim2).mono ?_); rintro e wx ⟨u0, u1, u2, u3, rfl, ho0, ho1, ho2, ho3, hb⟩; have HO0 := Aside0.mk (CI.R ho0); have HO1 := Aside0.mk (CI.R ho1); have HO2 := Aside0.mk (CI.R ho2); have HO3 := Aside0.mk (CI.R ho3); obtain ⟨U0, d0, rfl⟩ := Kd.R_slice ho0; obtain ⟨U1, d1, rfl⟩ := Kd.R_slice ho1; obtain ⟨U2, d2, rfl⟩ := Kd.R_slice ho2; obtain ⟨U3, d3, rfl⟩ := Kd.R_slice ho3; have HBx := Aside0.mk hb; clear ho0 ho1 ho2 ho3 hb)
    go_meet
    refine ⟨rfl, _, rfl, ⟨sel4 (.slice U0 1 d0) (.slice U1 1 d1) (.slice U2 1 d2) (.slice U3 1 d3), heap_alloc_new _ _, fun i hi => ?_⟩, below_alloc HBx.out _⟩
    rcases i with _ | _ | _ | _ | i
    · exact HO0.out.below (below_alloc (Below.refl _ _) _)
    · exact HO1.out.below (below_alloc (Below.refl _ _) _)
    · exact HO2.out.below (below_alloc (Below.refl _ _) _)
    · exact HO3.out.below (below_alloc (Below.refl _ _) _)
    · omega
  case rest =>
  obtain ⟨w7, hw_⟩ : ∃ x : World, x = wc := ⟨_, rfl⟩
  subst hw_
  clear q0 q1 q2 q3 q4 q5 q6 q7 q8 q9 q10 q11 HY0 HY1 HY2 HY3 Hy
  obtain ⟨rfl, g11, rfl, hf11, hb⟩ := hcut
  clear HF8
  have HP1n := Aside0.mk (HP1.out.below hb)
  have HP4n := Aside0.mk (HP4.out.below hb)
  have HBn := Aside0.mk (below_step HB.out hb)
  have HUn := Aside0.mk (HU.out.below hb)
  have HF9n := Aside0.mk (HF9.out.below hb)
  clear HP1 HP4 HB HU HF9 hb
  have HP1 := HP1n
  have HP4 := HP4n
  have HB := HBn
  have HU := HUn
  have HF9 := HF9n
  clear HP1n HP4n HBn HUn HF9n
  have HF11 := Aside0.mk hf11
  clear hf11
  obtain ⟨v1, hk1, A1, c1, rfl, hC1, hl1⟩ := HP1.out
  have HC1 := Aside0.mk hC1
  have HL1 := Aside0.mk hl1
  obtain ⟨v4, hk4, A4, c4, rfl, hC4, hl4⟩ := HP4.out
  have HC4 := Aside0.mk hC4
  have HL4 := Aside0.mk hl4
  have HCU := Aside0.mk HU.out.row.2
  have HK1 := Aside0.mk hk1
  have HK4 := Aside0.mk hk4
  clear hC1 hl1 hC4 hl4 hk1 hk4
  go_upto_region 8 with fail
  go_cut [68] (fun v68 wc => v68 = .bool false ∧ Below w7.heap.size w7 wc)
  case first =>
    have HLt : Aside0 (Kd.C (Kd.int .u8) (w7.alloc (.cells #[.int .u8 4, .int .u8 4, .int .u8 6, .int .u8 0, .int .u8 2, .int .u8 10] 5 (0, 0))) (some ⟨w7.heap.size, 0, none⟩) 6 [4, 4, 6, 0, 2, 10]) := ⟨lit_row .u8 w7 [4, 4, 6, 0, 2, 10] 5 (0, 0) (by decide)⟩
    go_wp2_with (first
      | (go_at_call 25; (refine (mapsheetsref03_Seal.calls 1000 (some ⟨w7.heap.size, 0, none⟩) 6 [4, 4, 6, 0, 2, 10] aw_b1 _ HLt.out (by decide) a_seal1).mono ?_); rintro e wx ⟨v0, rfl, ho, hb⟩; obtain ⟨Ax, cx, rfl⟩ := Kd.R_slice ho; have HO := Aside0.mk ho; have HBx := Aside0.mk (below_step (below_alloc (Below.refl w7.heap.size w7) _) hb); have p10 := (blk_cell (blk_below HK1.out HBx.out) 0).trans rfl; have p11 := (blk_cell (blk_below HK1.out HBx.out) 1).trans rfl; have p12 := (blk_cell (blk_below HK1.out HBx.out) 2).trans rfl; have p40 := (blk_cell (blk_below HK4.out HBx.out) 0).trans rfl; have p41 := (blk_cell (blk_below HK4.out HBx.out) 1).trans rfl; have p42 := (blk_cell (blk_below HK4.out HBx.out) 2).trans rfl; clear ho hb)
      | (go_at_call 17; (refine (mapsheetsref03_Same.calls 100 A2 c2 aw_b1 Ax cx aw_b1 true _ (Kd.C_below HCU.out.1 HBx.out) HCU.out.2 (Kd.R_reads' HO.out).2.2 (Kd.R_reads' HO.out).2.1 a_same1).mono ?_); rintro e wy ⟨rfl, ⟨nd, rfl⟩⟩)
      | (go_at_call 19; (refine (mapsheetsref54_Same.calls 100 2 2 A1 c1 [0, 0, 0, 5] 2 2 A4 c4 [0, 0, 0, 5] true _ (Kd.C_drewN (Kd.C_below HC1.out HBx.out) _) HL1.out (Kd.C_drewN (Kd.C_below HC4.out HBx.out) _) HL4.out a_same2).mono ?_); rintro e wz ⟨rfl, hb⟩; have HBz := Aside0.mk (below_step (pw_below_drewN HBx.out _) hb); clear hb))
    go_meet
    exact ⟨rfl, HBz.out⟩
  case rest =>
  obtain ⟨w8, hw_⟩ : ∃ x : World, x = wc := ⟨_, rfl⟩
  subst hw_
  obtain ⟨rfl, hb⟩ := hcut
  clear HC1 HL1 HC4 HL4 HCU HK1 HK4 HP4 HU
  have HP1n := Aside0.mk (HP1.out.below hb)
  have HBn := Aside0.mk (below_step HB.out hb)
  have HF9n := Aside0.mk (HF9.out.below hb)
  have HF11n := Aside0.mk (HF11.out.below hb)
  clear HP1 HB HF9 HF11 hb
  have HP1 := HP1n
  have HB := HBn
  have HF9 := HF9n
  have HF11 := HF11n
  clear HP1n HBn HF9n HF11n
  obtain ⟨v1, hk1, A1, c1, rfl, hC1, hl1⟩ := HP1.out
  have HC1 := Aside0.mk hC1
  have HL1 := Aside0.mk hl1
  have pc0 := (blk_cell hk1 0).trans rfl
  have pc1 := (blk_cell hk1 1).trans rfl
  have pc2 := (blk_cell hk1 2).trans rfl
  clear hC1 hl1 hk1
  obtain ⟨u9, hpa, hvv⟩ := HF9.out
  obtain ⟨U90, d90, e0, hY0, hy0⟩ := hvv 0 (by omega)
  obtain ⟨U91, d91, e1, hY1, hy1⟩ := hvv 1 (by omega)
  obtain ⟨U92, d92, e2, hY2, hy2⟩ := hvv 2 (by omega)
  obtain ⟨U93, d93, e3, hY3, hy3⟩ := hvv 3 (by omega)
  obtain ⟨⟨pa0, pa1, pa2, pa3, pa4, pa5⟩, pa6, pa7, pa8, pa9, pa10, pa11⟩ := hpa.cells
  rw [e0] at pa2
  rw [e1] at pa5
  rw [e2] at pa8
  rw [e3] at pa11
  have HY90 := Aside0.mk hY0
  have Hy90 := Aside0.mk hy0
  have HY91 := Aside0.mk hY1
  have Hy91 := Aside0.mk hy1
  have HY92 := Aside0.mk hY2
  have Hy92 := Aside0.mk hy2
  have HY93 := Aside0.mk hY3
  have Hy93 := Aside0.mk hy3
  clear hpa hvv e0 e1 e2 e3 hY0 hY1 hY2 hY3 hy0 hy1 hy2 hy3
  obtain ⟨u11, hpa, hvv⟩ := HF11.out
  obtain ⟨U110, d110, e0, hY0, hy0⟩ := hvv 0 (by omega)
  obtain ⟨U111, d111, e1, hY1, hy1⟩ := hvv 1 (by omega)
  obtain ⟨U112, d112, e2, hY2, hy2⟩ := hvv 2 (by omega)
  obtain ⟨U113, d113, e3, hY3, hy3⟩ := hvv 3 (by omega)
  obtain ⟨⟨pb0, pb1, pb2, pb3, pb4, pb5⟩, pb6, pb7, pb8, pb9, pb10, pb11⟩ := hpa.cells
  rw [e0] at pb2
  rw [e1] at pb5
  rw [e2] at pb8
  rw [e3] at pb11
  have HY110 := Aside0.mk hY0
  have Hy110 := Aside0.mk hy0
  have HY111 := Aside0.mk hY1
  have Hy111 := Aside0.mk hy1
  have HY112 := Aside0.mk hY2
  have Hy112 := Aside0.mk hy2
  have HY113 := Aside0.mk hY3
  have Hy113 := Aside0.mk hy3
  clear hpa hvv e0 e1 e2 e3 hY0 hY1 hY2 hY3 hy0 hy1 hy2 hy3
  have HQ : Aside0 (w8.cell? ⟨g9, 0, none⟩ = some (.int .i64 1) ∧ w8.cell? ⟨g9, 1, none⟩ = some (.int .i64 1) ∧ w8.cell? ⟨g9, 2, none⟩ = some (.slice U90 1 d90) ∧ w8.cell? ⟨g9, 3, none⟩ = some (.int .i64 1) ∧ w8.cell? ⟨g9, 4, none⟩ = some (.int .i64 1) ∧ w8.cell? ⟨g9, 5, none⟩ = some (.slice U91 1 d91) ∧ w8.cell? ⟨g9, 6, none⟩ = some (.int .i64 1) ∧ w8.cell? ⟨g9, 7, none⟩ = some (.int .i64 1) ∧ w8.cell? ⟨g9, 8, none⟩ = some (.slice U92 1 d92) ∧ w8.cell? ⟨g9, 9, none⟩ = some (.int .i64 1) ∧ w8.cell? ⟨g9, 10, none⟩ = some (.int .i64 1) ∧ w8.cell? ⟨g9, 11, none⟩ = some (.slice U93 1 d93) ∧ w8.cell? ⟨g11, 0, none⟩ = some (.int .i64 1) ∧ w8.cell? ⟨g11, 1, none⟩ = some (.int .i64 1) ∧ w8.cell? ⟨g11, 2, none⟩ = some (.slice U110 1 d110) ∧ w8.cell? ⟨g11, 3, none⟩ = some (.int .i64 1) ∧ w8.cell? ⟨g11, 4, none⟩ = some (.int .i64 1) ∧ w8.cell? ⟨g11, 5, none⟩ = some (.slice U111 1 d111) ∧ w8.cell? ⟨g11, 6, none⟩ = some (.int .i64 1) ∧ w8.cell? ⟨g11, 7, none⟩ = some (.int .i64 1) ∧ w8.cell? ⟨g11, 8, none⟩ = some (.slice U112 1 d112) ∧ w8.cell? ⟨g11, 9, none⟩ = some (.int .i64 1) ∧ w8.cell? ⟨g11, 10, none⟩ = some (.int .i64 1) ∧ w8.cell? ⟨g11, 11, none⟩ = some (.slice U113 1 d113) ∧ w8.cell? ⟨g1, 0, none⟩ = some (.int .i64 2) ∧ w8.cell? ⟨g1, 1, none⟩ = some (.int .i64 2) ∧ w8.cell? ⟨g1, 2, none⟩ = some (.slice A1 4 c1)) := ⟨⟨pa0, pa1, pa2, pa3, pa4, pa5, pa6, pa7, pa8, pa9, pa10, pa11, pb0, pb1, pb2, pb3, pb4, pb5, pb6, pb7, pb8, pb9, pb10, pb11, pc0, pc1, pc2⟩⟩
  have HBz := Aside0.mk (Below.refl w8.heap.size w8)
  clear pa0 pa1 pa2 pa3 pa4 pa5 pa6 pa7 pa8 pa9 pa10 pa11 pb0 pb1 pb2 pb3 pb4 pb5 pb6 pb7 pb8 pb9 pb10 pb11 pc0 pc1 pc2
  go_upto_region 10 with fail
  go_region_held3 (fun w' => (w'.cell? ⟨g9, 0, none⟩ = some (.int .i64 1) ∧ w'.cell? ⟨g9, 1, none⟩ = some (.int .i64 1) ∧ w'.cell? ⟨g9, 2, none⟩ = some (.slice U90 1 d90) ∧ w'.cell? ⟨g9, 3, none⟩ = some (.int .i64 1) ∧ w'.cell? ⟨g9, 4, none⟩ = some (.int .i64 1) ∧ w'.cell? ⟨g9, 5, none⟩ = some (.slice U91 1 d91) ∧ w'.cell? ⟨g9, 6, none⟩ = some (.int .i64 1) ∧ w'.cell? ⟨g9, 7, none⟩ = some (.int .i64 1) ∧ w'.cell? ⟨g9, 8, none⟩ = some (.slice U92 1 d92) ∧ w'.cell? ⟨g9, 9, none⟩ = some (.int .i64 1) ∧ w'.cell? ⟨g9, 10, none⟩ = some (.int .i64 1) ∧ w'.cell? ⟨g9, 11, none⟩ = some (.slice U93 1 d93) ∧ w'.cell? ⟨g11, 0, none⟩ = some (.int .i64 1) ∧ w'.cell? ⟨g11, 1, none⟩ = some (.int .i64 1) ∧ w'.cell? ⟨g11, 2, none⟩ = some (.slice U110 1 d110) ∧ w'.cell? ⟨g11, 3, none⟩ = some (.int .i64 1) ∧ w'.cell? ⟨g11, 4, none⟩ = some (.int .i64 1) ∧ w'.cell? ⟨g11, 5, none⟩ = some (.slice U111 1 d111) ∧ w'.cell? ⟨g11, 6, none⟩ = some (.int .i64 1) ∧ w'.cell? ⟨g11, 7, none⟩ = some (.int .i64 1) ∧ w'.cell? ⟨g11, 8, none⟩ = some (.slice U112 1 d112) ∧ w'.cell? ⟨g11, 9, none⟩ = some (.int .i64 1) ∧ w'.cell? ⟨g11, 10, none⟩ = some (.int .i64 1) ∧ w'.cell? ⟨g11, 11, none⟩ = some (.slice U113 1 d113) ∧ w'.cell? ⟨g1, 0, none⟩ = some (.int .i64 2) ∧ w'.cell? ⟨g1, 1, none⟩ = some (.int .i64 2) ∧ w'.cell? ⟨g1, 2, none⟩ = some (.slice A1 4 c1)))
    ((first | (have HK : Below w8.heap.size w8 _ := HBz.out; obtain ⟨h0, h1, h2, h3, h4, h5, h6, h7, h8, h9, h10, h11, h12, h13, h14, h15, h16, h17, h18, h19, h20, h21, h22, h23, h24, h25, h26⟩ := HQ.out; exact ⟨pw_cell_below HK h0, pw_cell_below HK h1, pw_cell_below HK h2, pw_cell_below HK h3, pw_cell_below HK h4, pw_cell_below HK h5, pw_cell_below HK h6, pw_cell_below HK h7, pw_cell_below HK h8, pw_cell_below HK h9, pw_cell_below HK h10, pw_cell_below HK h11, pw_cell_below HK h12, pw_cell_below HK h13, pw_cell_below HK h14, pw_cell_below HK h15, pw_cell_below HK h16, pw_cell_below HK h17, pw_cell_below HK h18, pw_cell_below HK h19, pw_cell_below HK h20, pw_cell_below HK h21, pw_cell_below HK h22, pw_cell_below HK h23, pw_cell_below HK h24, pw_cell_below HK h25, pw_cell_below HK h26⟩) | (have HK : Below w8.heap.size w8 _ := below_drew HBz.out; obtain ⟨h0, h1, h2, h3, h4, h5, h6, h7, h8, h9, h10, h11, h12, h13, h14, h15, h16, h17, h18, h19, h20, h21, h22, h23, h24, h25, h26⟩ := HQ.out; exact ⟨pw_cell_below HK h0, pw_cell_below HK h1, pw_cell_below HK h2, pw_cell_below HK h3, pw_cell_below HK h4, pw_cell_below HK h5, pw_cell_below HK h6, pw_cell_below HK h7, pw_cell_below HK h8, pw_cell_below HK h9, pw_cell_below HK h10, pw_cell_below HK h11, pw_cell_below HK h12, pw_cell_below HK h13, pw_cell_below HK h14, pw_cell_below HK h15, pw_cell_below HK h16, pw_cell_below HK h17, pw_cell_below HK h18, pw_cell_below HK h19, pw_cell_below HK h20, pw_cell_below HK h21, pw_cell_below HK h22, pw_cell_below HK h23, pw_cell_below HK h24, pw_cell_below HK h25, pw_cell_below HK h26⟩)))
    (first
      | (have _t := HX3; go_at_call 24; (refine (mapsheetsref54_SameFour.calls 100 1 1 U90 d90 [40] 1 1 U91 d91 [30] 1 1 U92 d92 [20] 1 1 U93 d93 [90] 1 1 AX0 cX0 [40] 1 1 AX1 cX1 [30] 1 1 AX2 cX2 [20] 1 1 AX3 cX3 [90] true _ (Kd.C_below HY90.out HBz.out) Hy90.out (Kd.C_below HY91.out HBz.out) Hy91.out (Kd.C_below HY92.out HBz.out) Hy92.out (Kd.C_below HY93.out HBz.out) Hy93.out HX0.out.row.2.1 HX0.out.row.2.2 HX1.out.row.2.1 HX1.out.row.2.2 HX2.out.row.2.1 HX2.out.row.2.2 HX3.out.row.2.1 HX3.out.row.2.2 a_four1).mono ?_); rintro e wy ⟨rfl, hb⟩; have nb : Aside0 (Below w8.heap.size w8 wy) := ⟨by first | exact below_step HBz.out hb | exact below_step (below_drew HBz.out) hb⟩; clear HBz; have HBz := nb; clear nb; clear HX0 HX1 HX2 HX3 hb)
      | (have _t := HZ3; go_at_call 24; (refine (mapsheetsref54_SameFour.calls 100 1 1 U110 d110 [0] 1 1 U111 d111 [0] 1 1 U112 d112 [0] 1 1 U113 d113 [50] 1 1 AZ0 cZ0 [0] 1 1 AZ1 cZ1 [0] 1 1 AZ2 cZ2 [0] 1 1 AZ3 cZ3 [50] true _ (Kd.C_below HY110.out HBz.out) Hy110.out (Kd.C_below HY111.out HBz.out) Hy111.out (Kd.C_below HY112.out HBz.out) Hy112.out (Kd.C_below HY113.out HBz.out) Hy113.out HZ0.out.row.2.1 HZ0.out.row.2.2 HZ1.out.row.2.1 HZ1.out.row.2.2 HZ2.out.row.2.1 HZ2.out.row.2.2 HZ3.out.row.2.1 HZ3.out.row.2.2 a_four2).mono ?_); rintro e wy ⟨rfl, hb⟩; have nb : Aside0 (Below w8.heap.size w8 wy) := ⟨by first | exact below_step HBz.out hb | exact below_step (below_drew HBz.out) hb⟩; clear HBz; have HBz := nb; clear nb; clear HZ0 HZ1 HZ2 HZ3 hb)
      | (have _t := HX2; go_at_call 26; (refine (one_lit 90 _).mono ?_); rintro e wy ⟨AX3, cX3, rfl, hc, hb⟩; have nb : Aside0 (Below w8.heap.size w8 wy) := ⟨by first | exact below_step HBz.out hb | exact below_step (below_drew HBz.out) hb⟩; clear HBz; have HBz := nb; clear nb; have HX3 := Aside0.mk hc; have n_ := Aside0.mk (HX0.out.below hb); clear HX0; have HX0 := n_; clear n_; have n_ := Aside0.mk (HX1.out.below hb); clear HX1; have HX1 := n_; clear n_; have n_ := Aside0.mk (HX2.out.below hb); clear HX2; have HX2 := n_; clear n_; clear hc hb)
      | (have _t := HX1; go_at_call 26; (refine (one_lit 20 _).mono ?_); rintro e wy ⟨AX2, cX2, rfl, hc, hb⟩; have nb : Aside0 (Below w8.heap.size w8 wy) := ⟨by first | exact below_step HBz.out hb | exact below_step (below_drew HBz.out) hb⟩; clear HBz; have HBz := nb; clear nb; have HX2 := Aside0.mk hc; have n_ := Aside0.mk (HX0.out.below hb); clear HX0; have HX0 := n_; clear n_; have n_ := Aside0.mk (HX1.out.below hb); clear HX1; have HX1 := n_; clear n_; clear hc hb)
      | (have _t := HX0; go_at_call 26; (refine (one_lit 30 _).mono ?_); rintro e wy ⟨AX1, cX1, rfl, hc, hb⟩; have nb : Aside0 (Below w8.heap.size w8 wy) := ⟨by first | exact below_step HBz.out hb | exact below_step (below_drew HBz.out) hb⟩; clear HBz; have HBz := nb; clear nb; have HX1 := Aside0.mk hc; have n_ := Aside0.mk (HX0.out.below hb); clear HX0; have HX0 := n_; clear n_; clear hc hb)
      | (go_at_call 26; (refine (one_lit 40 _).mono ?_); rintro e wy ⟨AX0, cX0, rfl, hc, hb⟩; have nb : Aside0 (Below w8.heap.size w8 wy) := ⟨by first | exact below_step HBz.out hb | exact below_step (below_drew HBz.out) hb⟩; clear HBz; have HBz := nb; clear nb; have HX0 := Aside0.mk hc; clear hc hb)
      | (have _t := HZ2; go_at_call 26; (refine (one_lit 50 _).mono ?_); rintro e wy ⟨AZ3, cZ3, rfl, hc, hb⟩; have nb : Aside0 (Below w8.heap.size w8 wy) := ⟨by first | exact below_step HBz.out hb | exact below_step (below_drew HBz.out) hb⟩; clear HBz; have HBz := nb; clear nb; have HZ3 := Aside0.mk hc; have n_ := Aside0.mk (HZ0.out.below hb); clear HZ0; have HZ0 := n_; clear n_; have n_ := Aside0.mk (HZ1.out.below hb); clear HZ1; have HZ1 := n_; clear n_; have n_ := Aside0.mk (HZ2.out.below hb); clear HZ2; have HZ2 := n_; clear n_; clear hc hb)
      | (have _t := HZ1; go_at_call 26; (refine (one_lit 0 _).mono ?_); rintro e wy ⟨AZ2, cZ2, rfl, hc, hb⟩; have nb : Aside0 (Below w8.heap.size w8 wy) := ⟨by first | exact below_step HBz.out hb | exact below_step (below_drew HBz.out) hb⟩; clear HBz; have HBz := nb; clear nb; have HZ2 := Aside0.mk hc; have n_ := Aside0.mk (HZ0.out.below hb); clear HZ0; have HZ0 := n_; clear n_; have n_ := Aside0.mk (HZ1.out.below hb); clear HZ1; have HZ1 := n_; clear n_; clear hc hb)
      | (have _t := HZ0; go_at_call 26; (refine (one_lit 0 _).mono ?_); rintro e wy ⟨AZ1, cZ1, rfl, hc, hb⟩; have nb : Aside0 (Below w8.heap.size w8 wy) := ⟨by first | exact below_step HBz.out hb | exact below_step (below_drew HBz.out) hb⟩; clear HBz; have HBz := nb; clear nb; have HZ1 := Aside0.mk hc; have n_ := Aside0.mk (HZ0.out.below hb); clear HZ0; have HZ0 := n_; clear n_; clear hc hb)
      | (go_at_call 26; (refine (one_lit 0 _).mono ?_); rintro e wy ⟨AZ0, cZ0, rfl, hc, hb⟩; have nb : Aside0 (Below w8.heap.size w8 wy) := ⟨by first | exact below_step HBz.out hb | exact below_step (below_drew HBz.out) hb⟩; clear HBz; have HBz := nb; clear nb; have HZ0 := Aside0.mk hc; clear hc hb)
      | (go_at_call 13; (refine (plates_Total.calls 100 2 2 A1 c1 [0, 0, 0, 5] 5 _ (Kd.C_below HC1.out HBz.out) HL1.out a_total).mono ?_); rintro e wy ⟨rfl, hb⟩; have nb : Aside0 (Below w8.heap.size w8 wy) := ⟨by first | exact below_step HBz.out hb | exact below_step (below_drew HBz.out) hb⟩; clear HBz; have HBz := nb; clear nb; clear hb)
      | (go_at_call 11; (refine (plates_Check.calls 100 1 1 none 0 [] 1 _ ⟨rfl, by decide, fun h => absurd h (by decide)⟩ (by decide) a_check).mono ?_); rintro e wy ⟨rfl, hb⟩; have nb : Aside0 (Below w8.heap.size w8 wy) := ⟨by first | exact below_step HBz.out hb | exact below_step (below_drew HBz.out) hb⟩; clear HBz; have HBz := nb; clear nb; clear hb))
  all_goals (go_wp2_with fail)
  all_goals go_ret
  all_goals exact ⟨rfl, below_step HB.out HBz.out⟩
def mapsheetslaw54_awake.f : Option Bool := some true
theorem mapsheetslaw54_awake.calls (r : Bool) (w : World) (h : mapsheetslaw54_awake.f = some r) : Calls Try.prog 10 #[] w fun e w' => e = .returned (.bool r) ∧ Below w.heap.size w w' := by
  injection h with h
  subst h
  exact awake_walk w

/-! ### mapsheetsref54_sized: function 29 -/
def mapsheetsref54_sized.f (a0 : Int) (a1 : Int) : Option (Bool) := if a0 ≥ 1 then (if a0 ≤ 256 then (if a1 ≥ 1 then (some (decide (a1 ≤ 256))) else (some false)) else (some false)) else (some false)
set_option maxHeartbeats 8000000 in
set_option maxRecDepth 100000 in
theorem mapsheetsref54_sized.calls (a0 : Int) (a1 : Int) (r : Bool) (w : World) (h : mapsheetsref54_sized.f a0 a1 = some r) :
    Calls Try.prog 29 #[.int .i64 a0, .int .i64 a1] w fun e w' => e = .returned (.bool r) ∧ Drawn0 w w' := by
  have H : (if a0 ≥ 1 then (if a0 ≤ 256 then (if a1 ≥ 1 then (some (decide (a1 ≤ 256))) else (some false)) else (some false)) else (some false)) = some r := h
  clear h
  by_cases c3 : a0 ≥ 1
  · rw [if_pos c3] at H
    have c3b0 : decide (1 ≤ a0) = true := decide_eq_true c3
    clear c3
    by_cases c4 : a0 ≤ 256
    · rw [if_pos c4] at H
      have c4b0 : decide (a0 ≤ 256) = true := decide_eq_true c4
      clear c4
      by_cases c5 : a1 ≥ 1
      · rw [if_pos c5] at H
        have c5b0 : decide (1 ≤ a1) = true := decide_eq_true c5
        clear c5
        obtain rfl := Option.some.inj H
        go_enter Try.func29, Try.ntmps29
        go_wp2
        go_ret
        exact ⟨by first | rfl | (simp; done) | (simp [*]; done), by repeat (first | exact Drawn0.refl _ | apply Drawn0.step)⟩
      · rw [if_neg c5] at H
        have c5b0 : decide (1 ≤ a1) = false := decide_eq_false c5
        clear c5
        obtain rfl := Option.some.inj H
        go_enter Try.func29, Try.ntmps29
        go_wp2
        go_ret
        exact ⟨by first | rfl | (simp; done) | (simp [*]; done), by repeat (first | exact Drawn0.refl _ | apply Drawn0.step)⟩
    · rw [if_neg c4] at H
      have c4b0 : decide (a0 ≤ 256) = false := decide_eq_false c4
      clear c4
      obtain rfl := Option.some.inj H
      go_enter Try.func29, Try.ntmps29
      go_wp2
      go_ret
      exact ⟨by first | rfl | (simp; done) | (simp [*]; done), by repeat (first | exact Drawn0.refl _ | apply Drawn0.step)⟩
  · rw [if_neg c3] at H
    have c3b0 : decide (1 ≤ a0) = false := decide_eq_false c3
    clear c3
    obtain rfl := Option.some.inj H
    go_enter Try.func29, Try.ntmps29
    go_wp2
    go_ret
    exact ⟨by first | rfl | (simp; done) | (simp [*]; done), by repeat (first | exact Drawn0.refl _ | apply Drawn0.step)⟩

/-! ### mapsheetsref54_Check: function 12 -/
def mapsheetsref54_Check.l0 : Nat → Int → Int → Int → List Int → Option (Int)
  | 0, _, _, _, _ => none
  | k + 1, x3, x211000, x211001, x211002 => if x3 < (x211002.length : Int) then (if 0 ≤ x3 then (if (rd x211002 x3) < 0 then (some 2) else (if (rd x211002 x3) > 100 then (some 2) else (mapsheetsref54_Check.l0 k (wrap64 (x3 + 1)) x211000 x211001 x211002))) else (none)) else (some 0)
def mapsheetsref54_Check.f (k : Nat) (a0_0 : Int) (a0_1 : Int) (l0_2 : List Int) : Option (Int) := (mapsheetsref54_sized.f a0_0 a0_1).bind fun t211 => (if t211 = true then (if (l0_2.length : Int) = (wrap64 (a0_0 * a0_1)) then (mapsheetsref54_Check.l0 k 0 a0_0 a0_1 l0_2) else (some 1)) else (some 2))
theorem mapsheetsref54_Check.mono_l : ∀ k, (∀ y0 y1 y2 y3, LeO (mapsheetsref54_Check.l0 k y0 y1 y2 y3) (mapsheetsref54_Check.l0 (k + 1) y0 y1 y2 y3))
  | 0 => fun _ _ _ _ r h => by simp [mapsheetsref54_Check.l0] at h
  | k + 1 => by
    have ih0 := mapsheetsref54_Check.mono_l k
    · intro y0 y1 y2 y3
      unfold mapsheetsref54_Check.l0
      repeat' first
      | (with_reducible exact ih0 _ _ _ _)
      | (with_reducible exact LeO.refl _)
      | (with_reducible exact LeO.none _)
      | (with_reducible refine LeO.ite ?_ ?_)
      | (with_reducible refine LeO.bind ?_ (fun _ => ?_))
      | exact ih0 _ _ _ _
      | exact LeO.none _
      | refine LeO.ite ?_ ?_
      | refine LeO.bind ?_ (fun _ => ?_)
theorem mapsheetsref54_Check.mono : ∀ a0 a1 a2 k, LeO (mapsheetsref54_Check.f k a0 a1 a2) (mapsheetsref54_Check.f (k + 1) a0 a1 a2) := by
  intro a0 a1 a2 k
  have ih0 := mapsheetsref54_Check.mono_l k
  unfold mapsheetsref54_Check.f
  repeat' first
      | (with_reducible exact ih0 _ _ _ _)
      | (with_reducible exact LeO.refl _)
      | (with_reducible exact LeO.none _)
      | (with_reducible refine LeO.ite ?_ ?_)
      | (with_reducible refine LeO.bind ?_ (fun _ => ?_))
      | exact ih0 _ _ _ _
      | exact LeO.none _
      | refine LeO.ite ?_ ?_
      | refine LeO.bind ?_ (fun _ => ?_)
set_option maxHeartbeats 8000000 in
set_option maxRecDepth 100000 in
theorem mapsheetsref54_Check.calls (k : Nat) (a0_0 : Int) (a0_1 : Int) (A0_2 : Option Addr) (c0_2 : Nat) (l0_2 : List Int) (r : Int) (w : World) (hr0_2 : Kd.C (Kd.int .i64) w A0_2 l0_2.length l0_2) (hc0_2 : l0_2.length ≤ c0_2) (h : mapsheetsref54_Check.f k a0_0 a0_1 l0_2 = some r) :
    Calls Try.prog 12 #[.agg #[.int .i64 a0_0, .int .i64 a0_1, .slice A0_2 l0_2.length c0_2]] w fun e w' => e = .returned (.int .i64 r) ∧ Below w.heap.size w w' := by
  have hu24 := Try.underlying24
  have HR0_2 := Aside0.mk hr0_2
  have HC0_2 := Aside0.mk hc0_2
  clear hr0_2 hc0_2
  have HB := Aside0.mk (Below.refl w.heap.size w)
  have H : ((mapsheetsref54_sized.f a0_0 a0_1).bind fun t211 => (if t211 = true then (if (l0_2.length : Int) = (wrap64 (a0_0 * a0_1)) then (mapsheetsref54_Check.l0 k 0 a0_0 a0_1 l0_2) else (some 1)) else (some 2))) = some r := h
  clear h
  replace H := Option.bind_eq_some_iff.mp H
  obtain ⟨t211, A20, H⟩ := H
  replace H : (if t211 = true then (if (l0_2.length : Int) = (wrap64 (a0_0 * a0_1)) then (mapsheetsref54_Check.l0 k 0 a0_0 a0_1 l0_2) else (some 1)) else (some 2)) = some r := H
  have A2 := Aside0.mk A20
  clear A20
  by_cases c3 : t211 = true
  · subst c3
    have H1 : (if (l0_2.length : Int) = (wrap64 (a0_0 * a0_1)) then (mapsheetsref54_Check.l0 k 0 a0_0 a0_1 l0_2) else (some 1)) = some r := by rw [if_pos rfl] at H; exact H
    clear H
    have H := H1
    clear H1
    by_cases c4 : (l0_2.length : Int) = (wrap64 (a0_0 * a0_1))
    · rw [if_pos c4] at H
      have c4b0 : ((l0_2.length : Int) == (wrap64 (a0_0 * a0_1))) = true := beq_iff_eq.mpr c4
      have c4b1 : ((l0_2.length : Int) != (wrap64 (a0_0 * a0_1))) = false := bne_eq_false_iff_eq.mpr c4
      clear c4
      have H' := Aside0.mk H
      clear H
      go_enter Try.func12, Try.ntmps12
      go_wp2_with (first | ((with_reducible refine gate_dst (N := 1) rfl ?_); refine box_event ?hg (N := 1) ?hd (cs := #[.int .i64 a0_0, .int .i64 a0_1, .slice A0_2 l0_2.length c0_2]) (t := 24) ?hr ?_; (case hd => rfl); (case hg => rfl); (case hr => first | (go_simp; done) | (go_simp; rfl)); intro gb210 hg w5 hbox hb; have n0_ := Aside0.mk (below_step (by repeat (first | (with_reducible first | exact HB.out | apply below_alloc | apply pw_below_drewN | apply below_drew1) | exact HB.out)) hb); have n1_ := Aside0.mk (hbox); have n2_ := Aside0.mk ((by rw [hg]; exact (below_size (by repeat (first | (with_reducible first | exact HB.out | apply below_alloc | apply pw_below_drewN | apply below_drew1) | exact HB.out))) : w.heap.size ≤ gb210)); have n3_ := Aside0.mk ((by rw [hg]; exact (below_size (by repeat (first | (with_reducible first | exact HB.out | apply below_alloc | apply pw_below_drewN | apply below_drew1) | exact HB.out))) : w.heap.size ≤ gb210)); clear HB; have HB := n0_; have BK210 := n1_; have GW210 := n2_; have GE210 := n3_; clear n0_ n1_ n2_ n3_; clear hb hbox hg; have hcz6_0 : w5.cell? ⟨gb210, 0, none⟩ = some (.int .i64 a0_0) := (blk_cell BK210.out 0).trans rfl; have hcz6_1 : w5.cell? ⟨gb210, 1, none⟩ = some (.int .i64 a0_1) := (blk_cell BK210.out 1).trans rfl; have hcz6_2 : w5.cell? ⟨gb210, 2, none⟩ = some (.slice A0_2 l0_2.length c0_2) := (blk_cell BK210.out 2).trans rfl; have hfz6_0 := blk_frozen BK210.out 0; have hfz6_1 := blk_frozen BK210.out 1; have hfz6_2 := blk_frozen BK210.out 2) | ((with_reducible refine gate_callee (f := 29) rfl ?_); refine goesL_ (some 8) rfl rfl Try.func29 (by kernel_rfl) rfl #[.int .i64 a0_0, .int .i64 a0_1] rfl (by (try simp only [List.map_toArray, List.map_cons, List.map_nil]); first | done | rfl | (simp only [List.length_drop, List.length_take]; rfl)) ?_; (with_reducible refine (mapsheetsref54_sized.calls a0_0 a0_1 true _ A2.out).mono ?_); rintro e w' ⟨rfl, ⟨nd, rfl⟩⟩; refine ⟨_, rfl, ?_⟩))
      go_loopg [3] k (fun kq v3 w' => ∃ (x3_1 : Int), v3 = .int .i64 x3_1 ∧ Aside0 (mapsheetsref54_Check.l0 kq x3_1 a0_0 a0_1 l0_2 = some r) ∧ Aside0 (kq ≤ k) ∧ Aside0 (w'.heap[gb210]? = some (.cells #[.int .i64 a0_0, .int .i64 a0_1, (.slice A0_2 l0_2.length c0_2)] 24 (0, 0))) ∧ Aside0 (Below w.heap.size w w'))
      case atStart => exact ⟨(0), (by first | rfl | (simp; done) | (simp [*]; done)), H', ⟨Nat.le_refl _⟩, ⟨by (with_reducible repeat (first | refine blk_drewN ?_ _ | refine blk_drew ?_ | refine blk_alloc ?_ _)); exact BK210.out⟩, ⟨by repeat (first | (with_reducible first | exact HB.out | apply below_alloc | apply pw_below_drewN | apply below_drew1 | refine below_set ?_ GE210.out) | exact HB.out)⟩⟩
      case round =>
        clear H'
        try clear c1
        try clear c2
        try clear p2
        try clear c3
        try clear c4
        try clear c4b0
        try clear c4b1
        try clear p6
        try clear hcz6_0
        try clear hcz6_1
        try clear hcz6_2
        try clear hfz6_0
        try clear hfz6_1
        try clear hfz6_2
        obtain ⟨x3_1, rfl, HA, HK1, BK210, HB⟩ := hrel
        cases gk with
        | zero => exact absurd HA.out (by simp [mapsheetsref54_Check.l0])
        | succ k1 =>
          have H := HA.out
          clear HA
          simp only [mapsheetsref54_Check.l0] at H
          by_cases c7 : x3_1 < (l0_2.length : Int)
          · rw [if_pos c7] at H
            have c7b0 : decide (x3_1 < (l0_2.length : Int)) = true := decide_eq_true c7
            clear c7
            by_cases c8 : 0 ≤ x3_1
            · rw [if_pos c8] at H
              have c8b0 : decide (0 ≤ x3_1) = true := decide_eq_true c8
              clear c8
              by_cases c9 : (rd l0_2 x3_1) < 0
              · rw [if_pos c9] at H
                have c9b0 : decide ((rd l0_2 x3_1) < 0) = true := decide_eq_true c9
                clear c9
                obtain rfl := Option.some.inj H
                have hcz10_0 : wr.cell? ⟨gb210, 0, none⟩ = some (.int .i64 a0_0) := (blk_cell BK210.out 0).trans rfl
                have hcz10_1 : wr.cell? ⟨gb210, 1, none⟩ = some (.int .i64 a0_1) := (blk_cell BK210.out 1).trans rfl
                have hcz10_2 : wr.cell? ⟨gb210, 2, none⟩ = some (.slice A0_2 l0_2.length c0_2) := (blk_cell BK210.out 2).trans rfl
                have hfz10_0 := blk_frozen BK210.out 0
                have hfz10_1 := blk_frozen BK210.out 1
                have hfz10_2 := blk_frozen BK210.out 2
                have p212 : 0 ≤ (x3_1 : Int) := of_decide_eq_true (by first | (with_reducible assumption) | assumption)
                have q212 : x3_1 < (l0_2.length : Int) := of_decide_eq_true (by first | (with_reducible assumption) | assumption)
                obtain ⟨ad212, e212, hx212_0⟩ := Kd.at_int HR0_2.out x3_1 p212 q212
                cases e212
                replace hx212_0 := (HB.out.cell (World.block_lt_of_cell? w _ hx212_0)).trans hx212_0
                replace p212 := eq_true p212
                replace q212 := eq_true q212
                go_wp2
                go_ret
                exact ⟨by first | rfl | (simp [errW_none, errW_some] <;> rfl) | (simp [*, errW_none, errW_some] <;> rfl), by repeat (first | (with_reducible first | exact HB.out | apply below_alloc | apply pw_below_drewN | apply below_drew1 | refine below_set ?_ GE210.out) | exact HB.out)⟩
              · rw [if_neg c9] at H
                have c9b0 : decide ((rd l0_2 x3_1) < 0) = false := decide_eq_false c9
                clear c9
                by_cases c11 : (rd l0_2 x3_1) > 100
                · rw [if_pos c11] at H
                  have c11b0 : decide (100 < (rd l0_2 x3_1)) = true := decide_eq_true c11
                  clear c11
                  obtain rfl := Option.some.inj H
                  have hcz12_0 : wr.cell? ⟨gb210, 0, none⟩ = some (.int .i64 a0_0) := (blk_cell BK210.out 0).trans rfl
                  have hcz12_1 : wr.cell? ⟨gb210, 1, none⟩ = some (.int .i64 a0_1) := (blk_cell BK210.out 1).trans rfl
                  have hcz12_2 : wr.cell? ⟨gb210, 2, none⟩ = some (.slice A0_2 l0_2.length c0_2) := (blk_cell BK210.out 2).trans rfl
                  have hfz12_0 := blk_frozen BK210.out 0
                  have hfz12_1 := blk_frozen BK210.out 1
                  have hfz12_2 := blk_frozen BK210.out 2
                  have p212 : 0 ≤ (x3_1 : Int) := of_decide_eq_true (by first | (with_reducible assumption) | assumption)
                  have q212 : x3_1 < (l0_2.length : Int) := of_decide_eq_true (by first | (with_reducible assumption) | assumption)
                  obtain ⟨ad212, e212, hx212_0⟩ := Kd.at_int HR0_2.out x3_1 p212 q212
                  cases e212
                  replace hx212_0 := (HB.out.cell (World.block_lt_of_cell? w _ hx212_0)).trans hx212_0
                  replace p212 := eq_true p212
                  replace q212 := eq_true q212
                  have p213 : 0 ≤ (x3_1 : Int) := of_decide_eq_true (by first | (with_reducible assumption) | assumption)
                  have q213 : x3_1 < (l0_2.length : Int) := of_decide_eq_true (by first | (with_reducible assumption) | assumption)
                  obtain ⟨ad213, e213, hx213_0⟩ := Kd.at_int HR0_2.out x3_1 p213 q213
                  obtain rfl : ad212 = ad213 := (by injection e213)
                  replace hx213_0 := (HB.out.cell (World.block_lt_of_cell? w _ hx213_0)).trans hx213_0
                  replace p213 := eq_true p213
                  replace q213 := eq_true q213
                  go_wp2
                  go_ret
                  exact ⟨by first | rfl | (simp [errW_none, errW_some] <;> rfl) | (simp [*, errW_none, errW_some] <;> rfl), by repeat (first | (with_reducible first | exact HB.out | apply below_alloc | apply pw_below_drewN | apply below_drew1 | refine below_set ?_ GE210.out) | exact HB.out)⟩
                · rw [if_neg c11] at H
                  have c11b0 : decide (100 < (rd l0_2 x3_1)) = false := decide_eq_false c11
                  clear c11
                  have H' := Aside0.mk H
                  clear H
                  have hcz13_0 : wr.cell? ⟨gb210, 0, none⟩ = some (.int .i64 a0_0) := (blk_cell BK210.out 0).trans rfl
                  have hcz13_1 : wr.cell? ⟨gb210, 1, none⟩ = some (.int .i64 a0_1) := (blk_cell BK210.out 1).trans rfl
                  have hcz13_2 : wr.cell? ⟨gb210, 2, none⟩ = some (.slice A0_2 l0_2.length c0_2) := (blk_cell BK210.out 2).trans rfl
                  have hfz13_0 := blk_frozen BK210.out 0
                  have hfz13_1 := blk_frozen BK210.out 1
                  have hfz13_2 := blk_frozen BK210.out 2
                  have p212 : 0 ≤ (x3_1 : Int) := of_decide_eq_true (by first | (with_reducible assumption) | assumption)
                  have q212 : x3_1 < (l0_2.length : Int) := of_decide_eq_true (by first | (with_reducible assumption) | assumption)
                  obtain ⟨ad212, e212, hx212_0⟩ := Kd.at_int HR0_2.out x3_1 p212 q212
                  cases e212
                  replace hx212_0 := (HB.out.cell (World.block_lt_of_cell? w _ hx212_0)).trans hx212_0
                  replace p212 := eq_true p212
                  replace q212 := eq_true q212
                  have p213 : 0 ≤ (x3_1 : Int) := of_decide_eq_true (by first | (with_reducible assumption) | assumption)
                  have q213 : x3_1 < (l0_2.length : Int) := of_decide_eq_true (by first | (with_reducible assumption) | assumption)
                  obtain ⟨ad213, e213, hx213_0⟩ := Kd.at_int HR0_2.out x3_1 p213 q213
                  obtain rfl : ad212 = ad213 := (by injection e213)
                  replace hx213_0 := (HB.out.cell (World.block_lt_of_cell? w _ hx213_0)).trans hx213_0
                  replace p213 := eq_true p213
                  replace q213 := eq_true q213
                  go_wp2
                  go_roundg k1
                  case measure => have := HK1.out; omega
                  case rel => exact ⟨(wrap64 (x3_1 + 1)), (by first | rfl | (simp; done) | (simp [*]; done)), H', ⟨by have := HK1.out; omega⟩, ⟨by (with_reducible repeat (first | refine blk_drewN ?_ _ | refine blk_drew ?_ | refine blk_alloc ?_ _)); exact BK210.out⟩, ⟨by repeat (first | (with_reducible first | exact HB.out | apply below_alloc | apply pw_below_drewN | apply below_drew1 | refine below_set ?_ GE210.out) | exact HB.out)⟩⟩
            · rw [if_neg c8] at H
              exact absurd H (by simp)
          · rw [if_neg c7] at H
            have c7b0 : decide (x3_1 < (l0_2.length : Int)) = false := decide_eq_false c7
            clear c7
            obtain rfl := Option.some.inj H
            have hcz14_0 : wr.cell? ⟨gb210, 0, none⟩ = some (.int .i64 a0_0) := (blk_cell BK210.out 0).trans rfl
            have hcz14_1 : wr.cell? ⟨gb210, 1, none⟩ = some (.int .i64 a0_1) := (blk_cell BK210.out 1).trans rfl
            have hcz14_2 : wr.cell? ⟨gb210, 2, none⟩ = some (.slice A0_2 l0_2.length c0_2) := (blk_cell BK210.out 2).trans rfl
            have hfz14_0 := blk_frozen BK210.out 0
            have hfz14_1 := blk_frozen BK210.out 1
            have hfz14_2 := blk_frozen BK210.out 2
            go_wp2
            go_ret
            exact ⟨by first | rfl | (simp [errW_none, errW_some] <;> rfl) | (simp [*, errW_none, errW_some] <;> rfl), by repeat (first | (with_reducible first | exact HB.out | apply below_alloc | apply pw_below_drewN | apply below_drew1 | refine below_set ?_ GE210.out) | exact HB.out)⟩
    · rw [if_neg c4] at H
      have c4b0 : ((l0_2.length : Int) == (wrap64 (a0_0 * a0_1))) = false := beq_eq_false_iff_ne.mpr c4
      have c4b1 : ((l0_2.length : Int) != (wrap64 (a0_0 * a0_1))) = true := bne_iff_ne.mpr c4
      obtain rfl := Option.some.inj H
      go_enter Try.func12, Try.ntmps12
      go_wp2_with (first | ((with_reducible refine gate_dst (N := 1) rfl ?_); refine box_event ?hg (N := 1) ?hd (cs := #[.int .i64 a0_0, .int .i64 a0_1, .slice A0_2 l0_2.length c0_2]) (t := 24) ?hr ?_; (case hd => rfl); (case hg => rfl); (case hr => first | (go_simp; done) | (go_simp; rfl)); intro gb210 hg w15 hbox hb; have n0_ := Aside0.mk (below_step (by repeat (first | (with_reducible first | exact HB.out | apply below_alloc | apply pw_below_drewN | apply below_drew1) | exact HB.out)) hb); have n1_ := Aside0.mk (hbox); have n2_ := Aside0.mk ((by rw [hg]; exact (below_size (by repeat (first | (with_reducible first | exact HB.out | apply below_alloc | apply pw_below_drewN | apply below_drew1) | exact HB.out))) : w.heap.size ≤ gb210)); have n3_ := Aside0.mk ((by rw [hg]; exact (below_size (by repeat (first | (with_reducible first | exact HB.out | apply below_alloc | apply pw_below_drewN | apply below_drew1) | exact HB.out))) : w.heap.size ≤ gb210)); clear HB; have HB := n0_; have BK210 := n1_; have GW210 := n2_; have GE210 := n3_; clear n0_ n1_ n2_ n3_; clear hb hbox hg; have hcz16_0 : w15.cell? ⟨gb210, 0, none⟩ = some (.int .i64 a0_0) := (blk_cell BK210.out 0).trans rfl; have hcz16_1 : w15.cell? ⟨gb210, 1, none⟩ = some (.int .i64 a0_1) := (blk_cell BK210.out 1).trans rfl; have hcz16_2 : w15.cell? ⟨gb210, 2, none⟩ = some (.slice A0_2 l0_2.length c0_2) := (blk_cell BK210.out 2).trans rfl; have hfz16_0 := blk_frozen BK210.out 0; have hfz16_1 := blk_frozen BK210.out 1; have hfz16_2 := blk_frozen BK210.out 2) | ((with_reducible refine gate_callee (f := 29) rfl ?_); refine goesL_ (some 8) rfl rfl Try.func29 (by kernel_rfl) rfl #[.int .i64 a0_0, .int .i64 a0_1] rfl (by (try simp only [List.map_toArray, List.map_cons, List.map_nil]); first | done | rfl | (simp only [List.length_drop, List.length_take]; rfl)) ?_; (with_reducible refine (mapsheetsref54_sized.calls a0_0 a0_1 true _ A2.out).mono ?_); rintro e w' ⟨rfl, ⟨nd, rfl⟩⟩; refine ⟨_, rfl, ?_⟩))
      go_ret
      exact ⟨by first | rfl | (simp [errW_none, errW_some] <;> rfl) | (simp [*, errW_none, errW_some] <;> rfl), by repeat (first | (with_reducible first | exact HB.out | apply below_alloc | apply pw_below_drewN | apply below_drew1 | refine below_set ?_ GE210.out) | exact HB.out)⟩
  · replace c3 := Bool.eq_false_iff.mpr c3
    subst c3
    have H1 : (some 2) = some r := by rw [if_neg (show ¬ (false = true) by decide)] at H; exact H
    clear H
    have H := H1
    clear H1
    obtain rfl := Option.some.inj H
    go_enter Try.func12, Try.ntmps12
    go_wp2_with (first | ((with_reducible refine gate_dst (N := 1) rfl ?_); refine box_event ?hg (N := 1) ?hd (cs := #[.int .i64 a0_0, .int .i64 a0_1, .slice A0_2 l0_2.length c0_2]) (t := 24) ?hr ?_; (case hd => rfl); (case hg => rfl); (case hr => first | (go_simp; done) | (go_simp; rfl)); intro gb210 hg w17 hbox hb; have n0_ := Aside0.mk (below_step (by repeat (first | (with_reducible first | exact HB.out | apply below_alloc | apply pw_below_drewN | apply below_drew1) | exact HB.out)) hb); have n1_ := Aside0.mk (hbox); have n2_ := Aside0.mk ((by rw [hg]; exact (below_size (by repeat (first | (with_reducible first | exact HB.out | apply below_alloc | apply pw_below_drewN | apply below_drew1) | exact HB.out))) : w.heap.size ≤ gb210)); have n3_ := Aside0.mk ((by rw [hg]; exact (below_size (by repeat (first | (with_reducible first | exact HB.out | apply below_alloc | apply pw_below_drewN | apply below_drew1) | exact HB.out))) : w.heap.size ≤ gb210)); clear HB; have HB := n0_; have BK210 := n1_; have GW210 := n2_; have GE210 := n3_; clear n0_ n1_ n2_ n3_; clear hb hbox hg; have hcz18_0 : w17.cell? ⟨gb210, 0, none⟩ = some (.int .i64 a0_0) := (blk_cell BK210.out 0).trans rfl; have hcz18_1 : w17.cell? ⟨gb210, 1, none⟩ = some (.int .i64 a0_1) := (blk_cell BK210.out 1).trans rfl; have hcz18_2 : w17.cell? ⟨gb210, 2, none⟩ = some (.slice A0_2 l0_2.length c0_2) := (blk_cell BK210.out 2).trans rfl; have hfz18_0 := blk_frozen BK210.out 0; have hfz18_1 := blk_frozen BK210.out 1; have hfz18_2 := blk_frozen BK210.out 2) | ((with_reducible refine gate_callee (f := 29) rfl ?_); refine goesL_ (some 8) rfl rfl Try.func29 (by kernel_rfl) rfl #[.int .i64 a0_0, .int .i64 a0_1] rfl (by (try simp only [List.map_toArray, List.map_cons, List.map_nil]); first | done | rfl | (simp only [List.length_drop, List.length_take]; rfl)) ?_; (with_reducible refine (mapsheetsref54_sized.calls a0_0 a0_1 false _ A2.out).mono ?_); rintro e w' ⟨rfl, ⟨nd, rfl⟩⟩; refine ⟨_, rfl, ?_⟩))
    go_ret
    exact ⟨by first | rfl | (simp [errW_none, errW_some] <;> rfl) | (simp [*, errW_none, errW_some] <;> rfl), by repeat (first | (with_reducible first | exact HB.out | apply below_alloc | apply pw_below_drewN | apply below_drew1 | refine below_set ?_ GE210.out) | exact HB.out)⟩

/-! ### mapsheetsref54_Total: function 14 -/
def mapsheetsref54_Total.l0 : Nat → Int → Int → Int → Int → List Int → Option (Int)
  | 0, _, _, _, _, _ => none
  | k + 1, x3, x4, x215000, x215001, x215002 => if x4 < (x215002.length : Int) then (if 0 ≤ x4 then (mapsheetsref54_Total.l0 k (wrap64 (x3 + (rd x215002 x4))) (wrap64 (x4 + 1)) x215000 x215001 x215002) else (none)) else (some x3)
def mapsheetsref54_Total.f (k : Nat) (a0_0 : Int) (a0_1 : Int) (l0_2 : List Int) : Option (Int) := (mapsheetsref54_Check.f k a0_0 a0_1 l0_2).bind fun t215 => (if t215 = 0 then (mapsheetsref54_Total.l0 k 0 0 a0_0 a0_1 l0_2) else (some 0))
theorem mapsheetsref54_Total.mono_l : ∀ k, (∀ y0 y1 y2 y3 y4, LeO (mapsheetsref54_Total.l0 k y0 y1 y2 y3 y4) (mapsheetsref54_Total.l0 (k + 1) y0 y1 y2 y3 y4))
  | 0 => fun _ _ _ _ _ r h => by simp [mapsheetsref54_Total.l0] at h
  | k + 1 => by
    have ih0 := mapsheetsref54_Total.mono_l k
    · intro y0 y1 y2 y3 y4
      unfold mapsheetsref54_Total.l0
      repeat' first
      | (with_reducible exact ih0 _ _ _ _ _)
      | (with_reducible exact mapsheetsref54_Check.mono _ _ _ _)
      | (with_reducible exact LeO.refl _)
      | (with_reducible exact LeO.none _)
      | (with_reducible refine LeO.ite ?_ ?_)
      | (with_reducible refine LeO.bind ?_ (fun _ => ?_))
      | exact ih0 _ _ _ _ _
      | exact mapsheetsref54_Check.mono _ _ _ _
      | exact LeO.none _
      | refine LeO.ite ?_ ?_
      | refine LeO.bind ?_ (fun _ => ?_)
theorem mapsheetsref54_Total.mono : ∀ a0 a1 a2 k, LeO (mapsheetsref54_Total.f k a0 a1 a2) (mapsheetsref54_Total.f (k + 1) a0 a1 a2) := by
  intro a0 a1 a2 k
  have ih0 := mapsheetsref54_Total.mono_l k
  unfold mapsheetsref54_Total.f
  repeat' first
      | (with_reducible exact ih0 _ _ _ _ _)
      | (with_reducible exact mapsheetsref54_Check.mono _ _ _ _)
      | (with_reducible exact LeO.refl _)
      | (with_reducible exact LeO.none _)
      | (with_reducible refine LeO.ite ?_ ?_)
      | (with_reducible refine LeO.bind ?_ (fun _ => ?_))
      | exact ih0 _ _ _ _ _
      | exact mapsheetsref54_Check.mono _ _ _ _
      | exact LeO.none _
      | refine LeO.ite ?_ ?_
      | refine LeO.bind ?_ (fun _ => ?_)
set_option maxHeartbeats 8000000 in
set_option maxRecDepth 100000 in
theorem mapsheetsref54_Total.calls (k : Nat) (a0_0 : Int) (a0_1 : Int) (A0_2 : Option Addr) (c0_2 : Nat) (l0_2 : List Int) (r : Int) (w : World) (hr0_2 : Kd.C (Kd.int .i64) w A0_2 l0_2.length l0_2) (hc0_2 : l0_2.length ≤ c0_2) (h : mapsheetsref54_Total.f k a0_0 a0_1 l0_2 = some r) :
    Calls Try.prog 14 #[.agg #[.int .i64 a0_0, .int .i64 a0_1, .slice A0_2 l0_2.length c0_2]] w fun e w' => e = .returned (.int .i64 r) ∧ Below w.heap.size w w' := by
  have hu24 := Try.underlying24
  have HR0_2 := Aside0.mk hr0_2
  have HC0_2 := Aside0.mk hc0_2
  clear hr0_2 hc0_2
  have HB := Aside0.mk (Below.refl w.heap.size w)
  have H : ((mapsheetsref54_Check.f k a0_0 a0_1 l0_2).bind fun t215 => (if t215 = 0 then (mapsheetsref54_Total.l0 k 0 0 a0_0 a0_1 l0_2) else (some 0))) = some r := h
  clear h
  replace H := Option.bind_eq_some_iff.mp H
  obtain ⟨t215, A20, H⟩ := H
  replace H : (if t215 = 0 then (mapsheetsref54_Total.l0 k 0 0 a0_0 a0_1 l0_2) else (some 0)) = some r := H
  have A2 := Aside0.mk A20
  clear A20
  by_cases c3 : t215 = 0
  · rw [if_pos c3] at H
    have c3b0 : (t215 == 0) = true := beq_iff_eq.mpr c3
    have c3b1 : (t215 != 0) = false := bne_eq_false_iff_eq.mpr c3
    clear c3
    have H' := Aside0.mk H
    clear H
    go_enter Try.func14, Try.ntmps14
    go_wp2_with (first | ((with_reducible refine gate_dst (N := 1) rfl ?_); refine box_event ?hg (N := 1) ?hd (cs := #[.int .i64 a0_0, .int .i64 a0_1, .slice A0_2 l0_2.length c0_2]) (t := 24) ?hr ?_; (case hd => rfl); (case hg => rfl); (case hr => first | (go_simp; done) | (go_simp; rfl)); intro gb214 hg w4 hbox hb; have n0_ := Aside0.mk (below_step (by repeat (first | (with_reducible first | exact HB.out | apply below_alloc | apply pw_below_drewN | apply below_drew1) | exact HB.out)) hb); have n1_ := Aside0.mk (hbox); have n2_ := Aside0.mk ((by rw [hg]; exact (below_size (by repeat (first | (with_reducible first | exact HB.out | apply below_alloc | apply pw_below_drewN | apply below_drew1) | exact HB.out))) : w.heap.size ≤ gb214)); have n3_ := Aside0.mk ((by rw [hg]; exact (below_size (by repeat (first | (with_reducible first | exact HB.out | apply below_alloc | apply pw_below_drewN | apply below_drew1) | exact HB.out))) : w.heap.size ≤ gb214)); clear HB; have HB := n0_; have BK214 := n1_; have GW214 := n2_; have GE214 := n3_; clear n0_ n1_ n2_ n3_; clear hb hbox hg; have hcz5_0 : w4.cell? ⟨gb214, 0, none⟩ = some (.int .i64 a0_0) := (blk_cell BK214.out 0).trans rfl; have hcz5_1 : w4.cell? ⟨gb214, 1, none⟩ = some (.int .i64 a0_1) := (blk_cell BK214.out 1).trans rfl; have hcz5_2 : w4.cell? ⟨gb214, 2, none⟩ = some (.slice A0_2 l0_2.length c0_2) := (blk_cell BK214.out 2).trans rfl; have hfz5_0 := blk_frozen BK214.out 0; have hfz5_1 := blk_frozen BK214.out 1; have hfz5_2 := blk_frozen BK214.out 2) | ((with_reducible refine gate_callee (f := 12) rfl ?_); refine goesL_ (some 6) rfl rfl Try.func12 (by kernel_rfl) rfl #[.agg #[.int .i64 a0_0, .int .i64 a0_1, .slice A0_2 l0_2.length c0_2]] rfl (by (try simp only [List.map_toArray, List.map_cons, List.map_nil]); first | done | rfl | (simp only [List.length_drop, List.length_take]; rfl)) ?_; (with_reducible refine (mapsheetsref54_Check.calls k a0_0 a0_1 _ _ l0_2 t215 _ ?side1 ?side2 A2.out).mono ?_); (case side1 => repeat (first | exact (Kd.C_below HR0_2.out HB.out) | (with_reducible refine Kd.C_alloc ?_ _) | (with_reducible refine Kd.C_drewN ?_ _) | (with_reducible refine Kd.C_drew ?_))); (case side2 => exact HC0_2.out); rintro e w6 ⟨rfl, hb⟩; refine ⟨_, rfl, ?_⟩; have n0_ := Aside0.mk (blk_below (g := gb214) (o := .cells #[.int .i64 a0_0, .int .i64 a0_1, .slice A0_2 l0_2.length c0_2] 24 (0, 0)) (by (with_reducible repeat (first | refine blk_drewN ?_ _ | refine blk_drew ?_ | refine blk_alloc ?_ _)); exact BK214.out) hb); have n1_ := Aside0.mk (below_step (by repeat (first | (with_reducible first | exact HB.out | apply below_alloc | apply pw_below_drewN | apply below_drew1 | refine below_set ?_ GE214.out) | exact HB.out)) hb); clear BK214; clear HB; have BK214 := n0_; have HB := n1_; clear n0_ n1_; (try clear hb); (try clear hb2); (try clear hk); (try clear hi)))
    go_loopg [3, 4] k (fun kq v3 v4 w' => ∃ (x3_1 : Int) (x4_1 : Int), v3 = .int .i64 x3_1 ∧ v4 = .int .i64 x4_1 ∧ Aside0 (mapsheetsref54_Total.l0 kq x3_1 x4_1 a0_0 a0_1 l0_2 = some r) ∧ Aside0 (kq ≤ k) ∧ Aside0 (w'.heap[gb214]? = some (.cells #[.int .i64 a0_0, .int .i64 a0_1, (.slice A0_2 l0_2.length c0_2)] 24 (0, 0))) ∧ Aside0 (Below w.heap.size w w'))
    case atStart => exact ⟨(0), (0), (by first | rfl | (simp; done) | (simp [*]; done)), (by first | rfl | (simp; done) | (simp [*]; done)), H', ⟨Nat.le_refl _⟩, ⟨by (with_reducible repeat (first | refine blk_drewN ?_ _ | refine blk_drew ?_ | refine blk_alloc ?_ _)); exact BK214.out⟩, ⟨by repeat (first | (with_reducible first | exact HB.out | apply below_alloc | apply pw_below_drewN | apply below_drew1 | refine below_set ?_ GE214.out) | exact HB.out)⟩⟩
    case round =>
      clear H'
      try clear c1
      try clear p2
      try clear c3
      try clear c3b0
      try clear c3b1
      try clear hcz5_0
      try clear hcz5_1
      try clear hcz5_2
      try clear hfz5_0
      try clear hfz5_1
      try clear hfz5_2
      obtain ⟨x3_1, x4_1, rfl, rfl, HA, HK1, BK214, HB⟩ := hrel
      cases gk with
      | zero => exact absurd HA.out (by simp [mapsheetsref54_Total.l0])
      | succ k1 =>
        have H := HA.out
        clear HA
        simp only [mapsheetsref54_Total.l0] at H
        by_cases c7 : x4_1 < (l0_2.length : Int)
        · rw [if_pos c7] at H
          have c7b0 : decide (x4_1 < (l0_2.length : Int)) = true := decide_eq_true c7
          clear c7
          by_cases c8 : 0 ≤ x4_1
          · rw [if_pos c8] at H
            have c8b0 : decide (0 ≤ x4_1) = true := decide_eq_true c8
            clear c8
            have H' := Aside0.mk H
            clear H
            have hcz9_0 : wr.cell? ⟨gb214, 0, none⟩ = some (.int .i64 a0_0) := (blk_cell BK214.out 0).trans rfl
            have hcz9_1 : wr.cell? ⟨gb214, 1, none⟩ = some (.int .i64 a0_1) := (blk_cell BK214.out 1).trans rfl
            have hcz9_2 : wr.cell? ⟨gb214, 2, none⟩ = some (.slice A0_2 l0_2.length c0_2) := (blk_cell BK214.out 2).trans rfl
            have hfz9_0 := blk_frozen BK214.out 0
            have hfz9_1 := blk_frozen BK214.out 1
            have hfz9_2 := blk_frozen BK214.out 2
            have p216 : 0 ≤ (x4_1 : Int) := of_decide_eq_true (by first | (with_reducible assumption) | assumption)
            have q216 : x4_1 < (l0_2.length : Int) := of_decide_eq_true (by first | (with_reducible assumption) | assumption)
            obtain ⟨ad216, e216, hx216_0⟩ := Kd.at_int HR0_2.out x4_1 p216 q216
            cases e216
            replace hx216_0 := (HB.out.cell (World.block_lt_of_cell? w _ hx216_0)).trans hx216_0
            replace p216 := eq_true p216
            replace q216 := eq_true q216
            go_wp2
            go_roundg k1
            case measure => have := HK1.out; omega
            case rel => exact ⟨(wrap64 (x3_1 + (rd l0_2 x4_1))), (wrap64 (x4_1 + 1)), (by first | rfl | (simp; done) | (simp [*]; done)), (by first | rfl | (simp; done) | (simp [*]; done)), H', ⟨by have := HK1.out; omega⟩, ⟨by (with_reducible repeat (first | refine blk_drewN ?_ _ | refine blk_drew ?_ | refine blk_alloc ?_ _)); exact BK214.out⟩, ⟨by repeat (first | (with_reducible first | exact HB.out | apply below_alloc | apply pw_below_drewN | apply below_drew1 | refine below_set ?_ GE214.out) | exact HB.out)⟩⟩
          · rw [if_neg c8] at H
            exact absurd H (by simp)
        · rw [if_neg c7] at H
          have c7b0 : decide (x4_1 < (l0_2.length : Int)) = false := decide_eq_false c7
          clear c7
          obtain rfl := Option.some.inj H
          have hcz10_0 : wr.cell? ⟨gb214, 0, none⟩ = some (.int .i64 a0_0) := (blk_cell BK214.out 0).trans rfl
          have hcz10_1 : wr.cell? ⟨gb214, 1, none⟩ = some (.int .i64 a0_1) := (blk_cell BK214.out 1).trans rfl
          have hcz10_2 : wr.cell? ⟨gb214, 2, none⟩ = some (.slice A0_2 l0_2.length c0_2) := (blk_cell BK214.out 2).trans rfl
          have hfz10_0 := blk_frozen BK214.out 0
          have hfz10_1 := blk_frozen BK214.out 1
          have hfz10_2 := blk_frozen BK214.out 2
          go_wp2
          go_ret
          exact ⟨by first | rfl | (simp [errW_none, errW_some] <;> rfl) | (simp [*, errW_none, errW_some] <;> rfl), by repeat (first | (with_reducible first | exact HB.out | apply below_alloc | apply pw_below_drewN | apply below_drew1 | refine below_set ?_ GE214.out) | exact HB.out)⟩
  · rw [if_neg c3] at H
    have c3b0 : (t215 == 0) = false := beq_eq_false_iff_ne.mpr c3
    have c3b1 : (t215 != 0) = true := bne_iff_ne.mpr c3
    obtain rfl := Option.some.inj H
    go_enter Try.func14, Try.ntmps14
    go_wp2_with (first | ((with_reducible refine gate_dst (N := 1) rfl ?_); refine box_event ?hg (N := 1) ?hd (cs := #[.int .i64 a0_0, .int .i64 a0_1, .slice A0_2 l0_2.length c0_2]) (t := 24) ?hr ?_; (case hd => rfl); (case hg => rfl); (case hr => first | (go_simp; done) | (go_simp; rfl)); intro gb214 hg w11 hbox hb; have n0_ := Aside0.mk (below_step (by repeat (first | (with_reducible first | exact HB.out | apply below_alloc | apply pw_below_drewN | apply below_drew1) | exact HB.out)) hb); have n1_ := Aside0.mk (hbox); have n2_ := Aside0.mk ((by rw [hg]; exact (below_size (by repeat (first | (with_reducible first | exact HB.out | apply below_alloc | apply pw_below_drewN | apply below_drew1) | exact HB.out))) : w.heap.size ≤ gb214)); have n3_ := Aside0.mk ((by rw [hg]; exact (below_size (by repeat (first | (with_reducible first | exact HB.out | apply below_alloc | apply pw_below_drewN | apply below_drew1) | exact HB.out))) : w.heap.size ≤ gb214)); clear HB; have HB := n0_; have BK214 := n1_; have GW214 := n2_; have GE214 := n3_; clear n0_ n1_ n2_ n3_; clear hb hbox hg; have hcz12_0 : w11.cell? ⟨gb214, 0, none⟩ = some (.int .i64 a0_0) := (blk_cell BK214.out 0).trans rfl; have hcz12_1 : w11.cell? ⟨gb214, 1, none⟩ = some (.int .i64 a0_1) := (blk_cell BK214.out 1).trans rfl; have hcz12_2 : w11.cell? ⟨gb214, 2, none⟩ = some (.slice A0_2 l0_2.length c0_2) := (blk_cell BK214.out 2).trans rfl; have hfz12_0 := blk_frozen BK214.out 0; have hfz12_1 := blk_frozen BK214.out 1; have hfz12_2 := blk_frozen BK214.out 2) | ((with_reducible refine gate_callee (f := 12) rfl ?_); refine goesL_ (some 6) rfl rfl Try.func12 (by kernel_rfl) rfl #[.agg #[.int .i64 a0_0, .int .i64 a0_1, .slice A0_2 l0_2.length c0_2]] rfl (by (try simp only [List.map_toArray, List.map_cons, List.map_nil]); first | done | rfl | (simp only [List.length_drop, List.length_take]; rfl)) ?_; (with_reducible refine (mapsheetsref54_Check.calls k a0_0 a0_1 _ _ l0_2 t215 _ ?side1 ?side2 A2.out).mono ?_); (case side1 => repeat (first | exact (Kd.C_below HR0_2.out HB.out) | (with_reducible refine Kd.C_alloc ?_ _) | (with_reducible refine Kd.C_drewN ?_ _) | (with_reducible refine Kd.C_drew ?_))); (case side2 => exact HC0_2.out); rintro e w13 ⟨rfl, hb⟩; refine ⟨_, rfl, ?_⟩; have n0_ := Aside0.mk (blk_below (g := gb214) (o := .cells #[.int .i64 a0_0, .int .i64 a0_1, .slice A0_2 l0_2.length c0_2] 24 (0, 0)) (by (with_reducible repeat (first | refine blk_drewN ?_ _ | refine blk_drew ?_ | refine blk_alloc ?_ _)); exact BK214.out) hb); have n1_ := Aside0.mk (below_step (by repeat (first | (with_reducible first | exact HB.out | apply below_alloc | apply pw_below_drewN | apply below_drew1 | refine below_set ?_ GE214.out) | exact HB.out)) hb); clear BK214; clear HB; have BK214 := n0_; have HB := n1_; clear n0_ n1_; (try clear hb); (try clear hb2); (try clear hk); (try clear hi)))
    go_ret
    exact ⟨by first | rfl | (simp [errW_none, errW_some] <;> rfl) | (simp [*, errW_none, errW_some] <;> rfl), by repeat (first | (with_reducible first | exact HB.out | apply below_alloc | apply pw_below_drewN | apply below_drew1 | refine below_set ?_ GE214.out) | exact HB.out)⟩

end Go.Proofs.Ytaappifdpbgchaa.PA
