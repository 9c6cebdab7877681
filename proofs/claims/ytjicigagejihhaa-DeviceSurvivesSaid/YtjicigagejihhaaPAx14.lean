-- Written by wip/pp.py of this repository, on the kit's print program. Not trusted: Lean checks it.
import Derived.Test.YtjicigagejihhaaPAx0
import Derived.Test.YtjicigagejihhaaPAx6
import Derived.Test.YtjicigagejihhaaPAx7
import Derived.Test.YtjicigagejihhaaPAx8
import Derived.Test.YtjicigagejihhaaPAx9
import Derived.Test.YtjicigagejihhaaPAx11
import Derived.Test.YtjicigagejihhaaPAx12
import Derived.Test.YtjicigagejihhaaPAx13
namespace Go.Proofs.Ytjicigagejihhaa.PA
open Go.RowKit Go.Proofs.YtjicigagejihhaaW.PrintWords Go.Proofs.YtjicigagejihhaaW.PrintLast Go.Proofs.YtjicigagejihhaaW.PrintMore
attribute [local go_sem] max2_int min2_int max_two min_two max_three min_three max_four min_four   -- for this text's walks alone
set_option linter.unusedVariables false
set_option linter.unusedSimpArgs false

/-! ### mapsheetslaw24_awake: function 12 -/
/-- A device in a variable of the call's own. -/
def DiskAt (w : World) (g : Nat) (s : List (List Int)) (p : List S53) (l : Int) (dn : Bool) : Prop :=
  ∃ A0 c0 A1 c1, w.heap[g]? = some (.cells #[.slice A0 s.length c0, .slice A1 p.length c1, .int .i64 l, .bool dn] 25 (0, 0)) ∧ Kd.C (Kd.slice 5 (Kd.int .u8)) w A0 s.length s ∧ s.length ≤ c0 ∧ Kd.C k53 w A1 p.length p ∧ p.length ≤ c1
def BytesAt (w : World) (v : Value) (b : List Int) : Prop := ∃ A c, v = .slice A b.length c ∧ Kd.C (Kd.int .u8) w A b.length b ∧ b.length ≤ c
theorem DiskAt.below {w w' : World} {g : Nat} {s : List (List Int)} {p : List S53} {l : Int} {dn : Bool} (h : DiskAt w g s p l dn) (hb : Below w.heap.size w w') : DiskAt w' g s p l dn := by
  obtain ⟨A0, c0, A1, c1, h0, h1, h2, h3, h4⟩ := h
  exact ⟨A0, c0, A1, c1, blk_below h0 hb, Kd.C_below h1 hb, h2, Kd.C_below h3 hb, h4⟩
theorem BytesAt.below {w w' : World} {v : Value} {b : List Int} (h : BytesAt w v b) (hb : Below w.heap.size w w') : BytesAt w' v b := by
  obtain ⟨A, c, h0, h1, h2⟩ := h
  exact ⟨A, c, h0, Kd.C_below h1 hb, h2⟩
/-- What a call returns as a device, put into a fresh variable. -/
theorem disk_new {w1 : World} {v0 v1 : Value} {s : List (List Int)} {p : List S53} {l : Int} {dn : Bool} {base : Nat} {ok ok' : Nat → Prop} (h0 : Kd.N (Kd.slice 5 (Kd.int .u8)) 26 w1 base ok v0 s) (h1 : Kd.N k53 53 w1 base ok' v1 p) :
    DiskAt (w1.alloc (.cells #[v0, v1, .int .i64 l, .bool dn] 25 (0, 0))) w1.heap.size s p l dn := by
  obtain ⟨A0, c0, rfl⟩ := Kd.N_slice h0
  obtain ⟨A1, c1, rfl⟩ := Kd.N_slice h1
  exact ⟨A0, c0, A1, c1, heap_alloc_new w1 _, Kd.C_alloc (Kd.N_reads' h0).2.2 _, (Kd.N_reads' h0).2.1, Kd.C_alloc (Kd.N_reads' h1).2.2 _, (Kd.N_reads' h1).2.1⟩
theorem disk_cells {w : World} {g : Nat} {a b c d : Value} (h : w.heap[g]? = some (.cells #[a, b, c, d] 25 (0, 0))) :
    (w.cell? ⟨g, 0, none⟩ = some a ∧ w.cell? ⟨g, 1, none⟩ = some b ∧ w.cell? ⟨g, 2, none⟩ = some c ∧ w.cell? ⟨g, 3, none⟩ = some d) ∧ w.frozen? ⟨g, 0, none⟩ = false ∧ w.frozen? ⟨g, 1, none⟩ = false ∧ w.frozen? ⟨g, 2, none⟩ = false ∧ w.frozen? ⟨g, 3, none⟩ = false :=
  ⟨⟨(blk_cell h 0).trans rfl, (blk_cell h 1).trans rfl, (blk_cell h 2).trans rfl, (blk_cell h 3).trans rfl⟩, blk_frozen h 0, blk_frozen h 1, blk_frozen h 2, blk_frozen h 3⟩
theorem bytes_R {w : World} {v : Value} {b : List Int} {base : Nat} {ok : Nat → Prop} (h : Kd.R (Kd.int .u8) 5 w base ok v b) : BytesAt w v b := by
  obtain ⟨A, c, rfl⟩ := Kd.R_slice h
  exact ⟨A, c, rfl, (Kd.R_reads' h).2.2, (Kd.R_reads' h).2.1⟩
theorem disk_put {w2 : World} {g : Nat} {x0 x1 x2 x3 v0 v1 : Value} {s : List (List Int)} {p : List S53} {l : Int} {dn : Bool} {base base' : Nat} {ok ok' : Nat → Prop} (hg : w2.heap[g]? = some (.cells #[x0, x1, x2, x3] 25 (0, 0)))
    (h0 : Kd.N (Kd.slice 5 (Kd.int .u8)) 26 w2 base ok v0 s) (h1 : Kd.N k53 53 w2 base' ok' v1 p) (k0 : ∀ k, ok k → k ≠ g) (k1 : ∀ k, ok' k → k ≠ g) :
    DiskAt ((((w2.setCell ⟨g, 0, none⟩ v0).setCell ⟨g, 1, none⟩ v1).setCell ⟨g, 2, none⟩ (.int .i64 l)).setCell ⟨g, 3, none⟩ (.bool dn)) g s p l dn := by
  have b0 := blk_put hg 0 v0 rfl
  have b1 := blk_put b0 1 v1 rfl
  have b2 := blk_put b1 2 (.int .i64 l) rfl
  have b3 := blk_put b2 3 (.bool dn) rfl
  have n0 := Kd.N_far (p := ⟨g, 3, none⟩) (Kd.N_far (p := ⟨g, 2, none⟩) (Kd.N_far (p := ⟨g, 1, none⟩) (Kd.N_far (p := ⟨g, 0, none⟩) h0 k0 v0) k0 v1) k0 (.int .i64 l)) k0 (.bool dn)
  have n1 := Kd.N_far (p := ⟨g, 3, none⟩) (Kd.N_far (p := ⟨g, 2, none⟩) (Kd.N_far (p := ⟨g, 1, none⟩) (Kd.N_far (p := ⟨g, 0, none⟩) h1 k1 v0) k1 v1) k1 (.int .i64 l)) k1 (.bool dn)
  obtain ⟨A0, c0, rfl⟩ := Kd.N_slice h0
  obtain ⟨A1, c1, rfl⟩ := Kd.N_slice h1
  exact ⟨A0, c0, A1, c1, b3, (Kd.N_reads' n0).2.2, (Kd.N_reads' n0).2.1, (Kd.N_reads' n1).2.2, (Kd.N_reads' n1).2.1⟩
/-- A row of whole numbers that was laid as a literal, whatever its mark. -/
theorem lit_ints (w : World) (xs : List Int) (t : TypeId) (fr : Nat × Nat) (hn : xs.length ≤ 9223372036854775807) : Kd.C (Kd.int .i64) (w.alloc (.cells (xs.map (Value.int .i64)).toArray t fr)) (some ⟨w.heap.size, 0, none⟩) xs.length xs := by
  refine ⟨rfl, hn, fun _ => ⟨_, rfl, fun j p hp => ⟨[.int .i64 p], rfl, rfl, fun i u hu => ?_⟩⟩⟩
  have hj : j < xs.length := (List.getElem?_eq_some_iff.1 hp).1
  cases i with
  | succ i => simp at hu
  | zero =>
    simp at hu
    subst hu
    have hadd : (⟨w.heap.size, 0, none⟩ : Addr).add (j * 1 + 0) = ⟨w.heap.size, j, none⟩ := by rw [Addr.add_lit]; simp
    show (w.alloc (.cells (xs.map (Value.int .i64)).toArray t fr)).cell? ((⟨w.heap.size, 0, none⟩ : Addr).add (j * 1 + 0)) = _
    rw [hadd, World.cell?_alloc_mark, List.getElem?_toArray, List.getElem?_map, hp]
    rfl
def aw_z64 : List Int := List.replicate 64 0
def aw_o64 : List Int := List.replicate 64 1
def aw_t64 : List Int := List.replicate 64 2
def aw_h64 : List Int := List.replicate 64 3
def aw_f64 : List Int := List.replicate 64 4
def aw_W1 : List S53 := [⟨0, aw_o64⟩]
def aw_W2 : List S53 := [⟨0, aw_o64⟩, ⟨0, aw_t64⟩]
def aw_W3 : List S53 := [⟨1, aw_f64⟩]
theorem p_new2 : device_New.f 100 2 = some ([aw_z64, aw_z64], [], -1, false, 0) := by kernel_rfl
theorem p_new0 : device_New.f 100 0 = some ([], [], 0, false, 2) := by kernel_rfl
theorem p_blk1 : mapsheetslaw24_block.f 100 1 = some aw_o64 := by kernel_rfl
theorem p_blk2 : mapsheetslaw24_block.f 100 2 = some aw_t64 := by kernel_rfl
theorem p_blk3 : mapsheetslaw24_block.f 100 3 = some aw_h64 := by kernel_rfl
theorem p_blk4 : mapsheetslaw24_block.f 100 4 = some aw_f64 := by kernel_rfl
theorem p_blk0 : mapsheetslaw24_block.f 100 0 = some aw_z64 := by kernel_rfl
theorem p_wr1 : device_Write.f 100 [aw_z64, aw_z64] [] (-1) false 0 aw_o64 = some ([aw_z64, aw_z64], aw_W1, -1, false, 0) := by kernel_rfl
theorem p_wr2 : device_Write.f 100 [aw_z64, aw_z64] aw_W1 (-1) false 0 aw_t64 = some ([aw_z64, aw_z64], aw_W2, -1, false, 0) := by kernel_rfl
theorem p_wr3 : device_Write.f 100 [aw_z64, aw_z64] aw_W2 (-1) false 2 aw_h64 = some ([], [], 0, false, 2) := by kernel_rfl
theorem p_rd1 : device_Read.f 100 [aw_z64, aw_z64] aw_W2 (-1) false 0 = some (aw_t64, 0) := by kernel_rfl
theorem p_cr1 : device_Crash.f 100 [aw_z64, aw_z64] aw_W2 (-1) false [0] = some ([aw_o64, aw_z64], [], -1, false) := by kernel_rfl
theorem p_rd2 : device_Read.f 100 [aw_o64, aw_z64] [] (-1) false 0 = some (aw_o64, 0) := by kernel_rfl
theorem p_arm : device_Arm.f 100 [aw_z64, aw_z64] [] (-1) false 0 = some ([aw_z64, aw_z64], [], 0, false) := by kernel_rfl
theorem p_wr4 : device_Write.f 100 [aw_z64, aw_z64] [] 0 false 1 aw_f64 = some ([aw_z64, aw_z64], aw_W3, 0, true, 23) := by kernel_rfl
theorem p_fl : device_Flush.f 100 [aw_z64, aw_z64] aw_W3 0 true = some ([], [], 0, false, 23) := by kernel_rfl
theorem p_cr2 : device_Crash.f 100 [aw_z64, aw_z64] aw_W3 0 true [] = some ([aw_z64, aw_z64], [], -1, false) := by kernel_rfl
theorem p_rd3 : device_Read.f 100 [aw_z64, aw_z64] [] (-1) false 1 = some (aw_z64, 0) := by kernel_rfl
theorem p_sb2 : mapsheetsref24_SameBytes.f 100 aw_t64 aw_t64 = some true := by kernel_rfl
theorem p_sb1 : mapsheetsref24_SameBytes.f 100 aw_o64 aw_o64 = some true := by kernel_rfl
theorem p_sb0 : mapsheetsref24_SameBytes.f 100 aw_z64 aw_z64 = some true := by kernel_rfl
set_option maxHeartbeats 4000000 in
set_option maxRecDepth 100000 in
theorem awake_walk (w : World) : Calls Try.prog 12 #[] w fun e w' => e = .returned (.bool true) ∧ Below w.heap.size w w' := by
  go_enter Try.func12, Try.ntmps12
  go_upto_region 1 with fail
  go_cut [1, 2] (fun v1 v2 wa => ∃ g : Nat, v1 = .pointer (some ⟨g, 0, none⟩) ∧ v2 = .int .i64 0 ∧ DiskAt wa g [aw_z64, aw_z64] [] (-1) false ∧ Below w.heap.size w wa)
  case first =>
    go_wp2_with (go_at_call 19; ((refine (device_New.calls 100 2 _ _ _ _ _ _ p_new2).mono ?_); rintro e w1 ⟨v0, v1, rfl, ho0, ho1, hb⟩; obtain ⟨A0, c0, rfl⟩ := Kd.S_slice ho0; obtain ⟨A1, c1, rfl⟩ := Kd.S_slice ho1; have H0 := Aside0.mk ho0; have H1 := Aside0.mk ho1; have HB := Aside0.mk hb; clear ho0 ho1 hb))
    go_meet
    exact ⟨_, rfl, rfl, disk_new (Kd.S_N H0.out) (Kd.S_N H1.out), below_alloc HB.out _⟩
  case rest =>
  obtain ⟨wa, hw_⟩ : ∃ x : World, x = wc := ⟨_, rfl⟩
  subst hw_
  obtain ⟨g1, rfl, rfl, d1, hb⟩ := hcut
  have HD1 := Aside0.mk d1
  have HBA := Aside0.mk hb
  clear d1 hb
  go_upto_region 2 with fail
  go_cut [4] (fun v4 wb => v4 = .int .i64 2 ∧ Below wa.heap.size wa wb)
  case first =>
    go_wp2_with (go_at_call 19; ((refine (device_New.calls 100 0 _ _ _ _ _ _ p_new0).mono ?_); rintro e w1 ⟨v0, v1, rfl, ho0, ho1, hb⟩; obtain ⟨A0, c0, rfl⟩ := Kd.S_slice ho0; obtain ⟨A1, c1, rfl⟩ := Kd.S_slice ho1; have HB := Aside0.mk hb; clear ho0 ho1 hb))
    go_meet
    exact ⟨rfl, below_alloc HB.out _⟩
  case rest =>
  obtain ⟨wb, hw_⟩ : ∃ x : World, x = wc := ⟨_, rfl⟩
  subst hw_
  obtain ⟨rfl, hb⟩ := hcut
  have HDn := Aside0.mk (HD1.out.below hb)
  clear HD1
  have HD1 := HDn
  have HBn := Aside0.mk (below_step HBA.out hb)
  clear HBA HDn hb
  have HBA := HBn
  clear HBn
  obtain ⟨A1, c1, A2, c2, hb1, hC1, hl1, hC2, hl2⟩ := HD1.out
  have HK1 := Aside0.mk hb1
  have HC1 := Aside0.mk hC1
  have HL1 := Aside0.mk hl1
  have HC2 := Aside0.mk hC2
  have HL2 := Aside0.mk hl2
  obtain ⟨⟨qa1, qb1, qc1, qd1⟩, qe1, qf1, qg1, qh1⟩ := disk_cells hb1
  clear hb1 hC1 hl1 hC2 hl2
  go_upto_region 3 with fail
  go_cut [5, 6] (fun v5 v6 wc => ∃ g : Nat, v5 = .pointer (some ⟨g, 0, none⟩) ∧ v6 = .int .i64 0 ∧ wb.heap.size ≤ g ∧ DiskAt wc g [aw_z64, aw_z64] aw_W1 (-1) false ∧ Below wb.heap.size wb wc)
  case first =>
    have hlt := blk_lt HK1.out
    have HB31 := Aside0.mk (Below.refl wb.heap.size wb)
    have HBa := Aside0.mk (Below.refl wb.heap.size wb)
    go_region_held3 (fun w' => (w'.cell? ⟨g1, 0, none⟩ = some (.slice A1 2 c1) ∧ w'.cell? ⟨g1, 1, none⟩ = some (.slice A2 0 c2) ∧ w'.cell? ⟨g1, 2, none⟩ = some (.int .i64 (-1)) ∧ w'.cell? ⟨g1, 3, none⟩ = some (.bool false)))
      (first | ((refine (disk_cells ?_).1); (with_reducible repeat (first | refine blk_drewN ?_ _ | refine blk_drew ?_ | refine blk_alloc ?_ _)); exact HK13.out) | ((refine (disk_cells ?_).1); (repeat (first | exact HK13.out | refine blk_far ?_ (Nat.ne_of_lt hlt) _ | refine blk_far ?_ (Nat.ne_of_lt (blk_lt HK31.out)) _)); done) | ((refine (disk_cells ?_).1); (with_reducible repeat (first | refine blk_drewN ?_ _ | refine blk_drew ?_ | refine blk_alloc ?_ _)); exact HK31.out) | go_keep)
      (first
        | (go_at_call 31; ((refine (mapsheetslaw24_block.calls 100 1 _ _ p_blk1).mono ?_); rintro e w1 ⟨v0, rfl, ho0, hb⟩; obtain ⟨Ap, cp, rfl⟩ := Kd.R_slice ho0; have HK31 := Aside0.mk (blk_below (g := g1) (o := .cells #[.slice A1 2 c1, .slice A2 0 c2, .int .i64 (-1), .bool false] 25 (0, 0)) (by (with_reducible repeat (first | refine blk_drewN ?_ _ | refine blk_drew ?_ | refine blk_alloc ?_ _)); exact HK1.out) hb); have HBn := Aside0.mk (below_step (w := wb) (by repeat (first | exact Below.refl _ _ | exact HB31.out | apply below_alloc | apply pw_below_drewN | apply below_drew1)) hb); clear HB31 HBa; have HB31 := HBn; have HBa := HBn; clear HBn; have H0 := Aside0.mk ho0; (try (have HN31 := Aside0.mk (blk_below (g := wb.heap.size) (o := .cells #[.slice none 0 0, .slice none 0 0, .int .i64 0, .bool false] 25 (0, 0)) (heap_alloc_new wb.drew _) hb))); clear ho0 hb))
        | (go_at_call 13; ((refine (device_Write.calls 100 A1 c1 [aw_z64, aw_z64] A2 c2 [] (-1) false 0 Ap cp aw_o64 _ _ _ _ _ _ (by repeat (first | exact (Kd.C_below HC1.out HB31.out) | (with_reducible refine Kd.C_alloc ?_ _) | (with_reducible refine Kd.C_drewN ?_ _) | (with_reducible refine Kd.C_drew ?_))) HL1.out (by repeat (first | exact (Kd.C_below HC2.out HB31.out) | (with_reducible refine Kd.C_alloc ?_ _) | (with_reducible refine Kd.C_drewN ?_ _) | (with_reducible refine Kd.C_drew ?_))) HL2.out (by repeat (first | exact (Kd.R_reads' H0.out).2.2 | (with_reducible refine Kd.C_alloc ?_ _) | (with_reducible refine Kd.C_drewN ?_ _) | (with_reducible refine Kd.C_drew ?_))) (Kd.R_reads' H0.out).2.1 p_wr1).mono ?_); rintro e w2 ⟨v3, v4, rfl, ho0, ho1, hb⟩; obtain ⟨Aq, cq, rfl⟩ := Kd.S_slice ho0; obtain ⟨Ar, cr, rfl⟩ := Kd.S_slice ho1; have HK13 := Aside0.mk (blk_below (g := g1) (o := .cells #[.slice A1 2 c1, .slice A2 0 c2, .int .i64 (-1), .bool false] 25 (0, 0)) (by (with_reducible repeat (first | refine blk_drewN ?_ _ | refine blk_drew ?_ | refine blk_alloc ?_ _)); exact HK31.out) hb); have HBn := Aside0.mk (below_step (w := wb) (by repeat (first | exact Below.refl _ _ | exact HB31.out | apply below_alloc | apply pw_below_drewN | apply below_drew1)) hb); clear HB31; have HB31 := HBn; clear HBn; have H3 := Aside0.mk ho0; have H4 := Aside0.mk ho1; (try (have HN13 := Aside0.mk (blk_below (g := wb.heap.size) (o := .cells #[.slice none 0 0, .slice none 0 0, .int .i64 0, .bool false] 25 (0, 0)) HN31.out hb); obtain ⟨⟨qa0_, qa1_, qa2_, qa3_⟩, qb0_, qb1_, qb2_, qb3_⟩ := disk_cells HN13.out)); (try (have HN13 := Aside0.mk (blk_below (g := w1.heap.size) (o := .cells #[.slice none 0 0, .slice none 0 0, .int .i64 0, .bool false] 25 (0, 0)) (heap_alloc_new w1 _) hb); obtain ⟨⟨qa0_, qa1_, qa2_, qa3_⟩, qb0_, qb1_, qb2_, qb3_⟩ := disk_cells HN13.out)); clear ho0 ho1 hb)))
    all_goals (go_wp2_with fail; go_meet)
    · exact ⟨_, rfl, rfl, below_size HB31.out, disk_new (Kd.S_N H3.out) (Kd.S_N H4.out), below_alloc HB31.out _⟩
    · have h_ := below_size HBa.out
      exact ⟨_, rfl, rfl, h_, disk_put HN13.out (Kd.S_N (Kd.S_bound H3.out)) (Kd.S_N (Kd.S_bound H4.out)) (fun k hk => by have := hk.2.1; simp at this; omega) (fun k hk => by have := hk.2.1; simp at this; omega), below_set (below_set (below_set (below_set HB31.out h_) h_) h_) h_⟩
    · have h_ := blk_lt HN31.out
      exact ⟨_, rfl, rfl, Nat.le_refl _, disk_put HN13.out (Kd.S_N (Kd.S_bound H3.out)) (Kd.S_N (Kd.S_bound H4.out)) (fun k hk => by have := hk.2.1; omega) (fun k hk => by have := hk.2.1; omega), below_set (below_set (below_set (below_set HB31.out (Nat.le_refl _)) (Nat.le_refl _)) (Nat.le_refl _)) (Nat.le_refl _)⟩
  case rest =>
  obtain ⟨wd, hw_⟩ : ∃ x : World, x = wc := ⟨_, rfl⟩
  subst hw_
  clear HK1 HC1 HL1 HC2 HL2 qa1 qb1 qc1 qd1 qe1 qf1 qg1 qh1
  obtain ⟨g5, rfl, rfl, hge, d5, hb⟩ := hcut
  have HGE := Aside0.mk hge
  have HD5 := Aside0.mk d5
  have HBD := Aside0.mk hb
  clear hge d5 hb
  obtain ⟨A5, c5, A6, c6, hb1, hC1, hl1, hC2, hl2⟩ := HD5.out
  have HK5 := Aside0.mk hb1
  have HC5 := Aside0.mk hC1
  have HL5 := Aside0.mk hl1
  have HC6 := Aside0.mk hC2
  have HL6 := Aside0.mk hl2
  obtain ⟨⟨qa5, qb5, qc5, qd5⟩, qe5, qf5, qg5, qh5⟩ := disk_cells hb1
  clear hb1 hC1 hl1 hC2 hl2
  go_upto_region 4 with fail
  go_cut [7] (fun v7 wc => v7 = .int .i64 0 ∧ DiskAt wc g5 [aw_z64, aw_z64] aw_W2 (-1) false ∧ Below wb.heap.size wb wc)
  case first =>
    have hlt := blk_lt HK5.out
    have HB31 := Aside0.mk (Below.refl wd.heap.size wd)
    go_region_law (first
        | (go_simp; go_at_call 31; ((refine (mapsheetslaw24_block.calls 100 2 _ _ p_blk2).mono ?_); rintro e w1 ⟨v0, rfl, ho0, hb⟩; obtain ⟨Ap, cp, rfl⟩ := Kd.R_slice ho0; have HK31 := Aside0.mk (blk_below (g := g5) (o := .cells #[.slice A5 2 c5, .slice A6 1 c6, .int .i64 (-1), .bool false] 25 (0, 0)) (by (with_reducible repeat (first | refine blk_drewN ?_ _ | refine blk_drew ?_ | refine blk_alloc ?_ _)); exact HK5.out) hb); have HBn := Aside0.mk (below_step (w := wd) (by repeat (first | exact Below.refl _ _ | exact HB31.out | apply below_alloc | apply pw_below_drewN | apply below_drew1)) hb); clear HB31; have HB31 := HBn; clear HBn; have H0 := Aside0.mk ho0; obtain ⟨⟨qa0_, qa1_, qa2_, qa3_⟩, qb0_, qb1_, qb2_, qb3_⟩ := disk_cells HK31.out; clear ho0 hb))
        | (go_simp; go_at_call 13; ((refine (device_Write.calls 100 A5 c5 [aw_z64, aw_z64] A6 c6 aw_W1 (-1) false 0 Ap cp aw_t64 _ _ _ _ _ _ (by repeat (first | exact (Kd.C_below HC5.out HB31.out) | (with_reducible refine Kd.C_alloc ?_ _) | (with_reducible refine Kd.C_drewN ?_ _) | (with_reducible refine Kd.C_drew ?_))) HL5.out (by repeat (first | exact (Kd.C_below HC6.out HB31.out) | (with_reducible refine Kd.C_alloc ?_ _) | (with_reducible refine Kd.C_drewN ?_ _) | (with_reducible refine Kd.C_drew ?_))) HL6.out (by repeat (first | exact (Kd.R_reads' H0.out).2.2 | (with_reducible refine Kd.C_alloc ?_ _) | (with_reducible refine Kd.C_drewN ?_ _) | (with_reducible refine Kd.C_drew ?_))) (Kd.R_reads' H0.out).2.1 p_wr2).mono ?_); rintro e w2 ⟨v3, v4, rfl, ho0, ho1, hb⟩; obtain ⟨Aq, cq, rfl⟩ := Kd.S_slice ho0; obtain ⟨Ar, cr, rfl⟩ := Kd.S_slice ho1; have HK13 := Aside0.mk (blk_below (g := g5) (o := .cells #[.slice A5 2 c5, .slice A6 1 c6, .int .i64 (-1), .bool false] 25 (0, 0)) (by (with_reducible repeat (first | refine blk_drewN ?_ _ | refine blk_drew ?_ | refine blk_alloc ?_ _)); exact HK31.out) hb); have HBn := Aside0.mk (below_step (w := wd) (by repeat (first | exact Below.refl _ _ | exact HB31.out | apply below_alloc | apply pw_below_drewN | apply below_drew1)) hb); clear HB31; have HB31 := HBn; clear HBn; have H3 := Aside0.mk ho0; have H4 := Aside0.mk ho1; obtain ⟨⟨ra0_, ra1_, ra2_, ra3_⟩, rb0_, rb1_, rb2_, rb3_⟩ := disk_cells HK13.out; clear ho0 ho1 hb)))
    all_goals (go_wp2_with fail; go_meet)
    all_goals (have h_ := blk_lt HK31.out; have hB_ := below_step HBD.out HB31.out; exact ⟨rfl, disk_put HK13.out (Kd.S_N (Kd.S_bound H3.out)) (Kd.S_N (Kd.S_bound H4.out)) (fun k hk => by have := hk.2.1; (try simp at this); omega) (fun k hk => by have := hk.2.1; (try simp at this); omega), below_set (below_set (below_set (below_set hB_ HGE.out) HGE.out) HGE.out) HGE.out⟩)
  case rest =>
  obtain ⟨we, hw_⟩ : ∃ x : World, x = wc := ⟨_, rfl⟩
  subst hw_
  clear HK5 HC5 HL5 HC6 HL6 qa5 qb5 qc5 qd5 qe5 qf5 qg5 qh5 HD5 HBD
  obtain ⟨rfl, d5, hb⟩ := hcut
  have HD5 := Aside0.mk d5
  have HDn := Aside0.mk (HD1.out.below hb)
  have HBn := Aside0.mk (below_step HBA.out hb)
  clear HD1 HBA HGE d5 hb
  have HD1 := HDn
  have HBA := HBn
  clear HDn HBn
  obtain ⟨A7, c7, A8, c8, hb1, hC1, hl1, hC2, hl2⟩ := HD5.out
  have HK7 := Aside0.mk hb1
  have HC7 := Aside0.mk hC1
  have HL7 := Aside0.mk hl1
  have HC8 := Aside0.mk hC2
  have HL8 := Aside0.mk hl2
  obtain ⟨⟨qa7, qb7, qc7, qd7⟩, qe7, qf7, qg7, qh7⟩ := disk_cells hb1
  clear hb1 hC1 hl1 hC2 hl2
  go_upto_region 5 with fail
  go_cut [9] (fun v9 wc => v9 = .int .i64 2 ∧ Below we.heap.size we wc)
  case first =>
    have hlt := blk_lt HK7.out
    have HB31 := Aside0.mk (Below.refl we.heap.size we)
    have HBa := Aside0.mk (Below.refl we.heap.size we)
    go_region_held3 (fun w' => (w'.cell? ⟨g5, 0, none⟩ = some (.slice A7 2 c7) ∧ w'.cell? ⟨g5, 1, none⟩ = some (.slice A8 aw_W2.length c8) ∧ w'.cell? ⟨g5, 2, none⟩ = some (.int .i64 (-1)) ∧ w'.cell? ⟨g5, 3, none⟩ = some (.bool false)))
      (first | ((refine (disk_cells ?_).1); (with_reducible repeat (first | refine blk_drewN ?_ _ | refine blk_drew ?_ | refine blk_alloc ?_ _)); exact HK13.out) | ((refine (disk_cells ?_).1); (repeat (first | exact HK13.out | refine blk_far ?_ (Nat.ne_of_lt hlt) _ | refine blk_far ?_ (Nat.ne_of_lt (blk_lt HK31.out)) _)); done) | ((refine (disk_cells ?_).1); (with_reducible repeat (first | refine blk_drewN ?_ _ | refine blk_drew ?_ | refine blk_alloc ?_ _)); exact HK31.out) | go_keep)
      (first
        | (go_at_call 31; ((refine (mapsheetslaw24_block.calls 100 3 _ _ p_blk3).mono ?_); rintro e w1 ⟨v0, rfl, ho0, hb⟩; obtain ⟨Ap, cp, rfl⟩ := Kd.R_slice ho0; have HK31 := Aside0.mk (blk_below (g := g5) (o := .cells #[.slice A7 2 c7, .slice A8 aw_W2.length c8, .int .i64 (-1), .bool false] 25 (0, 0)) (by (with_reducible repeat (first | refine blk_drewN ?_ _ | refine blk_drew ?_ | refine blk_alloc ?_ _)); exact HK7.out) hb); have HBn := Aside0.mk (below_step (w := we) (by repeat (first | exact Below.refl _ _ | exact HB31.out | apply below_alloc | apply pw_below_drewN | apply below_drew1)) hb); clear HB31 HBa; have HB31 := HBn; have HBa := HBn; clear HBn; have H0 := Aside0.mk ho0; (try (have HN31 := Aside0.mk (blk_below (g := we.heap.size) (o := .cells #[.slice none 0 0, .slice none 0 0, .int .i64 0, .bool false] 25 (0, 0)) (heap_alloc_new we.drew _) hb))); clear ho0 hb))
        | (go_at_call 13; ((refine (device_Write.calls 100 A7 c7 [aw_z64, aw_z64] A8 c8 aw_W2 (-1) false 2 Ap cp aw_h64 _ _ _ _ _ _ (by repeat (first | exact (Kd.C_below HC7.out HB31.out) | (with_reducible refine Kd.C_alloc ?_ _) | (with_reducible refine Kd.C_drewN ?_ _) | (with_reducible refine Kd.C_drew ?_))) HL7.out (by repeat (first | exact (Kd.C_below HC8.out HB31.out) | (with_reducible refine Kd.C_alloc ?_ _) | (with_reducible refine Kd.C_drewN ?_ _) | (with_reducible refine Kd.C_drew ?_))) HL8.out (by repeat (first | exact (Kd.R_reads' H0.out).2.2 | (with_reducible refine Kd.C_alloc ?_ _) | (with_reducible refine Kd.C_drewN ?_ _) | (with_reducible refine Kd.C_drew ?_))) (Kd.R_reads' H0.out).2.1 p_wr3).mono ?_); rintro e w2 ⟨v3, v4, rfl, ho0, ho1, hb⟩; obtain ⟨Aq, cq, rfl⟩ := Kd.S_slice ho0; obtain ⟨Ar, cr, rfl⟩ := Kd.S_slice ho1; have HK13 := Aside0.mk (blk_below (g := g5) (o := .cells #[.slice A7 2 c7, .slice A8 aw_W2.length c8, .int .i64 (-1), .bool false] 25 (0, 0)) (by (with_reducible repeat (first | refine blk_drewN ?_ _ | refine blk_drew ?_ | refine blk_alloc ?_ _)); exact HK31.out) hb); have HBn := Aside0.mk (below_step (w := we) (by repeat (first | exact Below.refl _ _ | exact HB31.out | apply below_alloc | apply pw_below_drewN | apply below_drew1)) hb); clear HB31; have HB31 := HBn; clear HBn; have H3 := Aside0.mk ho0; have H4 := Aside0.mk ho1; (try (have HN13 := Aside0.mk (blk_below (g := we.heap.size) (o := .cells #[.slice none 0 0, .slice none 0 0, .int .i64 0, .bool false] 25 (0, 0)) HN31.out hb); obtain ⟨⟨qa0_, qa1_, qa2_, qa3_⟩, qb0_, qb1_, qb2_, qb3_⟩ := disk_cells HN13.out)); (try (have HN13 := Aside0.mk (blk_below (g := w1.heap.size) (o := .cells #[.slice none 0 0, .slice none 0 0, .int .i64 0, .bool false] 25 (0, 0)) (heap_alloc_new w1 _) hb); obtain ⟨⟨qa0_, qa1_, qa2_, qa3_⟩, qb0_, qb1_, qb2_, qb3_⟩ := disk_cells HN13.out)); clear ho0 ho1 hb)))
    all_goals (go_wp2_with fail; go_meet)
    · exact ⟨rfl, below_alloc HB31.out _⟩
    · have h_ := below_size HBa.out
      exact ⟨rfl, below_set (below_set (below_set (below_set HB31.out h_) h_) h_) h_⟩
    · exact ⟨rfl, below_set (below_set (below_set (below_set HB31.out (Nat.le_refl _)) (Nat.le_refl _)) (Nat.le_refl _)) (Nat.le_refl _)⟩
  case rest =>
  obtain ⟨wf, hw_⟩ : ∃ x : World, x = wc := ⟨_, rfl⟩
  subst hw_
  clear HK7 HC7 HL7 HC8 HL8 qa7 qb7 qc7 qd7 qe7 qf7 qg7 qh7
  obtain ⟨rfl, hb⟩ := hcut
  have HDn := Aside0.mk (HD1.out.below hb)
  clear HD1
  have HD1 := HDn
  clear HDn
  have HDn := Aside0.mk (HD5.out.below hb)
  clear HD5
  have HD5 := HDn
  clear HDn
  have HBn := Aside0.mk (below_step HBA.out hb)
  clear HBA
  have HBA := HBn
  clear HBn
  clear hb
  obtain ⟨A9, c9, A10, c10, hb1, hC1, hl1, hC2, hl2⟩ := HD5.out
  have HK9 := Aside0.mk hb1
  have HC9 := Aside0.mk hC1
  have HL9 := Aside0.mk hl1
  have HC10 := Aside0.mk hC2
  have HL10 := Aside0.mk hl2
  obtain ⟨⟨qa9, qb9, qc9, qd9⟩, qe9, qf9, qg9, qh9⟩ := disk_cells hb1
  clear hb1 hC1 hl1 hC2 hl2
  go_upto_region 6 with fail
  go_cut [10, 11] (fun v10 v11 wc => BytesAt wc v10 aw_t64 ∧ v11 = .int .i64 0 ∧ Below wf.heap.size wf wc)
  case first =>
    have HB31 := Aside0.mk (Below.refl wf.heap.size wf)
    go_wp2_with (go_at_call 15; ((refine (device_Read.calls 100 A9 c9 [aw_z64, aw_z64] A10 c10 aw_W2 (-1) false 0 _ _ _ (by repeat (first | exact (Kd.C_below HC9.out HB31.out) | (with_reducible refine Kd.C_alloc ?_ _) | (with_reducible refine Kd.C_drewN ?_ _) | (with_reducible refine Kd.C_drew ?_))) HL9.out (by repeat (first | exact (Kd.C_below HC10.out HB31.out) | (with_reducible refine Kd.C_alloc ?_ _) | (with_reducible refine Kd.C_drewN ?_ _) | (with_reducible refine Kd.C_drew ?_))) HL10.out p_rd1).mono ?_); rintro e wr_ ⟨vr_, rfl, ho0, hb⟩; have H3 := Aside0.mk (bytes_R ho0); obtain ⟨Ab_, cb_, eb_, _, _⟩ := bytes_R ho0; subst eb_; have HBn := Aside0.mk (below_step (w := wf) (by repeat (first | exact Below.refl _ _ | exact HB31.out | apply below_alloc | apply pw_below_drewN | apply below_drew1)) hb); clear HB31; have HB31 := HBn; clear HBn; clear ho0 hb))
    go_meet
    exact ⟨H3.out, rfl, HB31.out⟩
  case rest =>
  obtain ⟨wg, hw_⟩ : ∃ x : World, x = wc := ⟨_, rfl⟩
  subst hw_
  clear HK9 HC9 HL9 HC10 HL10 qa9 qb9 qc9 qd9 qe9 qf9 qg9 qh9
  obtain ⟨b10, rfl, hb⟩ := hcut
  have HDn := Aside0.mk (HD1.out.below hb)
  clear HD1
  have HD1 := HDn
  clear HDn
  have HDn := Aside0.mk (HD5.out.below hb)
  clear HD5
  have HD5 := HDn
  clear HDn
  have HBn := Aside0.mk (below_step HBA.out hb)
  clear HBA
  have HBA := HBn
  clear HBn
  have HB10 := Aside0.mk b10
  clear hb b10
  obtain ⟨A11, c11, A12, c12, hb1, hC1, hl1, hC2, hl2⟩ := HD5.out
  have HK11 := Aside0.mk hb1
  have HC11 := Aside0.mk hC1
  have HL11 := Aside0.mk hl1
  have HC12 := Aside0.mk hC2
  have HL12 := Aside0.mk hl2
  obtain ⟨⟨qa11, qb11, qc11, qd11⟩, qe11, qf11, qg11, qh11⟩ := disk_cells hb1
  clear hb1 hC1 hl1 hC2 hl2
  go_upto_region 7 with fail
  go_cut [12, 13] (fun v12 v13 wc => BytesAt wc v12 aw_o64 ∧ v13 = .int .i64 0 ∧ Below wg.heap.size wg wc)
  case first =>
    have HB31 := Aside0.mk (Below.refl wg.heap.size wg)
    go_wp2_with (first | (go_at_call 25; ((refine (device_Crash.calls 100 A11 c11 [aw_z64, aw_z64] A12 c12 aw_W2 (-1) false (some ⟨wg.heap.size, 0, none⟩) 1 [0] _ _ _ _ _ (by repeat (first | exact (Kd.C_below HC11.out HB31.out) | (with_reducible refine Kd.C_alloc ?_ _) | (with_reducible refine Kd.C_drewN ?_ _) | (with_reducible refine Kd.C_drew ?_))) HL11.out (by repeat (first | exact (Kd.C_below HC12.out HB31.out) | (with_reducible refine Kd.C_alloc ?_ _) | (with_reducible refine Kd.C_drewN ?_ _) | (with_reducible refine Kd.C_drew ?_))) HL12.out (lit_ints wg [0] 3 (0, 0) (by decide)) (Nat.le_refl 1) p_cr1).mono ?_); rintro e wk_ ⟨vk_, vl_, rfl, ho0, ho1, hb⟩; obtain ⟨Ak, ck, rfl⟩ := Kd.N_slice ho0; obtain ⟨Al, cl, rfl⟩ := Kd.N_slice ho1; have HCk := Aside0.mk (Kd.N_reads' ho0).2.2; have HLk := Aside0.mk (Kd.N_reads' ho0).2.1; have HCl := Aside0.mk (Kd.N_reads' ho1).2.2; have HLl := Aside0.mk (Kd.N_reads' ho1).2.1; have HBn := Aside0.mk (below_step (w := wg) (by repeat (first | exact Below.refl _ _ | exact HB31.out | apply below_alloc | apply pw_below_drewN | apply below_drew1)) hb); clear HB31; have HB31 := HBn; clear HBn; clear ho0 ho1 hb)) | (go_at_call 15; ((refine (device_Read.calls 100 Ak ck [aw_o64, aw_z64] Al cl [] (-1) false 0 _ _ _ (by repeat (first | exact HCk.out | (with_reducible refine Kd.C_alloc ?_ _) | (with_reducible refine Kd.C_drewN ?_ _) | (with_reducible refine Kd.C_drew ?_))) HLk.out (by repeat (first | exact HCl.out | (with_reducible refine Kd.C_alloc ?_ _) | (with_reducible refine Kd.C_drewN ?_ _) | (with_reducible refine Kd.C_drew ?_))) HLl.out p_rd2).mono ?_); rintro e wr_ ⟨vr_, rfl, ho0, hb⟩; have H3 := Aside0.mk (bytes_R ho0); obtain ⟨Ab_, cb_, eb_, _, _⟩ := bytes_R ho0; subst eb_; have HBn := Aside0.mk (below_step (w := wg) (by repeat (first | exact Below.refl _ _ | exact HB31.out | apply below_alloc | apply pw_below_drewN | apply below_drew1)) hb); clear HB31; have HB31 := HBn; clear HBn; clear ho0 hb)))
    go_meet
    exact ⟨H3.out, rfl, HB31.out⟩
  case rest =>
  obtain ⟨wh, hw_⟩ : ∃ x : World, x = wc := ⟨_, rfl⟩
  subst hw_
  clear HK11 HC11 HL11 HC12 HL12 qa11 qb11 qc11 qd11 qe11 qf11 qg11 qh11 HD5
  obtain ⟨b12, rfl, hb⟩ := hcut
  have HDn := Aside0.mk (HD1.out.below hb)
  clear HD1
  have HD1 := HDn
  clear HDn
  have HDn := Aside0.mk (HB10.out.below hb)
  clear HB10
  have HB10 := HDn
  clear HDn
  have HBn := Aside0.mk (below_step HBA.out hb)
  clear HBA
  have HBA := HBn
  clear HBn
  have HB12 := Aside0.mk b12
  clear hb b12
  obtain ⟨A13, c13, A14, c14, hb1, hC1, hl1, hC2, hl2⟩ := HD1.out
  have HK13 := Aside0.mk hb1
  have HC13 := Aside0.mk hC1
  have HL13 := Aside0.mk hl1
  have HC14 := Aside0.mk hC2
  have HL14 := Aside0.mk hl2
  obtain ⟨⟨qa13, qb13, qc13, qd13⟩, qe13, qf13, qg13, qh13⟩ := disk_cells hb1
  clear hb1 hC1 hl1 hC2 hl2
  go_upto_region 8 with fail
  go_cut [14, 15] (fun v14 v15 wc => ∃ g : Nat, v14 = .pointer (some ⟨g, 0, none⟩) ∧ v15 = .int .i64 23 ∧ DiskAt wc g [aw_z64, aw_z64] aw_W3 0 true ∧ Below wh.heap.size wh wc)
  case first =>
    have HB31 := Aside0.mk (Below.refl wh.heap.size wh)
    go_wp2_with (first
      | (go_at_call 23; ((refine (device_Arm.calls 100 A13 c13 [aw_z64, aw_z64] A14 c14 [] (-1) false 0 _ _ _ _ _ (by repeat (first | exact (Kd.C_below HC13.out HB31.out) | (with_reducible refine Kd.C_alloc ?_ _) | (with_reducible refine Kd.C_drewN ?_ _) | (with_reducible refine Kd.C_drew ?_))) HL13.out (by repeat (first | exact (Kd.C_below HC14.out HB31.out) | (with_reducible refine Kd.C_alloc ?_ _) | (with_reducible refine Kd.C_drewN ?_ _) | (with_reducible refine Kd.C_drew ?_))) HL14.out p_arm).mono ?_); rintro e wk_ ⟨vk_, vl_, rfl, ho0, ho1, hb⟩; obtain ⟨Ak, ck, rfl⟩ := Kd.S_slice ho0; obtain ⟨Al, cl, rfl⟩ := Kd.S_slice ho1; have HCk := Aside0.mk (Kd.S_reads' ho0).2.2; have HLk := Aside0.mk (Kd.S_reads' ho0).2.1; have HCl := Aside0.mk (Kd.S_reads' ho1).2.2; have HLl := Aside0.mk (Kd.S_reads' ho1).2.1; have HBn := Aside0.mk (below_step (w := wh) (by repeat (first | exact Below.refl _ _ | exact HB31.out | apply below_alloc | apply pw_below_drewN | apply below_drew1)) hb); clear HB31; have HB31 := HBn; clear HBn; clear ho0 ho1 hb))
      | (go_at_call 31; ((refine (mapsheetslaw24_block.calls 100 4 _ _ p_blk4).mono ?_); rintro e wq ⟨v0, rfl, ho0, hb⟩; obtain ⟨Ap, cp, rfl⟩ := Kd.R_slice ho0; have H0 := Aside0.mk ho0; have HBq := Aside0.mk hb; have HBn := Aside0.mk (below_step (w := wh) (by repeat (first | exact Below.refl _ _ | exact HB31.out | apply below_alloc | apply pw_below_drewN | apply below_drew1)) hb); clear HB31; have HB31 := HBn; clear HBn; clear ho0 hb))
      | (go_at_call 13; ((refine (device_Write.calls 100 Ak ck [aw_z64, aw_z64] Al cl [] 0 false 1 Ap cp aw_f64 _ _ _ _ _ _ (by repeat (first | exact (Kd.C_below HCk.out HBq.out) | (with_reducible refine Kd.C_alloc ?_ _) | (with_reducible refine Kd.C_drewN ?_ _) | (with_reducible refine Kd.C_drew ?_))) HLk.out (by repeat (first | exact (Kd.C_below HCl.out HBq.out) | (with_reducible refine Kd.C_alloc ?_ _) | (with_reducible refine Kd.C_drewN ?_ _) | (with_reducible refine Kd.C_drew ?_))) HLl.out (by repeat (first | exact (Kd.R_reads' H0.out).2.2 | (with_reducible refine Kd.C_alloc ?_ _) | (with_reducible refine Kd.C_drewN ?_ _) | (with_reducible refine Kd.C_drew ?_))) (Kd.R_reads' H0.out).2.1 p_wr4).mono ?_); rintro e wr ⟨v3, v4, rfl, ho0, ho1, hb⟩; obtain ⟨Aq, cq, rfl⟩ := Kd.S_slice ho0; obtain ⟨Ar, cr, rfl⟩ := Kd.S_slice ho1; have H3 := Aside0.mk ho0; have H4 := Aside0.mk ho1; have HBn := Aside0.mk (below_step (w := wh) (by repeat (first | exact Below.refl _ _ | exact HB31.out | apply below_alloc | apply pw_below_drewN | apply below_drew1)) hb); clear HB31; have HB31 := HBn; clear HBn; clear ho0 ho1 hb)))
    go_meet
    exact ⟨_, rfl, rfl, disk_new (Kd.S_N H3.out) (Kd.S_N H4.out), below_alloc HB31.out _⟩
  case rest =>
  obtain ⟨wi, hw_⟩ : ∃ x : World, x = wc := ⟨_, rfl⟩
  subst hw_
  clear HK13 HC13 HL13 HC14 HL14 qa13 qb13 qc13 qd13 qe13 qf13 qg13 qh13
  obtain ⟨g14, rfl, rfl, d14, hb⟩ := hcut
  have HDn := Aside0.mk (HD1.out.below hb)
  clear HD1
  have HD1 := HDn
  clear HDn
  have HDn := Aside0.mk (HB10.out.below hb)
  clear HB10
  have HB10 := HDn
  clear HDn
  have HDn := Aside0.mk (HB12.out.below hb)
  clear HB12
  have HB12 := HDn
  clear HDn
  have HBn := Aside0.mk (below_step HBA.out hb)
  clear HBA
  have HBA := HBn
  clear HBn
  have HD14 := Aside0.mk d14
  clear hb d14
  obtain ⟨A15, c15, A16, c16, hb1, hC1, hl1, hC2, hl2⟩ := HD14.out
  have HK15 := Aside0.mk hb1
  have HC15 := Aside0.mk hC1
  have HL15 := Aside0.mk hl1
  have HC16 := Aside0.mk hC2
  have HL16 := Aside0.mk hl2
  obtain ⟨⟨qa15, qb15, qc15, qd15⟩, qe15, qf15, qg15, qh15⟩ := disk_cells hb1
  clear hb1 hC1 hl1 hC2 hl2
  go_upto_region 9 with fail
  go_cut [17] (fun v17 wc => v17 = .int .i64 23 ∧ Below wi.heap.size wi wc)
  case first =>
    have HB31 := Aside0.mk (Below.refl wi.heap.size wi)
    go_wp2_with (go_at_call 21; ((refine (device_Flush.calls 100 A15 c15 [aw_z64, aw_z64] A16 c16 aw_W3 0 true _ _ _ _ _ _ (by repeat (first | exact (Kd.C_below HC15.out HB31.out) | (with_reducible refine Kd.C_alloc ?_ _) | (with_reducible refine Kd.C_drewN ?_ _) | (with_reducible refine Kd.C_drew ?_))) HL15.out (by repeat (first | exact (Kd.C_below HC16.out HB31.out) | (with_reducible refine Kd.C_alloc ?_ _) | (with_reducible refine Kd.C_drewN ?_ _) | (with_reducible refine Kd.C_drew ?_))) HL16.out p_fl).mono ?_); rintro e wk_ ⟨vk_, vl_, rfl, ho0, ho1, hb⟩; obtain ⟨Ak, ck, rfl⟩ := Kd.N_slice ho0; obtain ⟨Al, cl, rfl⟩ := Kd.N_slice ho1; have HBn := Aside0.mk (below_step (w := wi) (by repeat (first | exact Below.refl _ _ | exact HB31.out | apply below_alloc | apply pw_below_drewN | apply below_drew1)) hb); clear HB31; have HB31 := HBn; clear HBn; clear ho0 ho1 hb))
    go_meet
    exact ⟨rfl, below_alloc HB31.out _⟩
  case rest =>
  obtain ⟨wj, hw_⟩ : ∃ x : World, x = wc := ⟨_, rfl⟩
  subst hw_
  clear HK15 HC15 HL15 HC16 HL16 qa15 qb15 qc15 qd15 qe15 qf15 qg15 qh15
  obtain ⟨rfl, hb⟩ := hcut
  have HDn := Aside0.mk (HD1.out.below hb)
  clear HD1
  have HD1 := HDn
  clear HDn
  have HDn := Aside0.mk (HB10.out.below hb)
  clear HB10
  have HB10 := HDn
  clear HDn
  have HDn := Aside0.mk (HB12.out.below hb)
  clear HB12
  have HB12 := HDn
  clear HDn
  have HDn := Aside0.mk (HD14.out.below hb)
  clear HD14
  have HD14 := HDn
  clear HDn
  have HBn := Aside0.mk (below_step HBA.out hb)
  clear HBA
  have HBA := HBn
  clear HBn
  clear hb
  obtain ⟨A17, c17, A18, c18, hb1, hC1, hl1, hC2, hl2⟩ := HD14.out
  have HK17 := Aside0.mk hb1
  have HC17 := Aside0.mk hC1
  have HL17 := Aside0.mk hl1
  have HC18 := Aside0.mk hC2
  have HL18 := Aside0.mk hl2
  obtain ⟨⟨qa17, qb17, qc17, qd17⟩, qe17, qf17, qg17, qh17⟩ := disk_cells hb1
  clear hb1 hC1 hl1 hC2 hl2
  go_upto_region 10 with fail
  go_cut [18, 19] (fun v18 v19 wc => BytesAt wc v18 aw_z64 ∧ v19 = .int .i64 0 ∧ Below wj.heap.size wj wc)
  case first =>
    have HB31 := Aside0.mk (Below.refl wj.heap.size wj)
    go_wp2_with (first | (go_at_call 25; ((refine (device_Crash.calls 100 A17 c17 [aw_z64, aw_z64] A18 c18 aw_W3 0 true none 0 [] _ _ _ _ _ (by repeat (first | exact (Kd.C_below HC17.out HB31.out) | (with_reducible refine Kd.C_alloc ?_ _) | (with_reducible refine Kd.C_drewN ?_ _) | (with_reducible refine Kd.C_drew ?_))) HL17.out (by repeat (first | exact (Kd.C_below HC18.out HB31.out) | (with_reducible refine Kd.C_alloc ?_ _) | (with_reducible refine Kd.C_drewN ?_ _) | (with_reducible refine Kd.C_drew ?_))) HL18.out (Kd.C_nil _ _) (Nat.le_refl 0) p_cr2).mono ?_); rintro e wk_ ⟨vk_, vl_, rfl, ho0, ho1, hb⟩; obtain ⟨Ak, ck, rfl⟩ := Kd.N_slice ho0; obtain ⟨Al, cl, rfl⟩ := Kd.N_slice ho1; have HCk := Aside0.mk (Kd.N_reads' ho0).2.2; have HLk := Aside0.mk (Kd.N_reads' ho0).2.1; have HCl := Aside0.mk (Kd.N_reads' ho1).2.2; have HLl := Aside0.mk (Kd.N_reads' ho1).2.1; have HBn := Aside0.mk (below_step (w := wj) (by repeat (first | exact Below.refl _ _ | exact HB31.out | apply below_alloc | apply pw_below_drewN | apply below_drew1)) hb); clear HB31; have HB31 := HBn; clear HBn; clear ho0 ho1 hb)) | (go_at_call 15; ((refine (device_Read.calls 100 Ak ck [aw_z64, aw_z64] Al cl [] (-1) false 1 _ _ _ (by repeat (first | exact HCk.out | (with_reducible refine Kd.C_alloc ?_ _) | (with_reducible refine Kd.C_drewN ?_ _) | (with_reducible refine Kd.C_drew ?_))) HLk.out (by repeat (first | exact HCl.out | (with_reducible refine Kd.C_alloc ?_ _) | (with_reducible refine Kd.C_drewN ?_ _) | (with_reducible refine Kd.C_drew ?_))) HLl.out p_rd3).mono ?_); rintro e wr_ ⟨vr_, rfl, ho0, hb⟩; have H3 := Aside0.mk (bytes_R ho0); obtain ⟨Ab_, cb_, eb_, _, _⟩ := bytes_R ho0; subst eb_; have HBn := Aside0.mk (below_step (w := wj) (by repeat (first | exact Below.refl _ _ | exact HB31.out | apply below_alloc | apply pw_below_drewN | apply below_drew1)) hb); clear HB31; have HB31 := HBn; clear HBn; clear ho0 hb)))
    go_meet
    exact ⟨H3.out, rfl, HB31.out⟩
  case rest =>
  obtain ⟨wl, hw_⟩ : ∃ x : World, x = wc := ⟨_, rfl⟩
  subst hw_
  clear HK17 HC17 HL17 HC18 HL18 qa17 qb17 qc17 qd17 qe17 qf17 qg17 qh17
  obtain ⟨b18, rfl, hb⟩ := hcut
  have HDn := Aside0.mk (HD1.out.below hb)
  clear HD1
  have HD1 := HDn
  clear HDn
  have HDn := Aside0.mk (HB10.out.below hb)
  clear HB10
  have HB10 := HDn
  clear HDn
  have HDn := Aside0.mk (HB12.out.below hb)
  clear HB12
  have HB12 := HDn
  clear HDn
  have HDn := Aside0.mk (HD14.out.below hb)
  clear HD14
  have HD14 := HDn
  clear HDn
  have HBn := Aside0.mk (below_step HBA.out hb)
  clear HBA
  have HBA := HBn
  clear HBn
  have HB18 := Aside0.mk b18
  clear hb b18
  obtain ⟨A19, c19, A20, c20, hb1, hC1, hl1, hC2, hl2⟩ := HD14.out
  have HK19 := Aside0.mk hb1
  have HC19 := Aside0.mk hC1
  have HL19 := Aside0.mk hl1
  have HC20 := Aside0.mk hC2
  have HL20 := Aside0.mk hl2
  obtain ⟨⟨qa19, qb19, qc19, qd19⟩, qe19, qf19, qg19, qh19⟩ := disk_cells hb1
  clear hb1 hC1 hl1 hC2 hl2
  obtain ⟨A21, c21, A22, c22, hb1, hC1, hl1, hC2, hl2⟩ := HD1.out
  have HK21 := Aside0.mk hb1
  have HC21 := Aside0.mk hC1
  have HL21 := Aside0.mk hl1
  have HC22 := Aside0.mk hC2
  have HL22 := Aside0.mk hl2
  obtain ⟨⟨qa21, qb21, qc21, qd21⟩, qe21, qf21, qg21, qh21⟩ := disk_cells hb1
  clear hb1 hC1 hl1 hC2 hl2
  obtain ⟨A30, c30, rfl, hC1, hl1⟩ := HB10.out
  have HC30 := Aside0.mk hC1
  have HL30 := Aside0.mk hl1
  clear hC1 hl1
  obtain ⟨A31, c31, rfl, hC1, hl1⟩ := HB12.out
  have HC31 := Aside0.mk hC1
  have HL31 := Aside0.mk hl1
  clear hC1 hl1
  obtain ⟨A32, c32, rfl, hC1, hl1⟩ := HB18.out
  have HC32 := Aside0.mk hC1
  have HL32 := Aside0.mk hl1
  clear hC1 hl1
  have HB31 := Aside0.mk (Below.refl wl.heap.size wl)
  go_wp2_with (first | (go_at_call 31; (with_reducible refine (mapsheetslaw24_block.calls 100 2 _ _ p_blk2).mono ?_); (rintro e wq ⟨v0, rfl, ho0, hb⟩; obtain ⟨Ap, cp, rfl⟩ := Kd.R_slice ho0; have HP := Aside0.mk ho0; have HKn := Aside0.mk (blk_below (g := g14) (o := .cells #[.slice A19 2 c19, .slice A20 aw_W3.length c20, .int .i64 0, .bool true] 25 (0, 0)) (by (with_reducible repeat (first | refine blk_drewN ?_ _ | refine blk_drew ?_ | refine blk_alloc ?_ _)); exact HK19.out) hb); clear HK19; have HK19 := HKn; clear HKn; obtain ⟨⟨na_, nb_, nc_, nd_⟩, ne_, nf_, ng_, nh_⟩ := disk_cells HK19.out; have HBn := Aside0.mk (below_step (w := wl) (by repeat (first | exact Below.refl _ _ | exact HB31.out | apply below_alloc | apply pw_below_drewN | apply below_drew1)) hb); clear HB31; have HB31 := HBn; clear HBn; clear ho0 hb)) | (go_at_call 31; (with_reducible refine (mapsheetslaw24_block.calls 100 1 _ _ p_blk1).mono ?_); (rintro e wq ⟨v0, rfl, ho0, hb⟩; obtain ⟨Ap, cp, rfl⟩ := Kd.R_slice ho0; have HP := Aside0.mk ho0; have HKn := Aside0.mk (blk_below (g := g14) (o := .cells #[.slice A19 2 c19, .slice A20 aw_W3.length c20, .int .i64 0, .bool true] 25 (0, 0)) (by (with_reducible repeat (first | refine blk_drewN ?_ _ | refine blk_drew ?_ | refine blk_alloc ?_ _)); exact HK19.out) hb); clear HK19; have HK19 := HKn; clear HKn; obtain ⟨⟨na_, nb_, nc_, nd_⟩, ne_, nf_, ng_, nh_⟩ := disk_cells HK19.out; have HBn := Aside0.mk (below_step (w := wl) (by repeat (first | exact Below.refl _ _ | exact HB31.out | apply below_alloc | apply pw_below_drewN | apply below_drew1)) hb); clear HB31; have HB31 := HBn; clear HBn; clear ho0 hb)) | (go_at_call 31; (with_reducible refine (mapsheetslaw24_block.calls 100 0 _ _ p_blk0).mono ?_); (rintro e wq ⟨v0, rfl, ho0, hb⟩; obtain ⟨Ap, cp, rfl⟩ := Kd.R_slice ho0; have HP := Aside0.mk ho0; have HKn := Aside0.mk (blk_below (g := g14) (o := .cells #[.slice A19 2 c19, .slice A20 aw_W3.length c20, .int .i64 0, .bool true] 25 (0, 0)) (by (with_reducible repeat (first | refine blk_drewN ?_ _ | refine blk_drew ?_ | refine blk_alloc ?_ _)); exact HK19.out) hb); clear HK19; have HK19 := HKn; clear HKn; obtain ⟨⟨na_, nb_, nc_, nd_⟩, ne_, nf_, ng_, nh_⟩ := disk_cells HK19.out; have HBn := Aside0.mk (below_step (w := wl) (by repeat (first | exact Below.refl _ _ | exact HB31.out | apply below_alloc | apply pw_below_drewN | apply below_drew1)) hb); clear HB31; have HB31 := HBn; clear HBn; clear ho0 hb)) | (go_at_call 18; (with_reducible refine (mapsheetsref24_SameBytes.calls 100 A30 c30 aw_t64 Ap cp aw_t64 true _ ?s1 ?s2 ?s3 ?s4 p_sb2).mono ?_); (case s1 => (exact (Kd.C_below HC30.out HB31.out))); (case s2 => exact HL30.out); (case s3 => (exact (Kd.R_reads' HP.out).2.2)); (case s4 => exact (Kd.R_reads' HP.out).2.1); (rintro e wq ⟨rfl, hd⟩; have hb := hd.below; have HKn := Aside0.mk (blk_below (g := g14) (o := .cells #[.slice A19 2 c19, .slice A20 aw_W3.length c20, .int .i64 0, .bool true] 25 (0, 0)) (by (with_reducible repeat (first | refine blk_drewN ?_ _ | refine blk_drew ?_ | refine blk_alloc ?_ _)); exact HK19.out) hb); clear HK19; have HK19 := HKn; clear HKn; obtain ⟨⟨na_, nb_, nc_, nd_⟩, ne_, nf_, ng_, nh_⟩ := disk_cells HK19.out; have HBn := Aside0.mk (below_step (w := wl) (by repeat (first | exact Below.refl _ _ | exact HB31.out | apply below_alloc | apply pw_below_drewN | apply below_drew1)) hb); clear HB31; have HB31 := HBn; clear HBn; clear hb hd)) | (go_at_call 18; (with_reducible refine (mapsheetsref24_SameBytes.calls 100 A31 c31 aw_o64 Ap cp aw_o64 true _ ?s1 ?s2 ?s3 ?s4 p_sb1).mono ?_); (case s1 => (exact (Kd.C_below HC31.out HB31.out))); (case s2 => exact HL31.out); (case s3 => (exact (Kd.R_reads' HP.out).2.2)); (case s4 => exact (Kd.R_reads' HP.out).2.1); (rintro e wq ⟨rfl, hd⟩; have hb := hd.below; have HKn := Aside0.mk (blk_below (g := g14) (o := .cells #[.slice A19 2 c19, .slice A20 aw_W3.length c20, .int .i64 0, .bool true] 25 (0, 0)) (by (with_reducible repeat (first | refine blk_drewN ?_ _ | refine blk_drew ?_ | refine blk_alloc ?_ _)); exact HK19.out) hb); clear HK19; have HK19 := HKn; clear HKn; obtain ⟨⟨na_, nb_, nc_, nd_⟩, ne_, nf_, ng_, nh_⟩ := disk_cells HK19.out; have HBn := Aside0.mk (below_step (w := wl) (by repeat (first | exact Below.refl _ _ | exact HB31.out | apply below_alloc | apply pw_below_drewN | apply below_drew1)) hb); clear HB31; have HB31 := HBn; clear HBn; clear hb hd)) | (go_at_call 18; (with_reducible refine (mapsheetsref24_SameBytes.calls 100 A32 c32 aw_z64 Ap cp aw_z64 true _ ?s1 ?s2 ?s3 ?s4 p_sb0).mono ?_); (case s1 => (exact (Kd.C_below HC32.out HB31.out))); (case s2 => exact HL32.out); (case s3 => (exact (Kd.R_reads' HP.out).2.2)); (case s4 => exact (Kd.R_reads' HP.out).2.1); (rintro e wq ⟨rfl, hd⟩; have hb := hd.below; have HKn := Aside0.mk (blk_below (g := g14) (o := .cells #[.slice A19 2 c19, .slice A20 aw_W3.length c20, .int .i64 0, .bool true] 25 (0, 0)) (by (with_reducible repeat (first | refine blk_drewN ?_ _ | refine blk_drew ?_ | refine blk_alloc ?_ _)); exact HK19.out) hb); clear HK19; have HK19 := HKn; clear HKn; obtain ⟨⟨na_, nb_, nc_, nd_⟩, ne_, nf_, ng_, nh_⟩ := disk_cells HK19.out; have HBn := Aside0.mk (below_step (w := wl) (by repeat (first | exact Below.refl _ _ | exact HB31.out | apply below_alloc | apply pw_below_drewN | apply below_drew1)) hb); clear HB31; have HB31 := HBn; clear HBn; clear hb hd)))
  go_ret
  exact ⟨rfl, below_step HBA.out HB31.out⟩
def mapsheetslaw24_awake.f : Option Bool := some true
theorem mapsheetslaw24_awake.calls (r : Bool) (w : World) (h : mapsheetslaw24_awake.f = some r) : Calls Try.prog 12 #[] w fun e w' => e = .returned (.bool r) ∧ Below w.heap.size w w' := by
  obtain rfl := Option.some.inj h
  exact awake_walk w

end Go.Proofs.Ytjicigagejihhaa.PA
