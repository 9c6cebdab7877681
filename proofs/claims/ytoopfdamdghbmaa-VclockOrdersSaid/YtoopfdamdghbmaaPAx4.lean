-- Written by wip/pp.py of this repository, on the kit's print program. Not trusted: Lean checks it.
import Derived.Test.YtoopfdamdghbmaaPAx0
import Derived.Test.YtoopfdamdghbmaaPAx1
import Derived.Test.YtoopfdamdghbmaaPAx2
import Derived.Test.YtoopfdamdghbmaaPAx3
namespace Go.Proofs.Ytoopfdamdghbmaa.PA
open Go.RowKit Go.Proofs.YtoopfdamdghbmaaW.PrintWords Go.Proofs.YtoopfdamdghbmaaW.PrintLast Go.Proofs.YtoopfdamdghbmaaW.PrintMore
attribute [local go_sem] max2_int min2_int max_two min_two max_three min_three max_four min_four   -- for this text's walks alone
set_option linter.unusedVariables false
set_option linter.unusedSimpArgs false

/-! ### vclock_Of: function 11 -/
theorem heap_k46 : Kd.Heap k46 := by
  unfold k46 k103 k100
  repeat (first | apply Kd.heap_iso | apply Kd.heap_pair | apply Kd.heap_int | apply Kd.heap_string | apply Kd.heap_bool | apply Kd.heap_slice)
/-- The literal of Of: it tells of the transactions of one office. -/
def ofOffice (k : Nat) (x : S46) : Bool := decide (x.f0 = (k : Int) + 1) && decide (x.f1 > 0)
/-- How far the numbers go without a gap. -/
def upto : Int → List Int → Int
  | n, [] => n
  | n, x :: r => if x = n + 1 then upto x r else n
def ofSeqs (l : List S46) (k : Nat) : List Int := Go.Lib.compact (((l.filter (ofOffice k)).map (·.f1)).mergeSort fun x y => decide (x ≤ y))
def ofF (l : List S46) (k : Nat) : Int := upto 0 (ofSeqs l k)
set_option maxHeartbeats 1000000 in
theorem of_lit (gi k : Nat) (w : World) (hk : k < 8) (hg : w.heap[gi]? = some (.cells #[.int .i64 (k : Int)] 3 (0, 0))) :
    TellsT Try.prog 29 #[.pointer (some ⟨gi, 0, none⟩)] (ofOffice k) w := by
  intro W x A c hb
  obtain ⟨a0, a1, a2, a3, l4⟩ := x
  show Calls Try.prog 29 #[.agg #[.int .i64 a0, .int .i64 a1, .int .i64 a2, .string a3, .slice A l4.length c], .pointer (some ⟨gi, 0, none⟩)] W _
  have hb2 := below_alloc (Below.refl W.heap.size W) (.cells #[.int .i64 a0, .int .i64 a1, .int .i64 a2, .string a3, .slice A l4.length c] 46 (0, 0))
  have HB := Aside0.mk hb2
  have hgi := blk_below (blk_below hg hb) hb2
  have hgt := heap_alloc_new W (.cells #[.int .i64 a0, .int .i64 a1, .int .i64 a2, .string a3, .slice A l4.length c] 46 (0, 0))
  have HM := Aside0.mk (show ofOffice k ⟨a0, a1, a2, a3, l4⟩ = (decide (a0 = (k : Int) + 1) && decide (a1 > 0)) from rfl)
  clear hg hb hb2
  go_enter Try.func29, Try.ntmps29
  go_upto_region 1 with fail
  generalize W.alloc (.cells #[.int .i64 a0, .int .i64 a1, .int .i64 a2, .string a3, .slice A l4.length c] 46 (0, 0)) = wa at HB hgi hgt ⊢
  obtain ⟨gt, hgt_⟩ : ∃ g, W.heap.size = g := ⟨_, rfl⟩
  rw [hgt_] at hgt ⊢
  have q0 : wa.cell? ⟨gi, 0, none⟩ = some (.int .i64 (k : Int)) := (blk_cell hgi 0).trans rfl
  have p0 : wa.cell? ⟨gt, 0, none⟩ = some (.int .i64 a0) := (blk_cell hgt 0).trans rfl
  have p1 : wa.cell? ⟨gt, 1, none⟩ = some (.int .i64 a1) := (blk_cell hgt 1).trans rfl
  clear hgi hgt
  by_cases h1 : a0 = (k : Int) + 1
  · have d1 : decide (a0 = (k : Int) + 1) = true := by simp [h1]
    have HD := Aside0.mk d1
    go_wp2
    go_ret
    subst hgt_
    exact ⟨by simp [ofOffice, h1], HB.out⟩
  · have d1 : decide (a0 = (k : Int) + 1) = false := by simp [h1]
    have HD := Aside0.mk d1
    go_wp2
    go_ret
    subst hgt_
    exact ⟨by simp [ofOffice, h1], HB.out⟩
/-- compact hands back no more than it took. -/
theorem compact_len (xs : List Int) : (Go.Lib.compact xs).length ≤ xs.length := by
  unfold Go.Lib.compact Go.Lib.compactUpTo
  rw [List.length_map]
  have := List.length_filter_le (Go.Lib.keeps xs.toArray) (List.range xs.length)
  simpa using this
theorem sort_ownZ (v : Value) (xs ss : List Int) (hss : xs.mergeSort (fun x y => decide (x ≤ y)) = ss) (w0 w : World) (base : Nat) (ho : (Kd.int .i64).R 3 w base (fun _ => True) v xs) (hb : Below base w0 w) (hbs : base ≤ w.heap.size) (hsz : xs.length < 4611686018427387904) :
    Calls Try.prog 30 #[v] w fun e w' => e = .returned (.tuple #[]) ∧ (Kd.int .i64).R 3 w' base (fun _ => True) v ss ∧ Below base w0 w' ∧ base ≤ w'.heap.size := by
  subst hss; exact sort_own v xs w0 w base ho hb hbs hsz
theorem compact_ownZ (v : Value) (xs zs : List Int) (hzs : Go.Lib.compact xs = zs) (w0 w : World) (base : Nat) (ho : (Kd.int .i64).R 3 w base (fun _ => True) v xs) (hb : Below base w0 w) (hbs : base ≤ w.heap.size) (hsz : xs.length ≤ 9223372036854775807) :
    Calls Try.prog 31 #[v] w fun e w' => ∃ v', e = .returned v' ∧ (Kd.int .i64).R 3 w' base (fun _ => True) v' zs ∧ Below base w0 w' := by
  subst hzs; exact compact_own v xs w0 w base ho hb hbs hsz
theorem arr_same {w : World} {g : Nat} {F G : Nat → Int} (h : ArrAt w g F) (e : ∀ j, j < 8 → F j = G j) : ArrAt w g G := by
  unfold ArrAt at h ⊢
  rw [h, arr_congr e]
def vclock_Of.f (l0 : List S46) : Option (List Int) := if l0.length < 2199023255552 then some (trim (ofF l0)) else none
set_option maxHeartbeats 8000000 in
set_option maxRecDepth 100000 in
theorem vclock_Of.calls (A0 : Option Addr) (c0 : Nat) (l0 : List (S46)) (r : List Int) (w : World) (hr0 : Kd.C k46 w A0 l0.length l0) (hc0 : l0.length ≤ c0) (h : vclock_Of.f l0 = some r) :
    Calls Try.prog 11 #[.slice A0 l0.length c0] w fun e w' => ∃ v0_ : Value, e = .returned (.agg #[v0_]) ∧ Kd.R (Kd.int .i64) 3 w' w.heap.size (fun _ => True) v0_ r ∧ Below w.heap.size w w' := by
  unfold vclock_Of.f at h
  by_cases hl : l0.length < 2199023255552
  case neg => rw [if_neg hl] at h; cases h
  rw [if_pos hl] at h
  injection h with h
  have HR := Aside0.mk hr0
  have HC := Aside0.mk hc0
  have HN := Aside0.mk hl
  have HH := Aside0.mk h
  have hb2 := boxes2 w #[.slice none 0 0] (arr fun _ => 0) 27 48
  clear hr0 hc0 hl h
  go_enter Try.func11, Try.ntmps11
  go_upto_region 2 with fail
  change Code.wp _ _ _ _ ((w.alloc (.cells #[.slice none 0 0] 27 (0, 0))).alloc (.cells (arr fun _ => 0) 48 (0, 0)))
  generalize (w.alloc (.cells #[.slice none 0 0] 27 (0, 0))).alloc (.cells (arr fun _ => 0) 48 (0, 0)) = wa at hb2 ⊢
  obtain ⟨hg1, hg2, hbw, hsz⟩ := hb2
  generalize hg_ : w.heap.size = g at hg1 hg2 hsz
  have HG1 := Aside0.mk hg1
  have HA := Aside0.mk (show ArrAt wa (g + 1) (fun _ => 0) from hg2)
  have HB := Aside0.mk hbw
  have HGE := Aside0.mk hg_
  clear hg1 hg2 hbw hsz hg_
  go_wp2
  go_loopw [11] (fun i wr => ∃ k : Nat, k ≤ 8 ∧ i = .int .i64 k ∧ Aside0 (ArrAt wr (g + 1) (fun j => if j < k then ofF l0 j else 0)) ∧ Aside0 (wr.heap[g]? = some (.cells #[.slice none 0 0] 27 (0, 0))) ∧ Aside0 (Below w.heap.size w wr)) (fun i _ => 8 - (intOf i).toNat)
  case atStart => exact ⟨0, Nat.zero_le _, rfl, HA, HG1, HB⟩
  case round =>
    obtain ⟨k, hk, rfl, HAr, HGr, HW⟩ := hrel
    by_cases hlt : k < 8
    · have hbd : decide ((k : Int) < 8) = true := by simp; omega
      go_upto_region 4 with fail
      go_cut [4] (fun v4 wc => v4 = .pointer (some ⟨wr.heap.size, 0, none⟩) ∧ wc.heap[wr.heap.size]? = some (.cells #[.int .i64 (k : Int)] 3 (0, 0)) ∧ Below wr.heap.size wr wc)
      case first =>
        go_wp2
        go_meet
        exact ⟨rfl, heap_alloc_new wr _, below_alloc (Below.refl _ _) _⟩
      case rest =>
      obtain ⟨w4, hw_⟩ : ∃ x : World, x = wc := ⟨_, rfl⟩
      subst hw_
      obtain ⟨rfl, hi4, hb4⟩ := hcut
      have HI := Aside0.mk hi4
      have HW4 := Aside0.mk (below_step HW.out hb4)
      have HA4 := Aside0.mk (HAr.out.below hb4)
      have HG4 := Aside0.mk (blk_below HGr.out hb4)
      have HLt := Aside0.mk (show g + 1 < wr.heap.size from HAr.out.lt)
      clear hi4 hb4 HAr HGr HW
      generalize wr.heap.size = gi at HI HLt
      go_upto_region 5 with fail
      go_cut [5] (fun v5 wc => ∃ A5 c5, v5 = .slice A5 (l0.filter (ofOffice k)).length c5 ∧ Kd.C k46 wc A5 (l0.filter (ofOffice k)).length (l0.filter (ofOffice k)) ∧ (l0.filter (ofOffice k)).length ≤ c5 ∧ Below w4.heap.size w4 wc)
      case first =>
        have HS := Aside0.mk (of_lit gi k w4 hlt HI.out)
        have HE := Aside0.mk (chosenT_eq (ofOffice k) l0 HN.out)
        have HV := Aside0.mk (show Kd.V k46 46 w4 w4.heap.size (fun k => k < w4.heap.size) (.slice A0 l0.length c0) l0 from Kd.V_mk HC.out (Kd.C_F heap_k46 (Kd.C_below HR.out HW4.out)))
        go_wp2_with (go_at_call 28; refine (api_Txn.calls (ofOffice k) 29 _ #[.pointer (some ⟨gi, 0, none⟩)] Try.func29 (by kernel_rfl) rfl (l0.length + 1) (fun k => k < w4.heap.size) A0 c0 l0 _ _ HS.out HV.out HE.out).mono ?_; rintro e w1 ⟨v1, rfl, ho, hb⟩; have HO := Aside0.mk ho; have HB1 := Aside0.mk hb; clear ho hb)
        go_meet
        obtain ⟨A5, c5, rfl⟩ := Kd.N_slice HO.out
        have hrd := Kd.N_reads' HO.out
        exact ⟨A5, c5, rfl, hrd.2.2, hrd.2.1, HB1.out⟩
      case rest =>
      obtain ⟨w5, hw_⟩ : ∃ x : World, x = wc := ⟨_, rfl⟩
      subst hw_
      obtain ⟨A5, c5, rfl, hC5, hl5, hb5⟩ := hcut
      have HC5 := Aside0.mk hC5
      have HL5 := Aside0.mk hl5
      have HW5 := Aside0.mk (below_step HW4.out hb5)
      have HA5 := Aside0.mk (HA4.out.below hb5)
      have HG5 := Aside0.mk (blk_below HG4.out hb5)
      have HI5 := Aside0.mk (blk_below HI.out hb5)
      have HY : Aside0 (ofF l0 k = upto 0 (Go.Lib.compact (((l0.filter (ofOffice k)).map (·.f1)).mergeSort fun x y => decide (x ≤ y)))) := ⟨rfl⟩
      have hny : (l0.filter (ofOffice k)).length < 2199023255552 := Nat.lt_of_le_of_lt (List.length_filter_le _ _) HN.out
      clear hC5 hl5 hb5 HW4 HA4 HG4 HI
      generalize l0.filter (ofOffice k) = ys at HC5 HL5 HY hny ⊢
      go_upto_region 6 with fail
      go_cut [6] (fun v6 wc => Kd.R (Kd.int .i64) 3 wc w5.heap.size (fun _ => True) v6 (List.replicate ys.length 0) ∧ Below w5.heap.size w5 wc)
      case first =>
        go_wp2_with ((with_reducible refine gate_dst (N := 19) rfl ?_); refine Kd.R_make (Kd.int .i64) _ 3 rfl (N := 19) rfl 25 _ _ rfl (ys.length : Int) rfl rfl Try.underlying25 (.int .i64 0) 8 info3 rfl (by decide) (by omega) 0 (ok := fun _ => True) (okp := fun _ => True) rfl (fun _ hk => hk) trivial (by omega) (by simp; omega) (Below.refl _ _) (Nat.le_refl _) ?_; intro v1 w1 ho hb _ _; have HO := Aside0.mk ho; have HB1 := Aside0.mk hb; clear ho hb)
        go_meet
        exact ⟨by simpa using HO.out, HB1.out⟩
      case rest =>
      obtain ⟨w6, hw_⟩ : ∃ x : World, x = wc := ⟨_, rfl⟩
      subst hw_
      obtain ⟨hR6, hb6⟩ := hcut
      obtain ⟨A6, c6, rfl⟩ := Kd.R_slice hR6
      have hrl : (List.replicate ys.length (0 : Int)).length = ys.length := by simp
      rw [hrl] at hR6 ⊢
      clear hrl
      have HR6 := Aside0.mk hR6
      have HB6 := Aside0.mk hb6
      clear hR6 hb6
      go_wp2
      go_loopw [22] (fun i wr => ∃ j : Nat, j ≤ ys.length ∧ i = .int .i64 j ∧ Aside0 (Kd.R (Kd.int .i64) 3 wr w5.heap.size (fun _ => True) (.slice A6 ys.length c6) ((ys.take j).map (·.f1) ++ List.replicate (ys.length - j) 0)) ∧ Aside0 (Below w5.heap.size w5 wr)) (fun i _ => ys.length - (intOf i).toNat)
      case atStart => exact ⟨0, Nat.zero_le _, rfl, ⟨by simpa using HR6.out⟩, HB6⟩
      case round =>
        obtain ⟨j, hj, rfl, HV, HBj⟩ := hrel
        by_cases hlj : j < ys.length
        · have hbj : decide ((j : Int) < (ys.length : Int)) = true := by simp; omega
          obtain ⟨ad, A4, c4, e, hx0, hx1, hx2, hx3, hx4, hl4, hi4⟩ := at_T46 (Kd.C_below HC5.out HBj.out) (j : Int) (by omega) (by omega)
          subst e
          obtain ⟨g6, cap6, e6, hbg, hlg, _⟩ := Kd.R_form HV.out (by simp; omega)
          injection e6 with e6 e7 e8
          subst e6 e8
          have hrd : rd_T46 ys (j : Int) = ys[j] := by simp [rd_T46, hlj]
          rw [hrd] at hx0 hx1 hx2 hx3 hx4
          simp only [Int.toNat_natCast] at hx0 hx1 hx2 hx3 hx4
          clear hrd e7 hbg hlg
          go_upto_region 9 with fail
          go_cut [7, 8] (fun v7 v8 wc => ∃ g8 : Nat, v7 = .int .i64 (j : Int) ∧ v8 = .pointer (some ⟨g8, 0, none⟩) ∧ wc.cell? ⟨g8, 1, none⟩ = some (.int .i64 (ys[j]).f1) ∧ Below wr.heap.size wr wc)
          case first =>
            go_wp2
            go_meet
            exact ⟨wr.heap.size, rfl, rfl, (blk_cell (heap_alloc_new wr _) 1).trans rfl, below_alloc (Below.refl _ _) _⟩
          case rest =>
          obtain ⟨g8, rfl, rfl, hq8, hb8⟩ := hcut
          have HV8 := Aside0.mk (Kd.R_below HV.out hb8)
          have HB8 := Aside0.mk (below_step HBj.out hb8)
          clear hb8 hx0 hx1 hx2 hx3 hx4 hl4 hi4
          obtain ⟨qn, zn⟩ := Kd.R_celln (0 : Int) HV8.out (j : Int) (by omega) (by omega)
          simp only [Int.toNat_natCast] at qn zn
          generalize rdOf (0 : Int) _ (j : Int) = old at qn
          have HP := Aside0.mk (Kd.R_putn HV8.out (j : Int) (ys[j]).f1)
          have HL : Aside0 (((ys.take j).map (fun x : S46 => x.f1) ++ List.replicate (ys.length - j) 0).set j (ys[j]).f1 = (ys.take (j + 1)).map (fun x : S46 => x.f1) ++ List.replicate (ys.length - (j + 1)) 0) := ⟨by
            have e1 : ys.length - j = (ys.length - (j + 1)) + 1 := by omega
            have e2 : ((ys.take j).map (fun x : S46 => x.f1)).length = j := by simp; omega
            rw [List.set_append_right _ _ (by omega), e2, Nat.sub_self, e1, List.replicate_succ, List.set_cons_zero, List.take_succ_eq_append_getElem hlj, List.map_append, List.append_assoc]
            rfl⟩
          have hg6 : w5.heap.size ≤ g6 := Kd.R_base HV8.out g6 rfl
          generalize (ys[j]).f1 = s1 at hq8 HP HL
          go_wp2
          refine ⟨⟨j + 1, by omega, by go_num, ⟨?_⟩, ⟨below_set HB8.out hg6⟩⟩, by simp [intOf]; omega⟩
          have hp := HP.out
          simp only [Int.toNat_natCast] at hp
          rw [HL.out] at hp
          exact hp
        · have hbj : decide ((j : Int) < (ys.length : Int)) = false := by simp; omega
          have hje : j = ys.length := by omega
          subst hje
          have HV2 : Aside0 (Kd.R (Kd.int .i64) 3 wr w5.heap.size (fun _ => True) (.slice A6 ys.length c6) (ys.map (·.f1))) := ⟨by
            have h := HV.out
            rwa [List.take_length, Nat.sub_self, List.replicate_zero, List.append_nil] at h⟩
          have hxl : (ys.map (fun x : S46 => x.f1)).length = ys.length := by simp
          generalize ys.map (fun x : S46 => x.f1) = xs at HV2 HY hxl
          rw [← hxl] at HV2 hny hbj hlj ⊢
          have HX := Aside0.mk hxl
          have HNy := Aside0.mk hny
          obtain ⟨ss, hss⟩ : ∃ ss, xs.mergeSort (fun x y => decide (x ≤ y)) = ss := ⟨_, rfl⟩
          obtain ⟨zs, hzs⟩ : ∃ zs, Go.Lib.compact ss = zs := ⟨_, rfl⟩
          have hsl : ss.length = xs.length := by rw [← hss]; exact List.length_mergeSort _
          have hzl : zs.length ≤ ss.length := by rw [← hzs]; exact compact_len ss
          have HYZ : Aside0 (ofF l0 k = upto 0 zs) := ⟨by rw [HY.out, hss, hzs]⟩
          have HSS := Aside0.mk hss
          have HZZ := Aside0.mk hzs
          have HSL := Aside0.mk hsl
          have hzb : zs.length < 2199023255552 := by omega
          have HBS := Aside0.mk (below_size HBj.out)
          have HGL := Aside0.mk HLt.out
          clear hxl hny hss hzs hsl hzl HY HV HR6 HB6 HC5 HL5 hj
          go_wp2_with (first
            | (go_at_call 30; refine (sort_ownZ _ xs ss HSS.out w5 _ w5.heap.size HV2.out HBj.out HBS.out (by have := HNy.out; omega)).mono ?_; rintro e w7 ⟨rfl, ho, hb, hs⟩; have HO7 := Aside0.mk ho; have HB7 := Aside0.mk hb; have HS7 := Aside0.mk hs; clear ho hb hs)
            | (go_at_call 31; refine (compact_ownZ _ ss zs HZZ.out w5 _ w5.heap.size HO7.out HB7.out HS7.out (by have := HNy.out; have := HSL.out; omega)).mono ?_; rintro e w8 ⟨v8, rfl, ho, hb⟩; have HO8 := Aside0.mk ho; have HB8 := Aside0.mk hb; clear ho hb; obtain ⟨A8, c8, rfl⟩ := Kd.R_slice HO8.out))
          have hb58 : Below w5.heap.size w5 w8 := HB8.out
          have HA8 := Aside0.mk (HA5.out.below hb58)
          have HG8 := Aside0.mk (blk_below HG5.out hb58)
          have HI8 := Aside0.mk (blk_below HI5.out hb58)
          have HW8 := Aside0.mk (below_step HW5.out hb58)
          have HGT : Aside0 (g + 1 < w5.heap.size) := ⟨HA5.out.lt⟩
          have HGI : Aside0 (gi < w5.heap.size) := ⟨blk_lt HI5.out⟩
          have HO9 : Aside0 ((Kd.int .i64).R 3 w8 w5.heap.size (fun q => q ≠ g + 1) (.slice A8 zs.length c8) zs) := ⟨Kd.R_mono (Kd.R_bound HO8.out) (fun q hq => by have := hq.2.1; have := HGT.out; omega)⟩
          clear hb58 HB8 HO8 HB7 HO7 HS7 HA5 HG5 HI5 HW5 HBj HV2
          go_loopw [38] (fun i wr => ∃ m : Nat, m ≤ zs.length ∧ i = .int .i64 m ∧ Aside0 (upto 0 zs = upto (m : Int) (zs.drop m)) ∧ Aside0 (ArrAt wr (g + 1) (fun j => if j < k then ofF l0 j else if j = k then (m : Int) else 0)) ∧ Aside0 ((Kd.int .i64).R 3 wr w5.heap.size (fun q => q ≠ g + 1) (.slice A8 zs.length c8) zs) ∧ Aside0 (wr.heap[gi]? = some (.cells #[.int .i64 (k : Int)] 3 (0, 0))) ∧ Aside0 (wr.heap[g]? = some (.cells #[.slice none 0 0] 27 (0, 0))) ∧ Aside0 (Below w.heap.size w wr)) (fun i _ => zs.length - (intOf i).toNat)
          case atStart => exact ⟨0, Nat.zero_le _, rfl, ⟨rfl⟩, ⟨arr_same HA8.out (fun j _ => by by_cases e : j < k <;> simp [e])⟩, HO9, HI8, HG8, HW8⟩
          case round =>
            obtain ⟨m, hm, rfl, HU, HAm, HOm, HIm, HGm, HWm⟩ := hrel
            have hmb : (m : Int) < 2199023255552 := by omega
            have hge : w.heap.size ≤ g + 1 := by have := HGE.out; omega
            have qi : wr.cell? ⟨gi, 0, none⟩ = some (.int .i64 (k : Int)) := (blk_cell HIm.out 0).trans rfl
            have qa : wr.cell? ⟨g + 1, k, none⟩ = some (.int .i64 (m : Int)) := by
              have h := HAm.out.get k hlt
              rw [h]
              simp
            have za : wr.frozen? ⟨g + 1, k, none⟩ = false := blk_frozen HAm.out k
            by_cases hlm : m < zs.length
            · have hbm : decide ((m : Int) < (zs.length : Int)) = true := by simp; omega
              obtain ⟨g8, cap8, e8, hbg, hlg, _⟩ := Kd.R_form HOm.out (by omega)
              injection e8 with e8 e9 e10
              subst e8 e10
              obtain ⟨qn, zn⟩ := Kd.R_celln (0 : Int) HOm.out (m : Int) (by omega) (by omega)
              have hrd : rdOf (0 : Int) zs (m : Int) = zs[m] := by simp [rdOf, hlm]
              rw [hrd] at qn
              simp only [Int.toNat_natCast] at qn zn
              have HDr : Aside0 (upto (m : Int) (zs.drop m) = if zs[m] = (m : Int) + 1 then upto zs[m] (zs.drop (m + 1)) else (m : Int)) := ⟨by rw [List.drop_eq_getElem_cons hlm]; rfl⟩
              generalize zs[m] = x at qn HDr
              clear hrd e9 hbg hlg zn
              by_cases hx : x = (m : Int) + 1
              · subst hx
                have hn1 : decide ((m : Int) + 1 = (m : Int) + 1) = true := by simp
                go_wp2
                go_roundw
                case rel =>
                  refine ⟨m + 1, by omega, by go_num, ⟨?_⟩, ⟨arr_same (HAm.out.put k ((m : Int) + 1)) (fun j _ => ?_)⟩, ⟨Kd.R_far (p := ⟨g + 1, k, none⟩) HOm.out (fun q hq => hq) _⟩, ⟨blk_far HIm.out (by have := HLt.out; show gi ≠ g + 1; omega) _⟩, ⟨blk_far HGm.out (show g ≠ g + 1 by omega) _⟩, ⟨below_set HWm.out hge⟩⟩
                  · have e1 : ((m + 1 : Nat) : Int) = (m : Int) + 1 := by omega
                    rw [HU.out, HDr.out, if_pos rfl, e1]
                  · by_cases e : j = k
                    · subst e; simp
                    · simp [e]
                case measure => simp [intOf]; omega
              · have hxd : decide (x = (m : Int) + 1) = false := by simp [hx]
                have HOF : Aside0 (ofF l0 k = (m : Int)) := ⟨by rw [HYZ.out, HU.out, HDr.out, if_neg hx]⟩
                have HAE : Aside0 (ArrAt wr (g + 1) (fun j => if j < k + 1 then ofF l0 j else 0)) := ⟨arr_same HAm.out (fun j _ => by
                  by_cases e : j = k
                  · subst e; simp [HOF.out]
                  · by_cases e2 : j < k
                    · have e3 : j < k + 1 := by omega
                      simp [e2, e3]
                    · have e3 : ¬ j < k + 1 := by omega
                      simp [e, e2, e3])⟩
                have hxe : (x == (m : Int) + 1) = false := by simp [hx]
                have hxn : (x != (m : Int) + 1) = true := by simp [hx]
                clear hx hxd
                go_wp2
                exact ⟨⟨k + 1, by omega, by go_num, HAE, HGm, HWm⟩, by simp [intOf]; omega⟩
            · have hbm : decide ((m : Int) < (zs.length : Int)) = false := by simp; omega
              have hme : m = zs.length := by omega
              have HOF : Aside0 (ofF l0 k = (m : Int)) := ⟨by rw [HYZ.out, HU.out, hme, List.drop_length]; rfl⟩
              have HAE : Aside0 (ArrAt wr (g + 1) (fun j => if j < k + 1 then ofF l0 j else 0)) := ⟨arr_same HAm.out (fun j _ => by
                by_cases e : j = k
                · subst e; simp [HOF.out]
                · by_cases e2 : j < k
                  · have e3 : j < k + 1 := by omega
                    simp [e2, e3]
                  · have e3 : ¬ j < k + 1 := by omega
                    simp [e, e2, e3])⟩
              subst hme
              go_wp2
              exact ⟨⟨k + 1, by omega, by go_num, HAE, HGm, HWm⟩, by simp [intOf]; omega⟩
    · have hbd : decide ((k : Int) < 8) = false := by simp; omega
      have hk8 : k = 8 := by omega
      have HA8 : Aside0 (ArrAt wr (g + 1) (ofF l0)) := ⟨by
        have h := HAr.out
        unfold ArrAt at h ⊢
        rw [h, arr_congr]
        intro j hj
        show (if j < k then _ else _) = _
        rw [if_pos (by omega)]⟩
      clear HAr
      generalize ofF l0 = M at HA8 HH
      obtain ⟨q0, q1, q2, q3, q4, q5, q6, q7⟩ := HA8.out.cells
      have hge : w.heap.size ≤ g := by have := HGE.out; omega
      go_wp2_with (go_at_call 32; refine (short_calls M wr).mono ?_; rintro e w1 ⟨v1, rfl, ho, hb⟩; obtain ⟨A1, c1, rfl⟩ := Kd.R_slice ho; have HO := Aside0.mk ho; have HB1 := Aside0.mk hb; have HC3 := Aside0.mk (blk_below HGr.out hb); have qc := (blk_cell HC3.out 0).trans rfl; have qz := blk_frozen HC3.out 0; clear ho hb)
      refine bodyPost_ret (results_cell_row rfl _ _ g 27 #[_] (0, 0) _ rfl (blk_put (cs := #[.slice none 0 0]) HC3.out 0 _ rfl) Try.underlying27 rfl (by kernel_rfl)) rfl ?_
      refine ⟨_, rfl, ?_, below_set (below_step HW.out HB1.out) hge⟩
      rw [← HH.out]
      have hgw : g < wr.heap.size := blk_lt HGr.out
      exact Kd.R_mono (Kd.R_lower (Kd.R_far (p := ⟨g, 0, none⟩) (Kd.R_mono (Kd.R_bound HO.out) (fun k hk => (show k ≠ g by have := hk.2.1; omega))) (fun k hk => hk) _) (below_size HW.out)) (fun _ _ => trivial)

end Go.Proofs.Ytoopfdamdghbmaa.PA
