-- Written by wip/pp.py of this repository, on the kit's print program. Not trusted: Lean checks it.
import Derived.Test.YtbogbpbapgjndaaPAx0
namespace Go.Proofs.Ytbogbpbapgjndaa.PA
open Go.RowKit Go.Proofs.YtbogbpbapgjndaaW.PrintWords Go.Proofs.YtbogbpbapgjndaaW.PrintLast Go.Proofs.YtbogbpbapgjndaaW.PrintMore
attribute [local go_sem] max2_int min2_int max_two min_two max_three min_three max_four min_four   -- for this text's walks alone
set_option linter.unusedVariables false
set_option linter.unusedSimpArgs false

-- NOT PRINTED: function 31 (digest_table)

/-! ### digest_sum: function 25 -/
/-- One bit of the checksum. -/
def tstep (c : Int) : Int := if Go.bits .and .u32 c 1 = 1 then Go.bits .xor .u32 (c / 2) 3988292384 else c / 2
def titer : Nat → Int → Int
  | 0, c => c
  | n + 1, c => tstep (titer n c)
/-- The checksum of half a byte. -/
def tabT (i : Nat) : Int := titer 4 (i : Int)
def tabL : List Int := [0, 498536548, 997073096, 651767980, 1994146192, 1802195444, 1303535960, 1342533948, 3988292384, 4027552580, 3604390888, 3412177804, 2607071920, 2262029012, 2685067896, 3183342108]
theorem tabL_is : (List.range 16).map tabT = tabL := by decide +kernel
/-- The table's cells behind so many rounds. -/
def tarr (i : Nat) : Array Value := ((tabL.take i ++ List.replicate (16 - i) 0).map (Value.int .u32)).toArray
theorem tabT_at (i : Nat) (h : i < 16) : tabT i = tabL.getD i 0 := by
  rw [← tabL_is, List.getD_eq_getElem?_getD, List.getElem?_map, List.getElem?_range h]
  rfl
theorem lt16 {i : Nat} (h : i < 16) : i = 0 ∨ i = 1 ∨ i = 2 ∨ i = 3 ∨ i = 4 ∨ i = 5 ∨ i = 6 ∨ i = 7 ∨ i = 8 ∨ i = 9 ∨ i = 10 ∨ i = 11 ∨ i = 12 ∨ i = 13 ∨ i = 14 ∨ i = 15 := by omega
theorem tarr_set (i : Nat) (h : i < 16) : (tarr i).setIfInBounds i (Value.int .u32 (tabT i)) = tarr (i + 1) := by
  rw [tabT_at i h]
  rcases lt16 h with rfl | rfl | rfl | rfl | rfl | rfl | rfl | rfl | rfl | rfl | rfl | rfl | rfl | rfl | rfl | rfl <;> rfl
theorem tarr_get (i : Nat) (h : i < 16) : (tarr i)[i]? = some (Value.int .u32 0) := by
  rcases lt16 h with rfl | rfl | rfl | rfl | rfl | rfl | rfl | rfl | rfl | rfl | rfl | rfl | rfl | rfl | rfl | rfl <;> rfl
theorem tstep_odd {c : Int} (h : Go.bits .and .u32 c 1 = 1) : tstep c = Go.bits .xor .u32 (c / 2) 3988292384 := by unfold tstep; rw [if_pos h]
theorem tstep_even {c : Int} (h : ¬ Go.bits .and .u32 c 1 = 1) : tstep c = c / 2 := by unfold tstep; rw [if_neg h]
theorem tarr_below (w : World) (i : Nat) (t : TypeId) : Below w.heap.size w (w.alloc (.cells (tarr i) t)) := (Below.refl _ _).alloc (Nat.le_refl _) _
set_option maxHeartbeats 1000000 in
theorem table_calls (w : World) : Calls Try.prog 31 #[] w fun e w' => e = .returned (.agg (tarr 16)) ∧ Below w.heap.size w w' := by
  go_enter Try.func31, Try.ntmps31
  go_wp2
  go_loopw [3] (fun v3 wr => ∃ i : Nat, i ≤ 16 ∧ v3 = .int .i64 i ∧ wr = w.alloc (.cells (tarr i) 47)) (fun v3 _ => 16 - (intOf v3).toNat)
  case atStart => exact ⟨0, by omega, rfl, rfl⟩
  case round =>
    obtain ⟨i, hi, rfl, rfl⟩ := hrel
    by_cases h : i < 16
    · have HG := Aside0.mk (tarr_get i h)
      have HS := Aside0.mk (tarr_set i h)
      have hb : decide ((i : Int) < 16) = true := by simp; omega
      go_wp2
      go_loop [2, 8] (fun c j => ∃ n : Nat, n ≤ 4 ∧ j = .int .i64 n ∧ c = .int .u32 (titer n (i : Int))) (fun _ j => 4 - (intOf j).toNat)
      case atStart => exact ⟨0, by omega, rfl, rfl⟩
      case round =>
        obtain ⟨n, hn, rfl, rfl⟩ := hrel
        by_cases h4 : n < 4
        · have h4b : decide ((n : Int) < 4) = true := by simp; omega
          by_cases ho : Go.bits .and .u32 (titer n (i : Int)) 1 = 1
          · have hob : (Go.bits .and .u32 (titer n (i : Int)) 1 == 1) = true := beq_iff_eq.2 ho
            have HT := Aside0.mk (tstep_odd ho)
            clear ho
            go_wp2
            go_round
            case rel => exact ⟨n + 1, by omega, by go_num, by show _ = Value.int .u32 (tstep _); rw [HT.out]⟩
            case measure => simp [intOf]; omega
          · have hob : (Go.bits .and .u32 (titer n (i : Int)) 1 == 1) = false := beq_eq_false_iff_ne.2 ho
            have HT := Aside0.mk (tstep_even ho)
            clear ho
            go_wp2
            go_round
            case rel => exact ⟨n + 1, by omega, by go_num, by show _ = Value.int .u32 (tstep _); rw [HT.out]⟩
            case measure => simp [intOf]; omega
        · have h4b : decide ((n : Int) < 4) = false := by simp; omega
          obtain rfl : n = 4 := by omega
          have hg := HG.out
          go_wp2
          go_roundw
          case rel => exact ⟨i + 1, by omega, by go_num, by rw [← HS.out]; rfl⟩
          case measure => simp [intOf]; omega
    · have : i = 16 := by omega
      subst this
      have hg : tarr 16 = #[.int .u32 0, .int .u32 498536548, .int .u32 997073096, .int .u32 651767980, .int .u32 1994146192, .int .u32 1802195444, .int .u32 1303535960, .int .u32 1342533948, .int .u32 3988292384, .int .u32 4027552580, .int .u32 3604390888, .int .u32 3412177804, .int .u32 2607071920, .int .u32 2262029012, .int .u32 2685067896, .int .u32 3183342108] := rfl
      rw [hg]
      go_wp2
      exact bodyPost_ret (v := .agg (tarr 16)) (results_cell_row (fn := Try.f31) (p := 0) (ty := 47) rfl _ _ w.heap.size 47 (tarr 16) (0, 0) _ rfl (heap_alloc_new w (.cells (tarr 16) 47)) Try.underlying47 rfl (by kernel_rfl)) rfl ⟨rfl, tarr_below w 16 _⟩
/-- Half a byte more. -/
def tabA (i : Int) : Int := tabL.getD i.toNat 0
def nibS (c x : Int) : Int := Go.bits .xor .u32 (c / 16) (tabA (Go.bits .and .u32 (Go.bits .xor .u32 c x) 15))
def byteS (c x : Int) : Int := nibS (nibS c x) (x / 16)
def foldS : Int → List Int → Int
  | c, [] => c
  | c, x :: r => foldS (byteS c x) r
theorem foldS_snoc : ∀ (l : List Int) (c x : Int), foldS c (l ++ [x]) = byteS (foldS c l) x := by
  intro l
  induction l with
  | nil => intro c x; rfl
  | cons y r ih => intro c x; exact ih _ _
def U32 (c : Int) : Prop := 0 ≤ c ∧ c < 4294967296
theorem bits_u32_range (op : BinOp) (h : op = .xor ∨ op = .and) (a b : Int) : U32 (Go.bits op .u32 a b) := by
  have key : ∀ v : BitVec 32, U32 (IntKind.u32.wrap (v.toNat : Int)) := by
    intro v
    rw [IntKind.wrap_u32]
    have := v.isLt
    unfold U32
    omega
  rcases h with rfl | rfl
  · exact key _
  · exact key _
theorem and15 (a : Int) (h : U32 a) : Go.bits .and .u32 a 15 = a % 16 := by
  have := bits_mask .u32 32 (by decide) (fun n h0 h1 => by rw [IntKind.wrap_u32]; omega) 4 (by decide) a h.1 (by have := h.2; omega)
  simpa using this
theorem idx_bounds (c x : Int) : 0 ≤ Go.bits .and .u32 (Go.bits .xor .u32 c x) 15 ∧ Go.bits .and .u32 (Go.bits .xor .u32 c x) 15 < 16 := by
  rw [and15 _ (bits_u32_range .xor (.inl rfl) c x)]; omega
theorem tarr16_get (i : Nat) (h : i < 16) : (tarr 16)[i]? = some (Value.int .u32 (tabA (i : Int))) := by
  rcases lt16 h with rfl | rfl | rfl | rfl | rfl | rfl | rfl | rfl | rfl | rfl | rfl | rfl | rfl | rfl | rfl | rfl <;> rfl
theorem take_snoc_rd (l : List Int) (k : Nat) (h : k < l.length) : l.take (k + 1) = l.take k ++ [rd l (k : Int)] := by
  rw [List.take_succ_eq_append_getElem h]
  congr 2
  unfold rd
  rw [Int.toNat_natCast, List.getD_eq_getElem?_getD, List.getElem?_eq_getElem h]
  rfl
def digest_sum.f (l0 : List Int) : Option Int := if l0.all (fun x => decide (0 ≤ x) && decide (x ≤ 255)) = true then some (Go.bits .xor .u32 4294967295 (foldS 4294967295 l0)) else none
theorem tarr16_lit : tarr 16 = #[.int .u32 0, .int .u32 498536548, .int .u32 997073096, .int .u32 651767980, .int .u32 1994146192, .int .u32 1802195444, .int .u32 1303535960, .int .u32 1342533948, .int .u32 3988292384, .int .u32 4027552580, .int .u32 3604390888, .int .u32 3412177804, .int .u32 2607071920, .int .u32 2262029012, .int .u32 2685067896, .int .u32 3183342108] := rfl
set_option maxHeartbeats 1000000 in
theorem digest_sum.calls (A0 : Option Addr) (c0 : Nat) (l0 : List Int) (r : Int) (w : World) (hr0 : Kd.C (Kd.int .u8) w A0 l0.length l0) (hc0 : l0.length ≤ c0) (h : digest_sum.f l0 = some r) :
    Calls Try.prog 25 #[.slice A0 l0.length c0] w fun e w' => e = .returned (.int .u32 r) ∧ Below w.heap.size w w' := by
  unfold digest_sum.f at h
  by_cases hb : l0.all (fun x => decide (0 ≤ x) && decide (x ≤ 255)) = true
  case neg => rw [if_neg hb] at h; cases h
  rw [if_pos hb] at h
  have HBy := Aside0.mk (List.all_eq_true.1 hb)
  injection h with h
  have HR := Aside0.mk hr0
  have HH := Aside0.mk h
  have HL : l0.length ≤ 9223372036854775807 := hr0.2.1
  clear h hb hr0
  go_enter Try.func25, Try.ntmps25
  go_wp2_with (go_at_call 31; refine (table_calls _).mono ?_; rintro e w1 ⟨rfl, hb1⟩; rw [tarr16_lit])
  have HW : Aside0 (Below w.heap.size w (w1.alloc (.cells (tarr 16) 47))) := ⟨hb1.alloc (by have := hb1.size; omega) _⟩
  have HR1 := Aside0.mk (Kd.C_below HR.out HW.out)
  have HT : Aside0 (∀ i : Int, 0 ≤ i → i < 16 → (w1.alloc (.cells (tarr 16) 47)).cell? ⟨w1.heap.size, i.toNat, none⟩ = some (.int .u32 (tabA i))) := ⟨fun i h0 hi => by
    obtain ⟨n, rfl⟩ := Int.eq_ofNat_of_zero_le h0
    rw [World.cell?_alloc_new, Int.toNat_natCast]
    exact tarr16_get n (by omega)⟩
  rw [← tarr16_lit]
  clear hb1
  obtain ⟨B, hB⟩ : ∃ B : Nat, B = w1.heap.size := ⟨_, rfl⟩
  rw [← hB] at HT ⊢
  clear hB
  generalize w1.alloc (.cells (tarr 16) 47) = W2 at HW HR1 HT ⊢
  go_loop [4, 10] (fun c i => ∃ k : Nat, k ≤ l0.length ∧ i = .int .i64 k ∧ c = .int .u32 (foldS 4294967295 (l0.take k)) ∧ Aside0 (U32 (foldS 4294967295 (l0.take k)))) (fun _ i => l0.length - (intOf i).toNat)
  case atStart => exact ⟨0, Nat.zero_le _, rfl, rfl, ⟨by unfold U32; simp [foldS]⟩⟩
  case round =>
    obtain ⟨k, hk, rfl, rfl, HU⟩ := hrel
    by_cases hlt : k < l0.length
    · have hb : decide ((k : Int) < (l0.length : Int)) = true := by simp; omega
      obtain ⟨ad, e, hx⟩ := Kd.at_int HR1.out (k : Int) (by omega) (by omega)
      cases e
      rw [Int.toNat_natCast] at hx
      have hk' : (l0.take (k + 1)) = l0.take k ++ [rd l0 (k : Int)] := take_snoc_rd l0 k hlt
      have HS := Aside0.mk (foldS_snoc (l0.take k) 4294967295 (rd l0 (k : Int)))
      rw [← hk'] at HS
      clear hk'
      generalize foldS 4294967295 (l0.take k) = c at HS HU ⊢
      have hX := HBy.out (rd l0 (k : Int)) (by unfold rd; rw [Int.toNat_natCast, List.getD_eq_getElem?_getD, List.getElem?_eq_getElem hlt]; exact List.getElem_mem hlt)
      simp only [Bool.and_eq_true, decide_eq_true_eq] at hX
      obtain ⟨hX0, hX1⟩ := hX
      generalize rd l0 (k : Int) = X at hx HS hX0 hX1
      obtain ⟨p1, q1⟩ := idx_bounds c X
      obtain ⟨p2, q2⟩ := idx_bounds (nibS c X) (X / 16)
      have t1 := HT.out _ p1 q1
      have t2 := HT.out _ p2 q2
      have HN : Aside0 (U32 (foldS 4294967295 (l0.take (k + 1)))) := ⟨by rw [HS.out]; exact bits_u32_range .xor (.inl rfl) _ _⟩
      unfold nibS at p2 q2 t2
      go_wp2
      go_round
      case rel => exact ⟨k + 1, by omega, by go_num, by rw [HS.out]; rfl, HN⟩
      case measure => simp [intOf]; omega
    · have hb : decide ((k : Int) < (l0.length : Int)) = false := by simp; omega
      have hkl : l0.take k = l0 := List.take_of_length_le (by omega)
      rw [hkl]
      clear hkl
      go_wp2
      go_ret
      exact ⟨by rw [← HH.out]; rfl, HW.out⟩

/-! ### digest_Crc: function 10 -/
def digest_Crc.f (l0 : List Int) : Option (Int) := (digest_sum.f l0).bind fun t101 => (some (wrap64 (t101)))
set_option maxHeartbeats 8000000 in
set_option maxRecDepth 100000 in
theorem digest_Crc.calls (A0 : Option Addr) (c0 : Nat) (l0 : List Int) (r : Int) (w : World) (hr0 : Kd.C (Kd.int .u8) w A0 l0.length l0) (hc0 : l0.length ≤ c0) (h : digest_Crc.f l0 = some r) :
    Calls Try.prog 10 #[.slice A0 l0.length c0] w fun e w' => e = .returned (.int .i64 r) ∧ Below w.heap.size w w' := by
  have HR0 := Aside0.mk hr0
  have HC0 := Aside0.mk hc0
  clear hr0 hc0
  have HB := Aside0.mk (Below.refl w.heap.size w)
  have H : ((digest_sum.f l0).bind fun t101 => (some (wrap64 (t101)))) = some r := h
  clear h
  replace H := Option.bind_eq_some_iff.mp H
  obtain ⟨t101, A20, H⟩ := H
  replace H : (some (wrap64 (t101))) = some r := H
  have A2 := Aside0.mk A20
  clear A20
  obtain rfl := Option.some.inj H
  go_enter Try.func10, Try.ntmps10
  go_wp2_with (first | ((with_reducible refine gate_callee (f := 25) rfl ?_); refine goesL_ (some 4) rfl rfl Try.func25 (by kernel_rfl) rfl #[.slice A0 l0.length c0] rfl (by (try simp only [List.map_toArray, List.map_cons, List.map_nil]); first | done | rfl | (simp only [List.length_drop, List.length_take]; rfl)) ?_; (with_reducible refine (digest_sum.calls _ _ l0 t101 _ ?side1 ?side2 A2.out).mono ?_); (case side1 => repeat (first | exact HR0.out | (with_reducible refine Kd.C_alloc ?_ _) | (with_reducible refine Kd.C_drewN ?_ _) | (with_reducible refine Kd.C_drew ?_))); (case side2 => exact HC0.out); rintro e w3 ⟨rfl, hb⟩; refine ⟨_, rfl, ?_⟩; have n0_ := Aside0.mk (below_step (by repeat (first | (with_reducible first | exact HB.out | apply below_alloc | apply pw_below_drewN | apply below_drew1) | exact HB.out)) hb); clear HB; have HB := n0_; clear n0_; (try clear hb); (try clear hb2); (try clear hk); (try clear hi)))
  go_ret
  exact ⟨by first | rfl | (simp [errW_none, errW_some] <;> rfl) | (simp [*, errW_none, errW_some] <;> rfl), by repeat (first | (with_reducible first | exact HB.out | apply below_alloc | apply pw_below_drewN | apply below_drew1) | exact HB.out)⟩

/-! ### mapsheetsref03_Crc: function 11 -/
mutual
def mapsheetsref03_Crc.l0 : Nat → List Int → Int → Int → Option (Int)
  | 0, _, _, _ => none
  | k + 1, x0, x3, x4 => if x4 < (x0.length : Int) then (if 0 ≤ x4 then (mapsheetsref03_Crc.l1 k x0 (Go.bits .xor .u32 x3 ((rd x0 x4) % 4294967296)) x4 0) else (none)) else (some (wrap64 (Go.bits .xor .u32 IntKind.u32.max x3)))
def mapsheetsref03_Crc.l1 : Nat → List Int → Int → Int → Int → Option (Int)
  | 0, _, _, _, _ => none
  | k + 1, x0, x3, x4, x5 => if x5 < 8 then (if (Int.tmod x3 2) = 1 then (mapsheetsref03_Crc.l1 k x0 (Go.bits .xor .u32 ((Int.tdiv x3 2) % 4294967296) 3988292384) x4 (wrap64 (x5 + 1))) else (mapsheetsref03_Crc.l1 k x0 ((Int.tdiv x3 2) % 4294967296) x4 (wrap64 (x5 + 1)))) else (mapsheetsref03_Crc.l0 k x0 x3 (wrap64 (x4 + 1)))
end
def mapsheetsref03_Crc.f (k : Nat) (l0 : List Int) : Option (Int) := mapsheetsref03_Crc.l0 k l0 4294967295 0
theorem mapsheetsref03_Crc.mono_l : ∀ k, (∀ y0 y1 y2, LeO (mapsheetsref03_Crc.l0 k y0 y1 y2) (mapsheetsref03_Crc.l0 (k + 1) y0 y1 y2)) ∧ (∀ y0 y1 y2 y3, LeO (mapsheetsref03_Crc.l1 k y0 y1 y2 y3) (mapsheetsref03_Crc.l1 (k + 1) y0 y1 y2 y3))
  | 0 => ⟨fun _ _ _ r h => by simp [mapsheetsref03_Crc.l0] at h, fun _ _ _ _ r h => by simp [mapsheetsref03_Crc.l1] at h⟩
  | k + 1 => by
    obtain ⟨ih0, ih1⟩ := mapsheetsref03_Crc.mono_l k
    refine ⟨?_, ?_⟩
    · intro y0 y1 y2
      unfold mapsheetsref03_Crc.l0
      repeat' first
      | (with_reducible exact ih0 _ _ _)
      | (with_reducible exact ih1 _ _ _ _)
      | (with_reducible exact LeO.refl _)
      | (with_reducible exact LeO.none _)
      | (with_reducible refine LeO.ite ?_ ?_)
      | (with_reducible refine LeO.bind ?_ (fun _ => ?_))
      | exact ih0 _ _ _
      | exact ih1 _ _ _ _
      | exact LeO.none _
      | refine LeO.ite ?_ ?_
      | refine LeO.bind ?_ (fun _ => ?_)
    · intro y0 y1 y2 y3
      unfold mapsheetsref03_Crc.l1
      repeat' first
      | (with_reducible exact ih0 _ _ _)
      | (with_reducible exact ih1 _ _ _ _)
      | (with_reducible exact LeO.refl _)
      | (with_reducible exact LeO.none _)
      | (with_reducible refine LeO.ite ?_ ?_)
      | (with_reducible refine LeO.bind ?_ (fun _ => ?_))
      | exact ih0 _ _ _
      | exact ih1 _ _ _ _
      | exact LeO.none _
      | refine LeO.ite ?_ ?_
      | refine LeO.bind ?_ (fun _ => ?_)
theorem mapsheetsref03_Crc.mono : ∀ a0 k, LeO (mapsheetsref03_Crc.f k a0) (mapsheetsref03_Crc.f (k + 1) a0) := by
  intro a0 k
  obtain ⟨ih0, ih1⟩ := mapsheetsref03_Crc.mono_l k
  unfold mapsheetsref03_Crc.f
  repeat' first
      | (with_reducible exact ih0 _ _ _)
      | (with_reducible exact ih1 _ _ _ _)
      | (with_reducible exact LeO.refl _)
      | (with_reducible exact LeO.none _)
      | (with_reducible refine LeO.ite ?_ ?_)
      | (with_reducible refine LeO.bind ?_ (fun _ => ?_))
      | exact ih0 _ _ _
      | exact ih1 _ _ _ _
      | exact LeO.none _
      | refine LeO.ite ?_ ?_
      | refine LeO.bind ?_ (fun _ => ?_)
set_option maxHeartbeats 8000000 in
set_option maxRecDepth 100000 in
theorem mapsheetsref03_Crc.calls (k : Nat) (A0 : Option Addr) (c0 : Nat) (l0 : List Int) (r : Int) (w : World) (hr0 : Kd.C (Kd.int .u8) w A0 l0.length l0) (hc0 : l0.length ≤ c0) (h : mapsheetsref03_Crc.f k l0 = some r) :
    Calls Try.prog 11 #[.slice A0 l0.length c0] w fun e w' => e = .returned (.int .i64 r) ∧ Drawn0 w w' := by
  have HR0 := Aside0.mk hr0
  have HC0 := Aside0.mk hc0
  clear hr0 hc0
  have H : (mapsheetsref03_Crc.l0 k l0 4294967295 0) = some r := h
  clear h
  have H' := Aside0.mk H
  clear H
  go_enter Try.func11, Try.ntmps11
  go_wp2
  go_loopg [3, 4] k (fun kq v3 v4 w' => ∃ (x3_1 : Int) (x4_1 : Int), v3 = .int .u32 x3_1 ∧ v4 = .int .i64 x4_1 ∧ Aside0 (mapsheetsref03_Crc.l0 kq l0 x3_1 x4_1 = some r) ∧ Aside0 (kq ≤ k) ∧ Drawn0 w w')
  case atStart => exact ⟨(4294967295), (0), (by first | rfl | (simp; done) | (simp [*]; done)), (by first | rfl | (simp; done) | (simp [*]; done)), H', ⟨Nat.le_refl _⟩, by repeat (first | exact Drawn0.refl _ | apply Drawn0.step)⟩
  case round =>
    clear H'
    try clear c1
    obtain ⟨x3_1, x4_1, rfl, rfl, HA, HK1, ⟨m1, rfl⟩⟩ := hrel
    cases gk with
    | zero => exact absurd HA.out (by simp [mapsheetsref03_Crc.l0])
    | succ k1 =>
      have H := HA.out
      clear HA
      simp only [mapsheetsref03_Crc.l0] at H
      by_cases c2 : x4_1 < (l0.length : Int)
      · rw [if_pos c2] at H
        have c2b0 : decide (x4_1 < (l0.length : Int)) = true := decide_eq_true c2
        clear c2
        by_cases c3 : 0 ≤ x4_1
        · rw [if_pos c3] at H
          have c3b0 : decide (0 ≤ x4_1) = true := decide_eq_true c3
          clear c3
          have H' := Aside0.mk H
          clear H
          have p102 : 0 ≤ (x4_1 : Int) := of_decide_eq_true (by first | (with_reducible assumption) | assumption)
          have q102 : x4_1 < (l0.length : Int) := of_decide_eq_true (by first | (with_reducible assumption) | assumption)
          obtain ⟨ad102, e102, hx102_0⟩ := Kd.at_int HR0.out x4_1 p102 q102
          cases e102
          replace p102 := eq_true p102
          replace q102 := eq_true q102
          go_wp2
          go_loopg [3, 5] k1 (fun kq v3 v5 w' => ∃ (x3_2 : Int) (x5_2 : Int), v3 = .int .u32 x3_2 ∧ v5 = .int .i64 x5_2 ∧ Aside0 (mapsheetsref03_Crc.l1 kq l0 x3_2 x4_1 x5_2 = some r) ∧ Aside0 (kq ≤ k1) ∧ Drawn0 w w')
          case atStart => exact ⟨(Go.bits .xor .u32 x3_1 ((rd l0 x4_1) % 4294967296)), (0), (by first | rfl | (simp; done) | (simp [*]; done)), (by first | rfl | (simp; done) | (simp [*]; done)), H', ⟨Nat.le_refl _⟩, by repeat (first | exact Drawn0.refl _ | apply Drawn0.step)⟩
          case round =>
            clear H'
            try clear c1
            try clear p1
            try clear q1
            try clear hx1
            try clear c2
            try clear c2b0
            try clear p2
            try clear c3
            try clear c3b0
            try clear hx102_0
            try clear p102
            try clear q102
            obtain ⟨x3_2, x5_2, rfl, rfl, HA, HK2, ⟨m2, rfl⟩⟩ := hrel
            cases gk with
            | zero => exact absurd HA.out (by simp [mapsheetsref03_Crc.l1])
            | succ k2 =>
              have H := HA.out
              clear HA
              simp only [mapsheetsref03_Crc.l1] at H
              by_cases c4 : x5_2 < 8
              · rw [if_pos c4] at H
                have c4b0 : decide (x5_2 < 8) = true := decide_eq_true c4
                clear c4
                by_cases c5 : (Int.tmod x3_2 2) = 1
                · rw [if_pos c5] at H
                  have c5b0 : ((Int.tmod x3_2 2) == 1) = true := beq_iff_eq.mpr c5
                  have c5b1 : ((Int.tmod x3_2 2) != 1) = false := bne_eq_false_iff_eq.mpr c5
                  clear c5
                  have H' := Aside0.mk H
                  clear H
                  go_wp2
                  go_roundg k2
                  case measure => have := HK1.out; have := HK2.out; omega
                  case rel => exact ⟨(Go.bits .xor .u32 ((Int.tdiv x3_2 2) % 4294967296) 3988292384), (wrap64 (x5_2 + 1)), (by first | rfl | (simp; done) | (simp [*]; done)), (by first | rfl | (simp; done) | (simp [*]; done)), H', ⟨by have := HK1.out; have := HK2.out; omega⟩, by repeat (first | exact Drawn0.refl _ | apply Drawn0.step)⟩
                · rw [if_neg c5] at H
                  have c5b0 : ((Int.tmod x3_2 2) == 1) = false := beq_eq_false_iff_ne.mpr c5
                  have c5b1 : ((Int.tmod x3_2 2) != 1) = true := bne_iff_ne.mpr c5
                  have H' := Aside0.mk H
                  clear H
                  go_wp2
                  go_roundg k2
                  case measure => have := HK1.out; have := HK2.out; omega
                  case rel => exact ⟨((Int.tdiv x3_2 2) % 4294967296), (wrap64 (x5_2 + 1)), (by first | rfl | (simp; done) | (simp [*]; done)), (by first | rfl | (simp; done) | (simp [*]; done)), H', ⟨by have := HK1.out; have := HK2.out; omega⟩, by repeat (first | exact Drawn0.refl _ | apply Drawn0.step)⟩
              · rw [if_neg c4] at H
                have c4b0 : decide (x5_2 < 8) = false := decide_eq_false c4
                clear c4
                have H' := Aside0.mk H
                clear H
                go_wp2
                go_roundg k2
                case measure => have := HK1.out; have := HK2.out; omega
                case rel => exact ⟨(x3_2), (wrap64 (x4_1 + 1)), (by first | rfl | (simp; done) | (simp [*]; done)), (by first | rfl | (simp; done) | (simp [*]; done)), H', ⟨by have := HK1.out; have := HK2.out; omega⟩, by repeat (first | exact Drawn0.refl _ | apply Drawn0.step)⟩
        · rw [if_neg c3] at H
          exact absurd H (by simp)
      · rw [if_neg c2] at H
        have c2b0 : decide (x4_1 < (l0.length : Int)) = false := decide_eq_false c2
        clear c2
        obtain rfl := Option.some.inj H
        go_wp2
        go_ret
        exact ⟨by first | rfl | (simp; done) | (simp [*]; done), by repeat (first | exact Drawn0.refl _ | apply Drawn0.step)⟩

/-! ### digest_next: function 26 -/
def digest_next.f (a0 : Int) (a1 : Int) : Option (Int) := some (IntKind.u64.wrap ((Go.bits .xor .u64 a0 (IntKind.u64.wrap (a1))) * 1099511628211))
set_option maxHeartbeats 8000000 in
set_option maxRecDepth 100000 in
theorem digest_next.calls (a0 : Int) (a1 : Int) (r : Int) (w : World) (h : digest_next.f a0 a1 = some r) :
    Calls Try.prog 26 #[.int .u64 a0, .int .u8 a1] w fun e w' => e = .returned (.int .u64 r) ∧ Drawn0 w w' := by
  have H : (some (IntKind.u64.wrap ((Go.bits .xor .u64 a0 (IntKind.u64.wrap (a1))) * 1099511628211))) = some r := h
  clear h
  obtain rfl := Option.some.inj H
  go_enter Try.func26, Try.ntmps26
  go_wp2
  go_ret
  exact ⟨by first | rfl | (simp; done) | (simp [*]; done), by repeat (first | exact Drawn0.refl _ | apply Drawn0.step)⟩

/-! ### digest_Fnv: function 12 -/
def digest_Fnv.l0 : Nat → Int → List Int → Int → Int → Option (Int)
  | 0, _, _, _, _ => none
  | k + 1, x3, x6, x7, x8 => if x8 < x7 then (if 0 ≤ x8 then (if x8 < (x6.length : Int) then ((digest_next.f x3 (rd x6 x8)).bind fun t104 => (digest_Fnv.l0 k t104 x6 x7 (wrap64 (x8 + 1)))) else (none)) else (none)) else (some x3)
def digest_Fnv.f (k : Nat) (l0 : List Int) : Option (Int) := digest_Fnv.l0 k 14695981039346656037 l0 (l0.length : Int) 0
theorem digest_Fnv.mono_l : ∀ k, (∀ y0 y1 y2 y3, LeO (digest_Fnv.l0 k y0 y1 y2 y3) (digest_Fnv.l0 (k + 1) y0 y1 y2 y3))
  | 0 => fun _ _ _ _ r h => by simp [digest_Fnv.l0] at h
  | k + 1 => by
    have ih0 := digest_Fnv.mono_l k
    · intro y0 y1 y2 y3
      unfold digest_Fnv.l0
      repeat' first
      | (with_reducible exact ih0 _ _ _ _)
      | (with_reducible exact LeO.refl _)
      | (with_reducible exact LeO.none _)
      | (with_reducible refine LeO.ite ?_ ?_)
      | (with_reducible refine LeO.bind ?_ (fun _ => ?_))
      | exact ih0 _ _ _ _
      | exact LeO.none _
      | refine LeO.ite ?_ ?_
      | refine LeO.bind ?_ (fun _ => ?_)
theorem digest_Fnv.mono : ∀ a0 k, LeO (digest_Fnv.f k a0) (digest_Fnv.f (k + 1) a0) := by
  intro a0 k
  have ih0 := digest_Fnv.mono_l k
  unfold digest_Fnv.f
  repeat' first
      | (with_reducible exact ih0 _ _ _ _)
      | (with_reducible exact LeO.refl _)
      | (with_reducible exact LeO.none _)
      | (with_reducible refine LeO.ite ?_ ?_)
      | (with_reducible refine LeO.bind ?_ (fun _ => ?_))
      | exact ih0 _ _ _ _
      | exact LeO.none _
      | refine LeO.ite ?_ ?_
      | refine LeO.bind ?_ (fun _ => ?_)
set_option maxHeartbeats 8000000 in
set_option maxRecDepth 100000 in
theorem digest_Fnv.calls (k : Nat) (A0 : Option Addr) (c0 : Nat) (l0 : List Int) (r : Int) (w : World) (hr0 : Kd.C (Kd.int .u8) w A0 l0.length l0) (hc0 : l0.length ≤ c0) (h : digest_Fnv.f k l0 = some r) :
    Calls Try.prog 12 #[.slice A0 l0.length c0] w fun e w' => e = .returned (.int .u64 r) ∧ Drawn0 w w' := by
  have HR0 := Aside0.mk hr0
  have HC0 := Aside0.mk hc0
  clear hr0 hc0
  have H : (digest_Fnv.l0 k 14695981039346656037 l0 (l0.length : Int) 0) = some r := h
  clear h
  have H' := Aside0.mk H
  clear H
  go_enter Try.func12, Try.ntmps12
  go_wp2
  go_loopg [3, 8] k (fun kq v3 v8 w' => ∃ (x3_1 : Int) (x8_1 : Int), v3 = .int .u64 x3_1 ∧ v8 = .int .i64 x8_1 ∧ Aside0 (digest_Fnv.l0 kq x3_1 l0 (l0.length : Int) x8_1 = some r) ∧ Aside0 (kq ≤ k) ∧ Drawn0 w w')
  case atStart => exact ⟨(14695981039346656037), (0), (by first | rfl | (simp; done) | (simp [*]; done)), (by first | rfl | (simp; done) | (simp [*]; done)), H', ⟨Nat.le_refl _⟩, by repeat (first | exact Drawn0.refl _ | apply Drawn0.step)⟩
  case round =>
    clear H'
    try clear c1
    obtain ⟨x3_1, x8_1, rfl, rfl, HA, HK1, ⟨m1, rfl⟩⟩ := hrel
    cases gk with
    | zero => exact absurd HA.out (by simp [digest_Fnv.l0])
    | succ k1 =>
      have H := HA.out
      clear HA
      simp only [digest_Fnv.l0] at H
      by_cases c2 : x8_1 < (l0.length : Int)
      · rw [if_pos c2] at H
        have c2b0 : decide (x8_1 < (l0.length : Int)) = true := decide_eq_true c2
        clear c2
        by_cases c3 : 0 ≤ x8_1
        · rw [if_pos c3] at H
          have c3b0 : decide (0 ≤ x8_1) = true := decide_eq_true c3
          clear c3
          by_cases c4 : x8_1 < (l0.length : Int)
          · rw [if_pos c4] at H
            have c4b0 : decide (x8_1 < (l0.length : Int)) = true := decide_eq_true c4
            clear c4
            replace H := Option.bind_eq_some_iff.mp H
            obtain ⟨t104, A50, H⟩ := H
            replace H : (digest_Fnv.l0 k1 t104 l0 (l0.length : Int) (wrap64 (x8_1 + 1))) = some r := H
            have A5 := Aside0.mk A50
            clear A50
            have H' := Aside0.mk H
            clear H
            have p103 : 0 ≤ (x8_1 : Int) := of_decide_eq_true (by first | (with_reducible assumption) | assumption)
            have q103 : x8_1 < (l0.length : Int) := of_decide_eq_true (by first | (with_reducible assumption) | assumption)
            obtain ⟨ad103, e103, hx103_0⟩ := Kd.at_int HR0.out x8_1 p103 q103
            cases e103
            replace p103 := eq_true p103
            replace q103 := eq_true q103
            go_wp2_with (first | ((with_reducible refine gate_callee (f := 26) rfl ?_); refine goesL_ (some 14) rfl rfl Try.func26 (by kernel_rfl) rfl #[.int .u64 x3_1, .int .u8 (rd l0 x8_1)] rfl (by (try simp only [List.map_toArray, List.map_cons, List.map_nil]); first | done | rfl | (simp only [List.length_drop, List.length_take]; rfl)) ?_; (with_reducible refine (digest_next.calls x3_1 (rd l0 x8_1) t104 _ A5.out).mono ?_); rintro e w' ⟨rfl, ⟨nd, rfl⟩⟩; refine ⟨_, rfl, ?_⟩))
            go_roundg k1
            case measure => have := HK1.out; omega
            case rel => exact ⟨(t104), (wrap64 (x8_1 + 1)), (by first | rfl | (simp; done) | (simp [*]; done)), (by first | rfl | (simp; done) | (simp [*]; done)), H', ⟨by have := HK1.out; omega⟩, by repeat (first | exact Drawn0.refl _ | apply Drawn0.step)⟩
          · rw [if_neg c4] at H
            exact absurd H (by simp)
        · rw [if_neg c3] at H
          exact absurd H (by simp)
      · rw [if_neg c2] at H
        have c2b0 : decide (x8_1 < (l0.length : Int)) = false := decide_eq_false c2
        clear c2
        obtain rfl := Option.some.inj H
        go_wp2
        go_ret
        exact ⟨by first | rfl | (simp; done) | (simp [*]; done), by repeat (first | exact Drawn0.refl _ | apply Drawn0.step)⟩

/-! ### mapsheetsref03_step: function 27 -/
def mapsheetsref03_step.f (a0 : Int) (a1 : Int) : Option (Int) := some (IntKind.u64.wrap ((Go.bits .xor .u64 a0 (IntKind.u64.wrap (a1))) * 1099511628211))
set_option maxHeartbeats 8000000 in
set_option maxRecDepth 100000 in
theorem mapsheetsref03_step.calls (a0 : Int) (a1 : Int) (r : Int) (w : World) (h : mapsheetsref03_step.f a0 a1 = some r) :
    Calls Try.prog 27 #[.int .u64 a0, .int .u8 a1] w fun e w' => e = .returned (.int .u64 r) ∧ Drawn0 w w' := by
  have H : (some (IntKind.u64.wrap ((Go.bits .xor .u64 a0 (IntKind.u64.wrap (a1))) * 1099511628211))) = some r := h
  clear h
  obtain rfl := Option.some.inj H
  go_enter Try.func27, Try.ntmps27
  go_wp2
  go_ret
  exact ⟨by first | rfl | (simp; done) | (simp [*]; done), by repeat (first | exact Drawn0.refl _ | apply Drawn0.step)⟩

/-! ### mapsheetsref03_Fnv: function 13 -/
def mapsheetsref03_Fnv.l0 : Nat → List Int → Int → Int → Option (Int)
  | 0, _, _, _ => none
  | k + 1, x0, x3, x4 => if x4 < (x0.length : Int) then (if 0 ≤ x4 then ((mapsheetsref03_step.f x3 (rd x0 x4)).bind fun t106 => (mapsheetsref03_Fnv.l0 k x0 t106 (wrap64 (x4 + 1)))) else (none)) else (some x3)
def mapsheetsref03_Fnv.f (k : Nat) (l0 : List Int) : Option (Int) := mapsheetsref03_Fnv.l0 k l0 14695981039346656037 0
theorem mapsheetsref03_Fnv.mono_l : ∀ k, (∀ y0 y1 y2, LeO (mapsheetsref03_Fnv.l0 k y0 y1 y2) (mapsheetsref03_Fnv.l0 (k + 1) y0 y1 y2))
  | 0 => fun _ _ _ r h => by simp [mapsheetsref03_Fnv.l0] at h
  | k + 1 => by
    have ih0 := mapsheetsref03_Fnv.mono_l k
    · intro y0 y1 y2
      unfold mapsheetsref03_Fnv.l0
      repeat' first
      | (with_reducible exact ih0 _ _ _)
      | (with_reducible exact LeO.refl _)
      | (with_reducible exact LeO.none _)
      | (with_reducible refine LeO.ite ?_ ?_)
      | (with_reducible refine LeO.bind ?_ (fun _ => ?_))
      | exact ih0 _ _ _
      | exact LeO.none _
      | refine LeO.ite ?_ ?_
      | refine LeO.bind ?_ (fun _ => ?_)
theorem mapsheetsref03_Fnv.mono : ∀ a0 k, LeO (mapsheetsref03_Fnv.f k a0) (mapsheetsref03_Fnv.f (k + 1) a0) := by
  intro a0 k
  have ih0 := mapsheetsref03_Fnv.mono_l k
  unfold mapsheetsref03_Fnv.f
  repeat' first
      | (with_reducible exact ih0 _ _ _)
      | (with_reducible exact LeO.refl _)
      | (with_reducible exact LeO.none _)
      | (with_reducible refine LeO.ite ?_ ?_)
      | (with_reducible refine LeO.bind ?_ (fun _ => ?_))
      | exact ih0 _ _ _
      | exact LeO.none _
      | refine LeO.ite ?_ ?_
      | refine LeO.bind ?_ (fun _ => ?_)
set_option maxHeartbeats 8000000 in
set_option maxRecDepth 100000 in
theorem mapsheetsref03_Fnv.calls (k : Nat) (A0 : Option Addr) (c0 : Nat) (l0 : List Int) (r : Int) (w : World) (hr0 : Kd.C (Kd.int .u8) w A0 l0.length l0) (hc0 : l0.length ≤ c0) (h : mapsheetsref03_Fnv.f k l0 = some r) :
    Calls Try.prog 13 #[.slice A0 l0.length c0] w fun e w' => e = .returned (.int .u64 r) ∧ Drawn0 w w' := by
  have HR0 := Aside0.mk hr0
  have HC0 := Aside0.mk hc0
  clear hr0 hc0
  have H : (mapsheetsref03_Fnv.l0 k l0 14695981039346656037 0) = some r := h
  clear h
  have H' := Aside0.mk H
  clear H
  go_enter Try.func13, Try.ntmps13
  go_wp2
  go_loopg [3, 4] k (fun kq v3 v4 w' => ∃ (x3_1 : Int) (x4_1 : Int), v3 = .int .u64 x3_1 ∧ v4 = .int .i64 x4_1 ∧ Aside0 (mapsheetsref03_Fnv.l0 kq l0 x3_1 x4_1 = some r) ∧ Aside0 (kq ≤ k) ∧ Drawn0 w w')
  case atStart => exact ⟨(14695981039346656037), (0), (by first | rfl | (simp; done) | (simp [*]; done)), (by first | rfl | (simp; done) | (simp [*]; done)), H', ⟨Nat.le_refl _⟩, by repeat (first | exact Drawn0.refl _ | apply Drawn0.step)⟩
  case round =>
    clear H'
    try clear c1
    obtain ⟨x3_1, x4_1, rfl, rfl, HA, HK1, ⟨m1, rfl⟩⟩ := hrel
    cases gk with
    | zero => exact absurd HA.out (by simp [mapsheetsref03_Fnv.l0])
    | succ k1 =>
      have H := HA.out
      clear HA
      simp only [mapsheetsref03_Fnv.l0] at H
      by_cases c2 : x4_1 < (l0.length : Int)
      · rw [if_pos c2] at H
        have c2b0 : decide (x4_1 < (l0.length : Int)) = true := decide_eq_true c2
        clear c2
        by_cases c3 : 0 ≤ x4_1
        · rw [if_pos c3] at H
          have c3b0 : decide (0 ≤ x4_1) = true := decide_eq_true c3
          clear c3
          replace H := Option.bind_eq_some_iff.mp H
          obtain ⟨t106, A40, H⟩ := H
          replace H : (mapsheetsref03_Fnv.l0 k1 l0 t106 (wrap64 (x4_1 + 1))) = some r := H
          have A4 := Aside0.mk A40
          clear A40
          have H' := Aside0.mk H
          clear H
          have p105 : 0 ≤ (x4_1 : Int) := of_decide_eq_true (by first | (with_reducible assumption) | assumption)
          have q105 : x4_1 < (l0.length : Int) := of_decide_eq_true (by first | (with_reducible assumption) | assumption)
          obtain ⟨ad105, e105, hx105_0⟩ := Kd.at_int HR0.out x4_1 p105 q105
          cases e105
          replace p105 := eq_true p105
          replace q105 := eq_true q105
          go_wp2_with (first | ((with_reducible refine gate_callee (f := 27) rfl ?_); refine goesL_ (some 16) rfl rfl Try.func27 (by kernel_rfl) rfl #[.int .u64 x3_1, .int .u8 (rd l0 x4_1)] rfl (by (try simp only [List.map_toArray, List.map_cons, List.map_nil]); first | done | rfl | (simp only [List.length_drop, List.length_take]; rfl)) ?_; (with_reducible refine (mapsheetsref03_step.calls x3_1 (rd l0 x4_1) t106 _ A4.out).mono ?_); rintro e w' ⟨rfl, ⟨nd, rfl⟩⟩; refine ⟨_, rfl, ?_⟩))
          go_roundg k1
          case measure => have := HK1.out; omega
          case rel => exact ⟨(t106), (wrap64 (x4_1 + 1)), (by first | rfl | (simp; done) | (simp [*]; done)), (by first | rfl | (simp; done) | (simp [*]; done)), H', ⟨by have := HK1.out; omega⟩, by repeat (first | exact Drawn0.refl _ | apply Drawn0.step)⟩
        · rw [if_neg c3] at H
          exact absurd H (by simp)
      · rw [if_neg c2] at H
        have c2b0 : decide (x4_1 < (l0.length : Int)) = false := decide_eq_false c2
        clear c2
        obtain rfl := Option.some.inj H
        go_wp2
        go_ret
        exact ⟨by first | rfl | (simp; done) | (simp [*]; done), by repeat (first | exact Drawn0.refl _ | apply Drawn0.step)⟩

/-! ### digest_Hex: function 15 -/
theorem and15_u64 (a : Int) (h0 : 0 ≤ a) (h1 : a < 18446744073709551616) : Go.bits .and .u64 a 15 = a % 16 := by
  have := bits_mask .u64 64 (by decide) (fun n h0 h1 => by simp [IntKind.wrap, IntKind.bits, IntKind.signed]; omega) 4 (by decide) a h0 (by omega)
  simpa using this
def hexDigits : ByteArray := ⟨#[48, 49, 50, 51, 52, 53, 54, 55, 56, 57, 97, 98, 99, 100, 101, 102]⟩
/-- Digit number i of d, as a byte. -/
def hexd (d : Int) (i : Nat) : Int := bt hexDigits (Go.bits .and .u64 (d / 2 ^ (60 - 4 * i)) 15)
def hexL (d : Int) : List Int := (List.range 16).map (hexd d)
def harr (d : Int) (i : Nat) : Array Value := ((List.range 16).map fun j => Value.int .u8 (if j < i then hexd d j else 0)).toArray
theorem harr_size (d : Int) (i : Nat) : (harr d i).size = 16 := by simp [harr]
theorem harr_get (d : Int) (i j : Nat) (h : j < 16) : (harr d i)[j]? = some (Value.int .u8 (if j < i then hexd d j else 0)) := by
  unfold harr
  rw [List.getElem?_toArray, List.getElem?_map, List.getElem?_range h]
  rfl
theorem harr_set (d : Int) (i : Nat) (h : i < 16) : (harr d i).setIfInBounds i (Value.int .u8 (hexd d i)) = harr d (i + 1) := by
  apply Array.ext_getElem?
  intro j
  rw [Array.getElem?_setIfInBounds, harr_size]
  by_cases hj : j < 16
  · rw [harr_get d i j hj, harr_get d (i + 1) j hj]
    by_cases e : i = j
    · subst e; simp [h]
    · rw [if_neg e]
      have : (j < i) ↔ (j < i + 1) := by omega
      simp only [this]
  · have h1 : (harr d i)[j]? = none := by rw [Array.getElem?_eq_none]; rw [harr_size]; omega
    have h2 : (harr d (i + 1))[j]? = none := by rw [Array.getElem?_eq_none]; rw [harr_size]; omega
    rw [h1, h2, if_neg (by omega)]
theorem harr_zero (d : Int) : harr d 0 = #[.int .u8 0, .int .u8 0, .int .u8 0, .int .u8 0, .int .u8 0, .int .u8 0, .int .u8 0, .int .u8 0, .int .u8 0, .int .u8 0, .int .u8 0, .int .u8 0, .int .u8 0, .int .u8 0, .int .u8 0, .int .u8 0] := rfl
theorem harr_reads (d : Int) (w : World) (t : TypeId) : Kd.C (Kd.int .u8) (w.alloc (.cells (harr d 16) t)) (some ⟨w.heap.size, 0, none⟩) 16 (hexL d) := by
  refine ⟨by simp [hexL], by decide, fun _ => ⟨_, rfl, fun j p hp => ⟨[.int .u8 p], rfl, rfl, fun i u hu => ?_⟩⟩⟩
  have hj : j < 16 := by
    have := (List.getElem?_eq_some_iff.1 hp).1
    simpa [hexL] using this
  have hp' : p = hexd d j := by
    unfold hexL at hp
    rw [List.getElem?_map, List.getElem?_range hj] at hp
    simpa using hp.symm
  cases i with
  | succ i => simp at hu
  | zero =>
    simp at hu
    subst hu
    have hadd : (⟨w.heap.size, 0, none⟩ : Addr).add (j * 1 + 0) = ⟨w.heap.size, j, none⟩ := by rw [Addr.add_lit]; simp
    show (w.alloc (.cells (harr d 16) t)).cell? ((⟨w.heap.size, 0, none⟩ : Addr).add (j * 1 + 0)) = _
    rw [hadd, World.cell?_alloc_new, harr_get d 16 j hj, if_pos hj, hp']
theorem hexd_bounds (d : Int) (i : Nat) (h0 : 0 ≤ d) (h1 : d < 18446744073709551616) : 0 ≤ Go.bits .and .u64 (d / 2 ^ (60 - 4 * i)) 15 ∧ Go.bits .and .u64 (d / 2 ^ (60 - 4 * i)) 15 < 16 := by
  have hp : (0 : Int) < 2 ^ (60 - 4 * i) := Int.pow_pos (by decide)
  have q0 : 0 ≤ d / 2 ^ (60 - 4 * i) := Int.ediv_nonneg h0 (by omega)
  have q1 : d / 2 ^ (60 - 4 * i) ≤ d := Int.ediv_le_self _ h0
  rw [and15_u64 _ q0 (by omega)]
  omega
set_option maxHeartbeats 1000000 in
theorem hex_calls (d : Int) (h0 : 0 ≤ d) (h1 : d < 18446744073709551616) (w : World) : Calls Try.prog 15 #[.int .u64 d] w fun e w' => e = .returned (.string (strOfNums (hexL d))) ∧ Below w.heap.size w w' := by
  have HD : Aside0 (0 ≤ d ∧ d < 18446744073709551616) := ⟨h0, h1⟩
  have HB : ∀ i, Aside0 (Below w.heap.size w (w.alloc (.cells (harr d i) 43))) := fun i => ⟨(Below.refl _ _).alloc (Nat.le_refl _) _⟩
  have HBl := HB 16
  clear HB
  go_enter Try.func15, Try.ntmps15
  go_wp2
  go_loopw [5] (fun v5 wr => ∃ i : Nat, i ≤ 16 ∧ v5 = .int .i64 i ∧ wr = w.alloc (.cells (harr d i) 43)) (fun v3 _ => 16 - (intOf v3).toNat)
  case atStart => exact ⟨0, by omega, rfl, by rw [harr_zero]⟩
  case round =>
    obtain ⟨i, hi, rfl, rfl⟩ := hrel
    by_cases h : i < 16
    · have hb : decide ((i : Int) < 16) = true := by simp; omega
      obtain ⟨p1, q1⟩ := hexd_bounds d i HD.out.1 HD.out.2
      have hg := harr_get d i i h
      rw [if_neg (Nat.lt_irrefl i)] at hg
      have HS := Aside0.mk (harr_set d i h)
      go_wp2
      go_roundw
      case rel => exact ⟨i + 1, by omega, by go_num, by rw [← HS.out]; exact congrArg (fun x => w.alloc (Obj.cells ((harr d i).setIfInBounds i (Value.int .u8 x)) 43)) (bt_at hexDigits _ _)⟩
      case measure => simp [intOf]; omega
    · obtain rfl : i = 16 := by omega
      have hb : decide (((16 : Nat) : Int) < 16) = false := by simp
      have hcv := Kd.C_string (P := Try.prog) (A := some ⟨w.heap.size, 0, none⟩) (n := 16) (c := 16) Try.underlying22 Try.underlying5 Try.underlying9 (harr_reads d w 43)
      go_wp2
      go_ret
      exact ⟨rfl, HBl.out⟩
def digest_Hex.f (a0 : Int) : Option ByteArray := if 0 ≤ a0 then if a0 < 18446744073709551616 then some (strOfNums (hexL a0)) else none else none
theorem digest_Hex.calls (a0 : Int) (r : ByteArray) (w : World) (h : digest_Hex.f a0 = some r) :
    Calls Try.prog 15 #[.int .u64 a0] w fun e w' => e = .returned (.string r) ∧ Below w.heap.size w w' := by
  unfold digest_Hex.f at h
  by_cases h0 : 0 ≤ a0
  case neg => rw [if_neg h0] at h; cases h
  rw [if_pos h0] at h
  by_cases h1 : a0 < 18446744073709551616
  case neg => rw [if_neg h1] at h; cases h
  rw [if_pos h1] at h
  injection h with h
  subst h
  exact hex_calls a0 h0 h1 w

-- NOT PRINTED: function 28 (digest_tail)

-- NOT PRINTED: function 32 (slices_Grow_byte_byte)

/-! ### slices_Concat_byte_byte: function 29 -/
set_option maxHeartbeats 1000000 in
/-- slices.Grow of nil. -/
theorem slices_Concat_byte_byte.grow (n : Int) (h0 : 0 ≤ n) (hn : n * 1 ≤ 140737488355328) (w : World) :
    Calls Try.prog 32 #[.slice none 0 0, .int .i64 n] w fun e w' => ∃ v0_ : Value, e = .returned (v0_) ∧ Kd.R (Kd.int .u8) 5 w' w.heap.size (fun _ => True) v0_ [] ∧ Below w.heap.size w w' := by
  have hneg : decide (n < 0) = false := by simp; omega
  have HN : Aside0 (0 ≤ n ∧ n * 1 ≤ 140737488355328) := ⟨h0, hn⟩
  have HB := Aside0.mk (Below.refl w.heap.size w)
  have HR := Aside0.mk (Kd.R_nil (Kd.int .u8) 5 w w.heap.size (fun _ => True))
  have h9 : n ≤ 140737488355328 := by omega
  clear hn
  by_cases hp : 0 < n
  · have hpb : decide (0 < n) = true := by simp; omega
    go_enter Try.func32, Try.ntmps32
    go_wp2_with (first | ((with_reducible refine gate_builtin (b := .append) (xs := #[.tmp 20, .tmp 21]) rfl ?_); refine Kd.R_append_zeros (Kd.int .u8) (w0 := w) w.heap.size rfl (.tmp 20) (.tmp 21) 22 3 5 (.int .u8 0) 1 rfl Try.underlying22 Try.underlying3 info5 rfl (by decide) (by omega) (.slice none 0 0) [] (0 : Int) n (fun _ => True) rfl rfl rfl (fun _ _ => trivial) HR.out h0 HB.out (Nat.le_refl _) (by have := HN.out.2; simp; omega) ?_; intro v1 w1 ho hb _ _; have HO1 := Aside0.mk ho; have HB1 := Aside0.mk hb; clear ho hb; obtain ⟨A1, c1, rfl⟩ := Kd.R_slice HO1.out))
    go_ret
    exact ⟨_, rfl, by have := Kd.R_take HO1.out (m := 0) (Nat.zero_le _); exact this, HB1.out⟩
  · have hpb : decide (0 < n) = false := by simp; omega
    go_enter Try.func32, Try.ntmps32
    go_wp2
    go_ret
    exact ⟨_, rfl, HR.out, HB.out⟩

def slices_Concat_byte_byte.total : List (List Int) → Nat
  | [] => 0
  | x :: r => x.length + slices_Concat_byte_byte.total r
theorem slices_Concat_byte_byte.total_take (l : List (List Int)) (k : Nat) (h : k < l.length) : slices_Concat_byte_byte.total (l.take (k + 1)) = slices_Concat_byte_byte.total (l.take k) + (l.getD k []).length := by
  induction l generalizing k with
  | nil => simp at h
  | cons x r ih =>
    cases k with
    | zero => simp [slices_Concat_byte_byte.total]
    | succ k => simp only [List.take_succ_cons, slices_Concat_byte_byte.total, List.getD_cons_succ]; rw [ih k (by simpa using h)]; omega
theorem slices_Concat_byte_byte.total_le (l : List (List Int)) (k : Nat) : slices_Concat_byte_byte.total (l.take k) ≤ slices_Concat_byte_byte.total l := by
  induction l generalizing k with
  | nil => simp [slices_Concat_byte_byte.total]
  | cons x r ih =>
    cases k with
    | zero => simp [slices_Concat_byte_byte.total]
    | succ k => have := ih k; simp only [List.take_succ_cons, slices_Concat_byte_byte.total]; omega
theorem slices_Concat_byte_byte.flat_take (l : List (List Int)) (k : Nat) (h : k < l.length) : (l.take (k + 1)).flatten = (l.take k).flatten ++ l.getD k [] := by
  rw [List.take_succ_eq_append_getElem h, List.flatten_append, List.getD_eq_getElem?_getD, List.getElem?_eq_getElem h]
  simp
theorem slices_Concat_byte_byte.flat_len (l : List (List Int)) : l.flatten.length = slices_Concat_byte_byte.total l := by
  induction l with
  | nil => rfl
  | cons x r ih => simp [slices_Concat_byte_byte.total, ih]
def slices_Concat_byte_byte.f (l0 : List (List Int)) : Option (List Int) := if slices_Concat_byte_byte.total l0 * 1 ≤ 140737488355328 then some l0.flatten else none
set_option maxHeartbeats 1000000 in
theorem slices_Concat_byte_byte.calls (A0 : Option Addr) (c0 : Nat) (l0 : List (List Int)) (r : List Int) (w : World) (hr0 : Kd.C (Kd.slice 5 (Kd.int .u8)) w A0 l0.length l0) (hc0 : l0.length ≤ c0) (h : slices_Concat_byte_byte.f l0 = some r) :
    Calls Try.prog 29 #[.slice A0 l0.length c0] w fun e w' => ∃ v0_ : Value, e = .returned (v0_) ∧ Kd.R (Kd.int .u8) 5 w' w.heap.size (fun _ => True) v0_ r ∧ Below w.heap.size w w' := by
  unfold slices_Concat_byte_byte.f at h
  by_cases g : slices_Concat_byte_byte.total l0 * 1 ≤ 140737488355328
  case neg => rw [if_neg g] at h; cases h
  rw [if_pos g] at h
  injection h with h
  have HG := Aside0.mk g
  have HH := Aside0.mk h
  have HR := Aside0.mk hr0
  have HL : l0.length ≤ 9223372036854775807 := hr0.2.1
  have HB := Aside0.mk (Below.refl w.heap.size w)
  clear h g hr0
  go_enter Try.func29, Try.ntmps29
  go_wp2
  go_loop [3, 11] (fun s i => ∃ k : Nat, k ≤ l0.length ∧ i = .int .i64 k ∧ s = .int .i64 (slices_Concat_byte_byte.total (l0.take k) : Nat)) (fun _ i => l0.length - (intOf i).toNat)
  case atStart => exact ⟨0, Nat.zero_le _, rfl, rfl⟩
  case round =>
    obtain ⟨k, hk, rfl, rfl⟩ := hrel
    by_cases hlt : k < l0.length
    · have hb : decide ((k : Int) < (l0.length : Int)) = true := by simp; omega
      obtain ⟨ad, cc, e, _, ⟨A1, c1, rfl, h2, h3⟩, hc0⟩ := Kd.C_get HR.out ([] : List Int) (k : Int) (by omega) (by omega)
      cases e
      have hx := hc0 0 _ rfl
      have hsz : (Kd.slice 5 (Kd.int .u8)).sz = 1 := rfl
      rw [hsz, Nat.mul_one, Nat.add_zero, Int.toNat_natCast] at hx
      have HT := Aside0.mk (slices_Concat_byte_byte.total_take l0 k hlt)
      have ht1 := slices_Concat_byte_byte.total_le l0 (k + 1)
      rw [HT.out] at ht1
      have hg := HG.out
      clear h2 h3 hc0 hsz
      generalize (l0.getD k []).length = n at HT ht1 hx
      generalize slices_Concat_byte_byte.total (l0.take k) = tk at HT ht1 ⊢
      have hsm : tk + n ≤ 140737488355328 := by omega
      clear ht1 hg
      have hge : decide (((tk + n : Nat) : Int) < 0) = false := by simp; omega
      go_wp2
      go_round
      case rel => exact ⟨k + 1, by omega, by go_num, by rw [HT.out]; go_num⟩
      case measure => simp [intOf]; omega
    · have hb : decide ((k : Int) < (l0.length : Int)) = false := by simp; omega
      have hkl : l0.take k = l0 := List.take_of_length_le (by omega)
      rw [hkl]
      have hg := HG.out
      have HGr : Aside0 ((0 : Int) ≤ (slices_Concat_byte_byte.total l0 : Nat) ∧ ((slices_Concat_byte_byte.total l0 : Nat) : Int) * 1 ≤ 140737488355328) := ⟨by omega⟩
      clear hkl hg
      go_wp2_with (go_at_call 32; refine (slices_Concat_byte_byte.grow _ HGr.out.1 HGr.out.2 _).mono ?_; rintro e w1 ⟨v0, rfl, ho, hb1⟩; have HO := Aside0.mk ho; have HB1 := Aside0.mk hb1; clear ho hb1)
      go_loopw [6, 27] (fun v i wr => ∃ j : Nat, j ≤ l0.length ∧ i = .int .i64 j ∧ Aside0 (Kd.R (Kd.int .u8) 5 wr w.heap.size (fun _ => True) v (l0.take j).flatten) ∧ Aside0 (Below w.heap.size w wr)) (fun _ i _ => l0.length - (intOf i).toNat)
      case atStart => exact ⟨0, Nat.zero_le _, rfl, HO, HB1⟩
      case round =>
        obtain ⟨j, hj, rfl, HV, HW⟩ := hrel
        by_cases hlj : j < l0.length
        · have hbj : decide ((j : Int) < (l0.length : Int)) = true := by simp; omega
          obtain ⟨ad, cc, e, _, ⟨A1, c1, rfl, h2, h3⟩, hc0⟩ := Kd.C_get (Kd.C_below HR.out HW.out) ([] : List Int) (j : Int) (by omega) (by omega)
          cases e
          have hx := hc0 0 _ rfl
          have hsz : (Kd.slice 5 (Kd.int .u8)).sz = 1 := rfl
          rw [hsz, Nat.mul_one, Nat.add_zero, Int.toNat_natCast] at hx
          rw [Int.toNat_natCast] at h3
          have H3 := Aside0.mk h3
          have HF := Aside0.mk (slices_Concat_byte_byte.flat_take l0 j hlj)
          have HT : Aside0 (((l0.take j).flatten.length + (l0.getD j []).length) * 1 ≤ 140737488355328) := ⟨by have h1 := slices_Concat_byte_byte.total_le l0 (j + 1); have h2 := slices_Concat_byte_byte.total_take l0 j hlj; have h3 := HG.out; rw [slices_Concat_byte_byte.flat_len]; omega⟩
          clear h2 h3 hc0 hsz
          generalize l0.getD j [] = ys at HF HT H3 hx
          go_wp2_with (first | ((with_reducible refine gate_builtin (b := .append) (xs := #[.tmp 31, .tmp 32]) rfl ?_); at_builtin; refine Kd.R_append_rows (Kd.int .u8) (w0 := w) w.heap.size rfl (.tmp 31) (.tmp 32) 22 5 (.int .u8 0) 1 rfl Try.underlying22 info5 rfl (by decide) (by omega) u6 (l0.take j).flatten ys _ _ _ (fun _ => True) (fun _ => False) rfl rfl HV.out H3.out (fun _ _ h => h) (fun _ h => h.elim) (fun _ _ => trivial) HW.out (below_size HW.out) HT.out ?_; intro v113 w8 ho hb _ _; have HO6 := Aside0.mk ho; have HB2 := Aside0.mk hb; clear ho hb))
          go_roundw
          case rel => exact ⟨j + 1, by omega, by go_num, ⟨by rw [HF.out]; exact HO6.out⟩, HB2⟩
          case measure => simp [intOf]; omega
        · have hbj : decide ((j : Int) < (l0.length : Int)) = false := by simp; omega
          have hkl : l0.take j = l0 := List.take_of_length_le (by omega)
          have HV2 : Aside0 (Kd.R (Kd.int .u8) 5 wr w.heap.size (fun _ => True) u6 r) := ⟨by rw [← HH.out]; have := HV.out; rw [hkl] at this; exact this⟩
          clear hkl
          go_wp2
          go_ret
          exact ⟨_, rfl, HV2.out, HW.out⟩

/-! ### digest_Seal: function 17 -/
def tailL (c : Int) : List Int := [c / 16777216 % 256, c / 65536 % 256, c / 256 % 256, c % 256]
def tailA (c : Int) : Array Value := #[.int .u8 (c / 16777216 % 256), .int .u8 (c / 65536 % 256), .int .u8 (c / 256 % 256), .int .u8 (c % 256)]
theorem tail_calls (c : Int) (w : World) : Calls Try.prog 28 #[.int .u32 c] w fun e w' => e = .returned (.agg #[.int .u8 (c / 16777216 % 256), .int .u8 (c / 65536 % 256), .int .u8 (c / 256 % 256), .int .u8 (c % 256)]) ∧ Below w.heap.size w w' := by
  have HB : Below w.heap.size w (w.alloc (.cells (tailA c) 44)) := (Below.refl _ _).alloc (Nat.le_refl _) _
  go_enter Try.func28, Try.ntmps28
  go_wp2
  exact bodyPost_ret (v := .agg (tailA c)) (results_cell_row (fn := Try.f28) (p := 2) (ty := 44) rfl _ _ w.heap.size 44 (tailA c) (0, 0) _ rfl (heap_alloc_new w (.cells (tailA c) 44)) Try.underlying44 rfl (by kernel_rfl)) rfl ⟨rfl, HB⟩
theorem tail_reads (c : Int) (w : World) (t : TypeId) : Kd.C (Kd.int .u8) (w.alloc (.cells (tailA c) t)) (some ⟨w.heap.size, 0, none⟩) 4 (tailL c) := by
  refine ⟨rfl, by decide, fun _ => ⟨_, rfl, fun j p hp => ⟨[.int .u8 p], rfl, rfl, fun i u hu => ?_⟩⟩⟩
  have hj : j < 4 := by
    have := (List.getElem?_eq_some_iff.1 hp).1
    simpa [tailL] using this
  cases i with
  | succ i => simp at hu
  | zero =>
    simp at hu
    subst hu
    have hadd : (⟨w.heap.size, 0, none⟩ : Addr).add (j * 1 + 0) = ⟨w.heap.size, j, none⟩ := by rw [Addr.add_lit]; simp
    show (w.alloc (.cells (tailA c) t)).cell? ((⟨w.heap.size, 0, none⟩ : Addr).add (j * 1 + 0)) = _
    rw [hadd, World.cell?_alloc_new]
    have : j = 0 ∨ j = 1 ∨ j = 2 ∨ j = 3 := by omega
    rcases this with rfl | rfl | rfl | rfl <;> (simp [tailL] at hp; subst hp; rfl)
/-- Two rows, side by side in a block. -/
theorem two_rows {w : World} {d : Kd Int} {e : Nat} {A1 A2 : Option Addr} {c1 c2 : Nat} {x1 x2 : List Int} (t : TypeId) (h1 : Kd.C d w A1 x1.length x1) (l1 : x1.length ≤ c1) (h2 : Kd.C d w A2 x2.length x2) (l2 : x2.length ≤ c2) :
    Kd.C (Kd.slice e d) (w.alloc (.cells #[.slice A1 x1.length c1, .slice A2 x2.length c2] t)) (some ⟨w.heap.size, 0, none⟩) 2 [x1, x2] := by
  have hb : Below w.heap.size w (w.alloc (.cells #[.slice A1 x1.length c1, .slice A2 x2.length c2] t)) := (Below.refl _ _).alloc (Nat.le_refl _) _
  refine ⟨rfl, by decide, fun _ => ⟨_, rfl, fun j p hp => ?_⟩⟩
  have hj : j < 2 := (List.getElem?_eq_some_iff.1 hp).1
  have : j = 0 ∨ j = 1 := by omega
  rcases this with rfl | rfl
  · simp at hp
    subst hp
    refine ⟨[.slice A1 x1.length c1], rfl, ⟨A1, c1, rfl, l1, Kd.C_below h1 hb⟩, fun i u hu => ?_⟩
    cases i with
    | succ i => simp at hu
    | zero =>
      simp at hu
      subst hu
      rw [show (⟨w.heap.size, 0, none⟩ : Addr).add (0 * (Kd.slice e d).sz + 0) = ⟨w.heap.size, 0, none⟩ by rw [Addr.add_lit]; simp, World.cell?_alloc_new]
      rfl
  · simp at hp
    subst hp
    refine ⟨[.slice A2 x2.length c2], rfl, ⟨A2, c2, rfl, l2, Kd.C_below h2 hb⟩, fun i u hu => ?_⟩
    cases i with
    | succ i => simp at hu
    | zero =>
      simp at hu
      subst hu
      have hsz : (Kd.slice e d).sz = 1 := rfl
      rw [hsz, show (⟨w.heap.size, 0, none⟩ : Addr).add (1 * 1 + 0) = ⟨w.heap.size, 1, none⟩ by rw [Addr.add_lit], World.cell?_alloc_new]
      rfl
def digest_Seal.f (l0 : List Int) : Option (List Int) := (digest_sum.f l0).bind fun c => if l0.length + 4 ≤ 140737488355328 then some (l0 ++ tailL c) else none
set_option maxHeartbeats 1000000 in
theorem digest_Seal.calls (A0 : Option Addr) (c0 : Nat) (l0 : List Int) (r : List Int) (w : World) (hr0 : Kd.C (Kd.int .u8) w A0 l0.length l0) (hc0 : l0.length ≤ c0) (h : digest_Seal.f l0 = some r) :
    Calls Try.prog 17 #[.slice A0 l0.length c0] w fun e w' => ∃ v0_ : Value, e = .returned (v0_) ∧ Kd.R (Kd.int .u8) 5 w' w.heap.size (fun _ => True) v0_ r ∧ Below w.heap.size w w' := by
  unfold digest_Seal.f at h
  obtain ⟨c, hc, h⟩ := Option.bind_eq_some_iff.1 h
  by_cases g : l0.length + 4 ≤ 140737488355328
  case neg => rw [if_neg g] at h; cases h
  rw [if_pos g] at h
  injection h with h
  have HG := Aside0.mk g
  have HH := Aside0.mk h
  have HR := Aside0.mk hr0
  have HC := Aside0.mk hc
  have HK := Aside0.mk hc0
  have HF : Aside0 (slices_Concat_byte_byte.f [l0, tailL c] = some r) := ⟨by
    unfold slices_Concat_byte_byte.f
    rw [if_pos (by simp [slices_Concat_byte_byte.total, tailL]; omega), ← h]
    simp⟩
  clear h g hr0 hc hc0
  go_enter Try.func17, Try.ntmps17
  go_wp2_with (first | (go_at_call 25; refine (digest_sum.calls _ _ l0 c _ HR.out HK.out HC.out).mono ?_; rintro e w1 ⟨rfl, hb1⟩; have HB1 := Aside0.mk hb1; clear hb1) | (go_at_call 28; refine (tail_calls c _).mono ?_; rintro e w2 ⟨rfl, hb2⟩; have HB2 := Aside0.mk hb2; clear hb2))
  have HB3 : Aside0 (Below w.heap.size w w2) := ⟨below_step HB1.out HB2.out⟩
  have H2 : Aside0 (Kd.C (Kd.slice 5 (Kd.int .u8)) ((w2.alloc (.cells (tailA c) 44)).alloc (.cells #[.slice A0 l0.length c0, .slice (some ⟨w2.heap.size, 0, none⟩) 4 4] 22)) (some ⟨w2.heap.size + 1, 0, none⟩) 2 [l0, tailL c]) := ⟨by
    have hs : (w2.alloc (.cells (tailA c) 44)).heap.size = w2.heap.size + 1 := by simp
    have := two_rows (w := w2.alloc (.cells (tailA c) 44)) (e := 5) 22 (Kd.C_below HR.out (HB3.out.alloc (below_size HB3.out) _)) HK.out (tail_reads c w2 44) (Nat.le_refl 4)
    rw [hs] at this
    exact this⟩
  have HB4 : Aside0 (Below w.heap.size w ((w2.alloc (.cells (tailA c) 44)).alloc (.cells #[.slice A0 l0.length c0, .slice (some ⟨w2.heap.size, 0, none⟩) 4 4] 22))) := ⟨(HB3.out.alloc (below_size HB3.out) _).alloc (by have := below_size HB3.out; simp; omega) _⟩
  refine (slices_Concat_byte_byte.calls (some ⟨w2.heap.size + 1, 0, none⟩) 2 [l0, tailL c] r _ H2.out (Nat.le_refl 2) HF.out).mono ?_
  rintro e w5 ⟨v0, rfl, ho, hb⟩
  have HO := Aside0.mk (Kd.R_lower ho (below_size HB4.out))
  have HB5 := Aside0.mk (below_step HB4.out hb)
  clear ho hb
  go_wp2
  go_ret
  exact ⟨_, rfl, HO.out, HB5.out⟩

end Go.Proofs.Ytbogbpbapgjndaa.PA
