/- What the printed functions of plates and of its reference answer: checks, totals, the run-length encoding. -/
import Derived.Test.YtaappifdpbgchaaWireDec
import Derived.Test.YtaappifdpbgchaaDig
import Derived.Test.YtaappifdpbgchaaPAx1
import Derived.Test.YtaappifdpbgchaaPAx3
import Derived.Test.YtaappifdpbgchaaPAx8
import Derived.Test.YtaappifdpbgchaaPAx10
import Derived.Test.YtaappifdpbgchaaPAx12
import Derived.Test.YtaappifdpbgchaaPAx7
namespace Go.Proofs.Ytaappifdpbgchaa.Plt
set_option linter.unusedVariables false
set_option linter.unusedSimpArgs false
open Go.RowKit Go.Proofs.Ytaappifdpbgchaa.PA Go.Proofs.YtaappifdpbgchaaW.PrintWords Go.Proofs.YtaappifdpbgchaaW.PrintLast Go.Proofs.YtaappifdpbgchaaW.PrintMore Go.Proofs.Ytaappifdpbgchaa.Wire
open Go.Proofs.Ytaappifdpbgchaa.Crc (opened crc Byts)
theorem w1 (i : Nat) (h : i < 1000000000) : wrap64 ((i : Int) + 1) = ((i + 1 : Nat) : Int) := by unfold wrap64; omega
theorem rd_at (xs : List Int) (i : Nat) (h : i < xs.length) : rd xs (i : Int) = xs[i] := by
  unfold rd; rw [Int.toNat_natCast, List.getD_eq_getElem?_getD, List.getElem?_eq_getElem h]; rfl
theorem rcheck_l0 (W H : Int) (V : List Int) (hl : V.length ≤ 9223372036854775807) : ∀ (d k i : Nat), V.length - i = d → i ≤ V.length → d < k → mapsheetsref54_Check.l0 k (i : Int) W H V = some (if ∀ v ∈ V.drop i, 0 ≤ v ∧ v ≤ 100 then 0 else 2) := by
  intro d
  induction d with
  | zero =>
    intro k i hd hi hk
    obtain ⟨k, rfl⟩ : ∃ m, k = m + 1 := ⟨k - 1, by omega⟩
    rw [mapsheetsref54_Check.l0, if_neg (by omega), List.drop_of_length_le (by omega), if_pos (fun v hv => by cases hv)]
  | succ d ih =>
    intro k i hd hi hk
    obtain ⟨k, rfl⟩ : ∃ m, k = m + 1 := ⟨k - 1, by omega⟩
    have hlt : i < V.length := by omega
    have hrd : rd V (i : Int) = V[i] := by
      unfold rd; rw [Int.toNat_natCast, List.getD_eq_getElem?_getD, List.getElem?_eq_getElem hlt]; rfl
    rw [mapsheetsref54_Check.l0, if_pos (by omega), if_pos (by omega), hrd, show wrap64 ((i : Int) + 1) = ((i + 1 : Nat) : Int) by unfold wrap64; omega, List.drop_eq_getElem_cons hlt]
    by_cases h1 : V[i] < 0
    · rw [if_pos h1, if_neg]
      intro h; have := (h _ List.mem_cons_self).1; omega
    · by_cases h2 : V[i] > 100
      · rw [if_neg h1, if_pos h2, if_neg]
        intro h; have := (h _ List.mem_cons_self).2; omega
      · rw [if_neg h1, if_neg h2, ih k (i + 1) (by omega) (by omega) (by omega)]
        congr 1
        by_cases h3 : ∀ v ∈ V.drop (i + 1), 0 ≤ v ∧ v ≤ 100
        · rw [if_pos h3, if_pos]
          intro v hv
          rcases List.mem_cons.1 hv with rfl | hv
          · exact ⟨by omega, by omega⟩
          · exact h3 v hv
        · rw [if_neg h3, if_neg]
          intro h; exact h3 fun v hv => h v (List.mem_cons_of_mem _ hv)
theorem rcheck_chk (W H : Int) (V : List Int) (hl : V.length ≤ 9223372036854775807) (k : Nat) (hk : V.length < k) : mapsheetsref54_Check.f k W H V = some (chk W H V) := by
  unfold mapsheetsref54_Check.f mapsheetsref54_sized.f chk
  by_cases h1 : W ≥ 1
  · by_cases h2 : W ≤ 256
    · by_cases h3 : H ≥ 1
      · rw [if_pos h1, if_pos h2, if_pos h3, Option.bind_some]
        by_cases h4 : H ≤ 256
        · have hw : wrap64 (W * H) = W * H := by
            have h5 : 0 ≤ W * H := Int.mul_nonneg (by omega) (by omega)
            have h6 : W * H ≤ 256 * 256 := Int.mul_le_mul h2 h4 (by omega) (by omega)
            unfold wrap64; omega
          rw [if_pos (by simp [h4]), hw, if_pos (show 1 ≤ W ∧ W ≤ 256 ∧ 1 ≤ H ∧ H ≤ 256 from ⟨h1, h2, h3, h4⟩)]
          by_cases h5 : (V.length : Int) = W * H
          · rw [if_pos h5, if_pos h5]
            have := rcheck_l0 W H V hl V.length k 0 (by omega) (by omega) (by omega)
            rw [List.drop_zero] at this
            exact this
          · rw [if_neg h5, if_neg h5]
        · rw [if_neg (by simp; omega), if_neg (by omega)]
      · rw [if_pos h1, if_pos h2, if_neg h3, Option.bind_some, if_neg (by decide), if_neg (by omega)]
    · rw [if_pos h1, if_neg h2, Option.bind_some, if_neg (by decide), if_neg (by omega)]
  · rw [if_neg h1, Option.bind_some, if_neg (by decide), if_neg (by omega)]
theorem fair_ok (W H : Int) (L : List Int) : mapsheetslaw54_fair.f W H L = some (decide ((L.length : Int) ≤ 5000)) := rfl
theorem awake_ok : mapsheetslaw54_awake.f = some true := rfl
/-! ### Totals -/
def tot (a : Int) (L : List Int) : Int := L.foldl (fun x y => wrap64 (x + y)) a
theorem total_l0 (L : List Int) (hl : L.length ≤ 100000) : ∀ (d k i : Nat) (a : Int), L.length - i = d → i ≤ L.length → d < k → plates_Total.l0 k a L (L.length : Int) (i : Int) = some (tot a (L.drop i)) := by
  intro d
  induction d with
  | zero =>
    intro k i a hd hi hk
    obtain ⟨k, rfl⟩ : ∃ m, k = m + 1 := ⟨k - 1, by omega⟩
    rw [plates_Total.l0, if_neg (by omega), List.drop_of_length_le (by omega)]; rfl
  | succ d ih =>
    intro k i a hd hi hk
    obtain ⟨k, rfl⟩ : ∃ m, k = m + 1 := ⟨k - 1, by omega⟩
    rw [plates_Total.l0, if_pos (by omega), if_pos (by omega), if_pos (by omega), rd_at L i (by omega), w1 i (by omega), List.drop_eq_getElem_cons (show i < L.length by omega), ih k (i + 1) _ (by omega) (by omega) (by omega)]
    rfl
theorem rtotal_l0 (W H : Int) (L : List Int) (hl : L.length ≤ 100000) : ∀ (d k i : Nat) (a : Int), L.length - i = d → i ≤ L.length → d < k → mapsheetsref54_Total.l0 k a (i : Int) W H L = some (tot a (L.drop i)) := by
  intro d
  induction d with
  | zero =>
    intro k i a hd hi hk
    obtain ⟨k, rfl⟩ : ∃ m, k = m + 1 := ⟨k - 1, by omega⟩
    rw [mapsheetsref54_Total.l0, if_neg (by omega), List.drop_of_length_le (by omega)]; rfl
  | succ d ih =>
    intro k i a hd hi hk
    obtain ⟨k, rfl⟩ : ∃ m, k = m + 1 := ⟨k - 1, by omega⟩
    rw [mapsheetsref54_Total.l0, if_pos (by omega), if_pos (by omega), rd_at L i (by omega), w1 i (by omega), List.drop_eq_getElem_cons (show i < L.length by omega), ih k (i + 1) _ (by omega) (by omega) (by omega)]
    rfl
theorem total_ok (W H : Int) (L : List Int) (hl : L.length ≤ 100000) (k : Nat) (hk : L.length < k) : plates_Total.f k W H L = some (if chk W H L = 0 then tot 0 L else 0) := by
  unfold plates_Total.f
  rw [check_chk W H L (by omega) k hk, Option.bind_some]
  by_cases e : chk W H L = 0
  · rw [if_pos e, if_pos e]
    exact total_l0 L hl L.length k 0 0 (by omega) (by omega) (by omega)
  · rw [if_neg e, if_neg e]
theorem rtotal_ok (W H : Int) (L : List Int) (hl : L.length ≤ 100000) (k : Nat) (hk : L.length < k) : mapsheetsref54_Total.f k W H L = some (if chk W H L = 0 then tot 0 L else 0) := by
  unfold mapsheetsref54_Total.f
  rw [rcheck_chk W H L (by omega) k hk, Option.bind_some]
  by_cases e : chk W H L = 0
  · rw [if_pos e, if_pos e]
    exact rtotal_l0 W H L hl L.length k 0 0 (by omega) (by omega) (by omega)
  · rw [if_neg e, if_neg e]
/-! ### Same -/
theorem same_l0 (W H : Int) (L : List Int) (hl : L.length ≤ 100000) : ∀ (d k i : Nat), L.length - i = d → i ≤ L.length → d < k → mapsheetsref54_Same.l0 k (i : Int) W H L W H L = some true := by
  intro d
  induction d with
  | zero =>
    intro k i hd hi hk
    obtain ⟨k, rfl⟩ : ∃ m, k = m + 1 := ⟨k - 1, by omega⟩
    rw [mapsheetsref54_Same.l0, if_neg (by omega)]
  | succ d ih =>
    intro k i hd hi hk
    obtain ⟨k, rfl⟩ : ∃ m, k = m + 1 := ⟨k - 1, by omega⟩
    rw [mapsheetsref54_Same.l0, if_pos (by omega), if_pos (by omega), if_pos (by omega), if_pos rfl, w1 i (by omega)]
    exact ih k (i + 1) (by omega) (by omega) (by omega)
theorem same_ok (W H : Int) (L : List Int) (hl : L.length ≤ 100000) (k : Nat) (hk : 200000 < k) : mapsheetsref54_Same.f k W H L W H L = some true := by
  obtain ⟨k, rfl⟩ : ∃ m, k = m + 1 := ⟨k - 1, by omega⟩
  unfold mapsheetsref54_Same.f
  rw [if_pos rfl, if_pos rfl, show ((L.length : Int) != (L.length : Int)) = false by simp, mapsheetsref54_Same.j0, if_neg (by decide)]
  exact same_l0 W H L hl L.length k 0 (by omega) (by omega) (by omega)
/-! ### The run-length encoding -/
def runsE : Nat → Int → List Int → List Int
  | n, v, [] => enc (n : Int) ++ enc v
  | n, v, x :: r => if x = v then runsE (n + 1) v r else enc (n : Int) ++ enc v ++ runsE 1 x r
def encV : List Int → List Int
  | [] => []
  | x :: r => runsE 1 x r
theorem runsE_len : ∀ (r : List Int) (n : Nat) (v : Int), (runsE n v r).length ≤ 20 * (r.length + 1)
  | [], n, v => by
    have := enc_length (n : Int); have := enc_length v
    simp only [runsE, List.length_append, List.length_nil]; omega
  | x :: r, n, v => by
    unfold runsE
    by_cases e : x = v
    · rw [if_pos e]; have := runsE_len r (n + 1) v; simp only [List.length_cons]; omega
    · rw [if_neg e]
      have := runsE_len r 1 x
      have := enc_length (n : Int); have := enc_length v
      simp only [List.length_append, List.length_cons]; omega
theorem encV_len (V : List Int) : (encV V).length ≤ 20 * V.length := by
  cases V with
  | nil => simp [encV]
  | cons x r => have := runsE_len r 1 x; simpa [encV] using this
theorem i64n (n : Nat) (h : n ≤ 100000) : I64 (n : Int) := ⟨by omega, by omega⟩
theorem i64v {v : Int} (h : 0 ≤ v ∧ v ≤ 100) : I64 v := ⟨by omega, by omega⟩
theorem bytes_app {a b : List Int} (ha : Bytes a) (hb : Bytes b) : Bytes (a ++ b) := fun x hx => by
  rcases List.mem_append.1 hx with h | h
  · exact ha x h
  · exact hb x h
theorem bytes_encI (n : Int) (h : I64 n) : Bytes (enc n) := venc_bytes 9 _ (zz_bounds h).1
theorem bytes_runsE : ∀ (r : List Int) (n : Nat) (v : Int), n + r.length ≤ 100000 → I64 v → (∀ x ∈ r, I64 x) → Bytes (runsE n v r)
  | [], n, v, hn, hv, _ => bytes_app (bytes_encI _ (i64n n (by simpa using hn))) (bytes_encI _ hv)
  | x :: r, n, v, hn, hv, hr => by
    simp only [List.length_cons] at hn
    unfold runsE
    by_cases e : x = v
    · rw [if_pos e]; exact bytes_runsE r (n + 1) v (by omega) hv fun y hy => hr y (List.mem_cons_of_mem _ hy)
    · rw [if_neg e]
      exact bytes_app (bytes_app (bytes_encI _ (i64n n (by omega))) (bytes_encI _ hv)) (bytes_runsE r 1 x (by omega) (hr x List.mem_cons_self) fun y hy => hr y (List.mem_cons_of_mem _ hy))
/-- The bytes of a plate, without the checksum. -/
def body (W H : Int) (V : List Int) : List Int := enc W ++ enc H ++ encV V
theorem body_len (W H : Int) (V : List Int) : (body W H V).length ≤ 20 * V.length + 20 := by
  have := encV_len V; have := enc_length W; have := enc_length H
  unfold body
  simp only [List.length_append]; omega
def sealed (l : List Int) : List Int := l ++ tailL ((crc l : Nat) : Int)
theorem byts_of {l : List Int} (h : Bytes l) : Byts l := fun x hx => by have := h x hx; omega
theorem pack_l1 (W H : Int) (V : List Int) (hl : V.length ≤ 100000) (hv : ∀ x ∈ V, I64 x) {r} : ∀ (d : Nat) (i k0 k : Nat) (b : List Int), 2 * (V.length - k0) + (if i = k0 then 0 else 1) = d → i ≤ k0 → k0 ≤ V.length → (hi : i < V.length) → b.length + 30 * (V.length - i) + 30 < 140737488355328 →
    (i = k0 → digest_Seal.f (b ++ encV (V.drop i)) = some r) → (i < k0 → digest_Seal.f (b ++ runsE (k0 - i) V[i] (V.drop k0)) = some r) → 2 * d + 5 < k → plates_Pack.l1 k b (i : Int) (k0 : Int) W H V = some (r, 0) := by
  intro d
  induction d using Nat.strongRecOn with
  | _ d ih =>
    intro i k0 k b hd hik hk0 hi hb h0 h1 hk
    obtain ⟨k, rfl⟩ : ∃ m, k = m + 1 := ⟨k - 1, by omega⟩
    have hwi : wrap64 ((k0 : Int) - (i : Int)) = ((k0 - i : Nat) : Int) := by unfold wrap64; omega
    by_cases hlt : k0 < V.length
    · rw [plates_Pack.l1, if_pos (by omega), if_pos (by omega), if_pos (by omega), if_pos (by omega), rd_at V k0 hlt, rd_at V i hi]
      by_cases e : V[k0] = V[i]
      · rw [if_pos e, w1 k0 (by omega)]
        have hm : 2 * (V.length - (k0 + 1)) + (if i = k0 + 1 then 0 else 1) < d := by
          rw [if_neg (by omega)]
          split at hd <;> omega
        refine ih _ hm i (k0 + 1) k b rfl (by omega) (by omega) hi hb (fun h => by omega) (fun _ => ?_) (by omega)
        by_cases e0 : i = k0
        · subst e0
          have := h0 rfl
          rw [List.drop_eq_getElem_cons hlt] at this
          rw [show i + 1 - i = 1 by omega]
          exact this
        · have := h1 (by omega)
          rw [List.drop_eq_getElem_cons hlt, runsE, if_pos e] at this
          rw [show k0 + 1 - i = k0 - i + 1 by omega]
          exact this
      · have hne : i < k0 := by
          rcases Nat.lt_or_ge i k0 with h | h
          · exact h
          · obtain rfl : i = k0 := by omega
            exact absurd rfl e
        have hs := h1 hne
        rw [List.drop_eq_getElem_cons hlt, runsE, if_neg e] at hs
        have l1 := enc_length ((k0 - i : Nat) : Int)
        have l2 := enc_length V[i]
        rw [if_neg e, hwi, wput_is b _ (i64n _ (by omega)) (by omega), Option.bind_some, wput_is _ _ (hv _ (List.getElem_mem hi)) (by rw [List.length_append]; omega), Option.bind_some]
        obtain ⟨k, rfl⟩ : ∃ m, k = m + 1 := ⟨k - 1, by omega⟩
        rw [plates_Pack.l0, if_pos (by omega)]
        have hm : 2 * (V.length - k0) + (if k0 = k0 then 0 else 1) < d := by
          rw [if_pos rfl]
          rw [if_neg (by omega)] at hd
          omega
        refine ih _ hm k0 k0 k _ rfl (Nat.le_refl _) (by omega) hlt (by rw [List.length_append, List.length_append]; omega) (fun _ => ?_) (fun h => by omega) (by omega)
        rw [List.drop_eq_getElem_cons hlt]
        show digest_Seal.f (b ++ enc _ ++ enc _ ++ runsE 1 V[k0] (V.drop (k0 + 1))) = some r
        rw [← hs]
        simp only [List.append_assoc]
    · obtain rfl : k0 = V.length := by omega
      have hs := h1 hi
      rw [List.drop_length, runsE] at hs
      have l1 := enc_length ((V.length - i : Nat) : Int)
      rw [plates_Pack.l1, if_neg (by omega), hwi, wput_is b _ (i64n _ (by omega)) (by omega), Option.bind_some, if_pos (by omega), if_pos (by omega), rd_at V i hi, wput_is _ _ (hv _ (List.getElem_mem hi)) (by rw [List.length_append]; omega), Option.bind_some]
      obtain ⟨k, rfl⟩ : ∃ m, k = m + 1 := ⟨k - 1, by omega⟩
      rw [plates_Pack.l0, if_neg (by omega), List.append_assoc, hs, Option.bind_some]
theorem pack_ok (W H : Int) (V : List Int) (h : chk W H V = 0) (k : Nat) (hk : 1000000 < k) : plates_Pack.f k W H V = some (sealed (body W H V), 0) := by
  obtain ⟨a1, a2, a3, a4, a5, a6⟩ := chk_zero h
  obtain ⟨hml, hmp⟩ := chk_len h
  have hv : ∀ x ∈ V, I64 x := fun x hx => i64v (a6 x hx)
  have hW : I64 W := ⟨by omega, by omega⟩
  have hH : I64 H := ⟨by omega, by omega⟩
  have l1 := enc_length W
  have l2 := enc_length H
  have hbb : Bytes (body W H V) := by
    unfold body
    refine bytes_app (bytes_app (bytes_encI _ hW) (bytes_encI _ hH)) ?_
    cases V with
    | nil => intro x hx; cases hx
    | cons x r => exact bytes_runsE r 1 x (by simp only [List.length_cons] at hml; omega) (hv x List.mem_cons_self) fun y hy => hv y (List.mem_cons_of_mem _ hy)
  have hs : digest_Seal.f (body W H V) = some (sealed (body W H V)) := Crc.seal_is _ (byts_of hbb) (by have := body_len W H V; omega)
  unfold plates_Pack.f
  rw [check_chk W H V (by omega) k (by omega), Option.bind_some, if_pos h, wput_is [] W hW (by simp), Option.bind_some, List.nil_append, wput_is _ H hH (by omega), Option.bind_some]
  obtain ⟨k, rfl⟩ : ∃ m, k = m + 1 := ⟨k - 1, by omega⟩
  have h0 : plates_Pack.l0 (k + 1) (enc W ++ enc H) 0 W H V = some (sealed (body W H V), 0) := by
    rw [plates_Pack.l0, if_pos (by omega)]
    have := pack_l1 W H V (by omega) hv (r := sealed (body W H V)) (2 * V.length) 0 0 k (enc W ++ enc H) (by simp) (Nat.le_refl _) (by omega) hmp (by rw [List.length_append]; omega) (fun _ => by rw [List.drop_zero]; exact hs) (fun h => by omega) (by omega)
    exact this
  exact h0
theorem pack_bad (W H : Int) (V : List Int) (hl : V.length ≤ 100000) (h : chk W H V ≠ 0) (k : Nat) (hk : 1000000 < k) : plates_Pack.f k W H V = some ([], chk W H V) := by
  unfold plates_Pack.f
  rw [check_chk W H V (by omega) k (by omega), Option.bind_some, if_neg h]
theorem rpack_l0 (W H : Int) (V : List Int) (hl : V.length ≤ 100000) (hv : ∀ x ∈ V, I64 x) {r} (K : Nat) : ∀ (d : Nat) (i k0 k : Nat) (b : List Int), V.length - k0 = d → i < k0 → k0 ≤ V.length → (hi : i < V.length) → b.length + 30 * (V.length - i) + 30 < 140737488355328 →
    (∀ k, K ≤ k → mapsheetsref03_Seal.f k (b ++ runsE (k0 - i) V[i] (V.drop k0)) = some r) → 3 * d + 50 + K < k → mapsheetsref54_Pack.l0 k b (i : Int) (k0 : Int) W H V = some (r, 0) := by
  intro d
  induction d with
  | zero =>
    intro i k0 k b hd hik hk0 hi hb hs hk
    obtain rfl : k0 = V.length := by omega
    obtain ⟨k, rfl⟩ : ∃ m, k = m + 1 := ⟨k - 1, by omega⟩
    have hwi : wrap64 ((V.length : Int) - (i : Int)) = ((V.length - i : Nat) : Int) := by unfold wrap64; omega
    have l1 := enc_length ((V.length - i : Nat) : Int)
    rw [mapsheetsref54_Pack.l0, if_pos (by omega), if_pos rfl]
    obtain ⟨k, rfl⟩ : ∃ m, k = m + 1 := ⟨k - 1, by omega⟩
    rw [mapsheetsref54_Pack.j1, if_pos rfl, hwi, put_is b _ (i64n _ (by omega)) (by omega) k (by omega), Option.bind_some, if_pos (by omega), if_pos (by omega), rd_at V i hi, put_is _ _ (hv _ (List.getElem_mem hi)) (by rw [List.length_append]; omega) k (by omega), Option.bind_some, w1 _ (by omega)]
    obtain ⟨k, rfl⟩ : ∃ m, k = m + 1 := ⟨k - 1, by omega⟩
    have := hs k (by omega)
    rw [List.drop_length, runsE] at this
    rw [mapsheetsref54_Pack.l0, if_neg (by omega), List.append_assoc, this, Option.bind_some]
  | succ d ih =>
    intro i k0 k b hd hik hk0 hi hb hs hk
    have hlt : k0 < V.length := by omega
    obtain ⟨k, rfl⟩ : ∃ m, k = m + 1 := ⟨k - 1, by omega⟩
    have hwi : wrap64 ((k0 : Int) - (i : Int)) = ((k0 - i : Nat) : Int) := by unfold wrap64; omega
    rw [mapsheetsref54_Pack.l0, if_pos (by omega), if_neg (by omega), if_pos (by omega), if_pos (by omega), if_pos (by omega), if_pos (by omega), rd_at V k0 hlt, rd_at V i hi]
    obtain ⟨k, rfl⟩ : ∃ m, k = m + 1 := ⟨k - 1, by omega⟩
    by_cases e : V[k0] = V[i]
    · rw [show (V[k0] != V[i]) = false by simp [e], mapsheetsref54_Pack.j1, if_neg (by decide), w1 k0 (by omega)]
      refine ih i (k0 + 1) k b (by omega) (by omega) (by omega) hi hb (fun k' hk' => ?_) (by omega)
      have := hs k' hk'
      rw [List.drop_eq_getElem_cons hlt, runsE, if_pos e] at this
      rw [show k0 + 1 - i = k0 - i + 1 by omega]
      exact this
    · have l1 := enc_length ((k0 - i : Nat) : Int)
      have l2 := enc_length V[i]
      rw [show (V[k0] != V[i]) = true by simp [e], mapsheetsref54_Pack.j1, if_pos rfl, hwi, put_is b _ (i64n _ (by omega)) (by omega) k (by omega), Option.bind_some, if_pos (by omega), if_pos (by omega), rd_at V i hi, put_is _ _ (hv _ (List.getElem_mem hi)) (by rw [List.length_append]; omega) k (by omega), Option.bind_some, w1 k0 (by omega)]
      refine ih k0 (k0 + 1) k _ (by omega) (by omega) (by omega) hlt (by rw [List.length_append, List.length_append]; omega) (fun k' hk' => ?_) (by omega)
      have := hs k' hk'
      rw [List.drop_eq_getElem_cons hlt, runsE, if_neg e] at this
      rw [show k0 + 1 - k0 = 1 by omega, ← this]
      simp only [List.append_assoc]
theorem rpack_ok (W H : Int) (V : List Int) (h : chk W H V = 0) (k : Nat) (hk : 40000000 < k) : mapsheetsref54_Pack.f k W H V = some (sealed (body W H V), 0) := by
  obtain ⟨a1, a2, a3, a4, a5, a6⟩ := chk_zero h
  obtain ⟨hml, hmp⟩ := chk_len h
  have hv : ∀ x ∈ V, I64 x := fun x hx => i64v (a6 x hx)
  have hW : I64 W := ⟨by omega, by omega⟩
  have hH : I64 H := ⟨by omega, by omega⟩
  have l1 := enc_length W
  have l2 := enc_length H
  have hbl := body_len W H V
  have hbb : Bytes (body W H V) := by
    unfold body
    refine bytes_app (bytes_app (bytes_encI _ hW) (bytes_encI _ hH)) ?_
    cases V with
    | nil => intro x hx; cases hx
    | cons x r => exact bytes_runsE r 1 x (by simp only [List.length_cons] at hml; omega) (hv x List.mem_cons_self) fun y hy => hv y (List.mem_cons_of_mem _ hy)
  have hs : ∀ k, 20000000 ≤ k → mapsheetsref03_Seal.f k (body W H V) = some (sealed (body W H V)) := fun k hk => Crc.rseal_is _ (byts_of hbb) (by omega) k (by omega)
  unfold mapsheetsref54_Pack.f
  rw [rcheck_chk W H V (by omega) k (by omega), Option.bind_some, if_pos h, put_is [] W hW (by simp) k (by omega), Option.bind_some, List.nil_append, put_is _ H hH (by omega) k (by omega), Option.bind_some]
  have hd0 : V = V[0] :: V.drop 1 := by
    have := List.drop_eq_getElem_cons hmp
    rw [List.drop_zero] at this
    exact this
  have := rpack_l0 W H V (by omega) hv (r := sealed (body W H V)) 20000000 (V.length - 1) 0 1 k (enc W ++ enc H) rfl (by omega) (by omega) hmp (by rw [List.length_append]; omega) (fun k' hk' => by
    rw [← hs k' hk']
    congr 1
    unfold body
    congr 1
    show runsE 1 V[0] (V.drop 1) = encV V
    exact (congrArg encV hd0).symm) (by omega)
  exact this
theorem rpack_bad (W H : Int) (V : List Int) (hl : V.length ≤ 100000) (h : chk W H V ≠ 0) (k : Nat) (hk : 1000000 < k) : mapsheetsref54_Pack.f k W H V = some ([], chk W H V) := by
  unfold mapsheetsref54_Pack.f
  rw [rcheck_chk W H V (by omega) k (by omega), Option.bind_some, if_neg h]
end Go.Proofs.Ytaappifdpbgchaa.Plt
