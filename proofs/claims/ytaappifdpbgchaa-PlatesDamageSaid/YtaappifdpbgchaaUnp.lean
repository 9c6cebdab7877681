/- What the readers of plates and of its reference answer, and that they read what the writer wrote and nothing else. -/
import Derived.Test.YtaappifdpbgchaaPlt
import Derived.Test.YtaappifdpbgchaaPAx6
import Derived.Test.YtaappifdpbgchaaPAx15
import Derived.Test.YtaappifdpbgchaaPAx5
import Derived.Test.YtaappifdpbgchaaPAx14
namespace Go.Proofs.Ytaappifdpbgchaa.Plt
set_option linter.unusedVariables false
set_option linter.unusedSimpArgs false
open Go.RowKit Go.Proofs.Ytaappifdpbgchaa.PA Go.Proofs.YtaappifdpbgchaaW.PrintWords Go.Proofs.YtaappifdpbgchaaW.PrintLast Go.Proofs.YtaappifdpbgchaaW.PrintMore Go.Proofs.Ytaappifdpbgchaa.Wire
open Go.Proofs.Ytaappifdpbgchaa.Crc (opened crc Byts open_is ropen_is opened_sealed sealed_byts)
theorem vd (l : List Int) (hb : Bytes l) : (∃ n rest, I64 n ∧ l = enc n ++ rest ∧ vdec l 0 0 = (n, ((enc n).length : Int), 0)) ∨ (∃ e : Int, e ≠ 0 ∧ vdec l 0 0 = (0, 0, e)) := by
  rcases vdec_err l 0 0 with h | h | h
  · have e : vdec l 0 0 = ((vdec l 0 0).1, (vdec l 0 0).2.1, 0) := Prod.ext rfl (Prod.ext rfl h)
    obtain ⟨hn, hu, rest, hr⟩ := vdec_unique hb e
    exact Or.inl ⟨_, rest, hn, hr, by rw [e, hu]⟩
  · exact Or.inr ⟨4, by decide, h⟩
  · exact Or.inr ⟨5, by decide, h⟩
theorem bytes_right {a b : List Int} (h : Bytes (a ++ b)) : Bytes b := fun x hx => h x (List.mem_append_right _ hx)
theorem bytes_left {a b : List Int} (h : Bytes (a ++ b)) : Bytes a := fun x hx => h x (List.mem_append_left _ hx)
theorem pair_enc (a b : Int) (rest : List Int) (ha : I64 a) (hbI : I64 b) (hb : Bytes (enc a ++ (enc b ++ rest))) (hl : (enc a ++ (enc b ++ rest)).length ≤ 9000000) (k : Nat) (hk : (enc a ++ (enc b ++ rest)).length + 20 < k) :
    plates_pair.f k (enc a ++ (enc b ++ rest)) = some (a, b, rest, 0) ∧ mapsheetsref54_two.f k (enc a ++ (enc b ++ rest)) = some (a, b, rest, 0) := by
  have h2 := bytes_right hb
  have d1 : (enc a ++ (enc b ++ rest)).drop (enc a).length = enc b ++ rest := List.drop_left
  have d2 : (enc b ++ rest).drop (enc b).length = rest := List.drop_left
  have d3 : (enc a ++ (enc b ++ rest)).drop ((enc a).length + (enc b).length) = rest := by rw [← List.drop_drop, d1, d2]
  have e1 : (enc a ++ (enc b ++ rest)).length = (enc a).length + ((enc b).length + rest.length) := by simp only [List.length_append]
  have e2 : (enc b ++ rest).length = (enc b).length + rest.length := by simp only [List.length_append]
  constructor
  · unfold plates_pair.f
    rw [wire_Int_is _ hb k (by omega), Option.bind_some, vdec_enc a ha, if_pos rfl, if_pos (by dsimp only; omega), if_pos (by dsimp only; omega), Int.toNat_natCast, d1, Option.bind_some, wire_Int_is _ h2 k (by omega), Option.bind_some, vdec_enc b hbI, if_pos rfl, if_pos (by dsimp only; omega), if_pos (by dsimp only; omega), Int.toNat_natCast, d2]
  · unfold mapsheetsref54_two.f
    rw [ref_Int_is _ hb k (by omega), Option.bind_some, vdec_enc a ha, if_pos rfl, if_pos (by dsimp only; omega), if_pos (by dsimp only; omega), Int.toNat_natCast, d1, ref_Int_is _ h2 k (by omega), Option.bind_some, vdec_enc b hbI, if_pos rfl]
    have hw : wrap64 (((enc a).length : Int) + ((enc b).length : Int)) = (((enc a).length + (enc b).length : Nat) : Int) := by unfold wrap64; omega
    dsimp only
    rw [hw, if_pos (by omega), if_pos (by omega), Int.toNat_natCast, d3]
theorem pair_cases (l : List Int) (hb : Bytes l) (hl : l.length ≤ 9000000) :
    (∃ a b rest, I64 a ∧ I64 b ∧ l = enc a ++ (enc b ++ rest) ∧ ∀ k, l.length + 20 < k → plates_pair.f k l = some (a, b, rest, 0) ∧ mapsheetsref54_two.f k l = some (a, b, rest, 0)) ∨
    (∃ e : Int, e ≠ 0 ∧ ∀ k, l.length + 20 < k → plates_pair.f k l = some (0, 0, [], e) ∧ mapsheetsref54_two.f k l = some (0, 0, [], e)) := by
  rcases vd l hb with ⟨a, r1, ha, rfl, hv⟩ | ⟨e, he, hv⟩
  · have h2 := bytes_right hb
    rcases vd r1 h2 with ⟨b, rest, hbI, rfl, hv2⟩ | ⟨e, he, hv2⟩
    · exact Or.inl ⟨a, b, rest, ha, hbI, rfl, fun k hk => pair_enc a b rest ha hbI hb hl k hk⟩
    · refine Or.inr ⟨e, he, fun k hk => ?_⟩
      have d1 : (enc a ++ r1).drop (enc a).length = r1 := List.drop_left
      have e1 : (enc a ++ r1).length = (enc a).length + r1.length := by simp only [List.length_append]
      constructor
      · unfold plates_pair.f
        rw [wire_Int_is _ hb k (by omega), Option.bind_some, hv, if_pos rfl, if_pos (by dsimp only; omega), if_pos (by dsimp only; omega), Int.toNat_natCast, d1, Option.bind_some, wire_Int_is _ h2 k (by omega), Option.bind_some, hv2, if_neg he]
      · unfold mapsheetsref54_two.f
        rw [ref_Int_is _ hb k (by omega), Option.bind_some, hv, if_pos rfl, if_pos (by dsimp only; omega), if_pos (by dsimp only; omega), Int.toNat_natCast, d1, ref_Int_is _ h2 k (by omega), Option.bind_some, hv2, if_neg he]
  · refine Or.inr ⟨e, he, fun k hk => ?_⟩
    constructor
    · unfold plates_pair.f
      rw [wire_Int_is _ hb k (by omega), Option.bind_some, hv, if_neg he]
    · unfold mapsheetsref54_two.f
      rw [ref_Int_is _ hb k (by omega), Option.bind_some, hv, if_neg he]
/-! ### The loop -/
theorem l1_is (W H b : Int) (rest : List Int) (a : Nat) (ha : a ≤ 1000000) : ∀ (d i k : Nat) (acc : List Int), a - i = d → i ≤ a → acc.length + d < 17592186044416 → plates_Unpack.l1 (k + d + 1) W H b rest (a : Int) (i : Int) W H acc = plates_Unpack.l0 k rest W H b W H (acc ++ List.replicate d b) := by
  intro d
  induction d with
  | zero =>
    intro i k acc hd hi hl
    rw [plates_Unpack.l1, if_neg (by omega)]
    simp
  | succ d ih =>
    intro i k acc hd hi hl
    rw [show k + (d + 1) + 1 = (k + d + 1) + 1 by omega, plates_Unpack.l1, if_pos (by omega), if_pos (by omega), w1 i (by omega), ih (i + 1) k _ (by omega) (by omega) (by rw [List.length_append, List.length_singleton]; omega), List.append_assoc]
    rfl
theorem rl1_is (W H b : Int) (rest : List Int) (a : Nat) (ha : a ≤ 1000000) : ∀ (d i k : Nat) (acc : List Int), a - i = d → i ≤ a → acc.length + d < 17592186044416 → mapsheetsref54_Unpack.l1 (k + d + 1) W H (a : Int) b rest (i : Int) W H acc = mapsheetsref54_Unpack.l0 k rest W H b W H (acc ++ List.replicate d b) := by
  intro d
  induction d with
  | zero =>
    intro i k acc hd hi hl
    rw [mapsheetsref54_Unpack.l1, if_neg (by omega)]
    simp
  | succ d ih =>
    intro i k acc hd hi hl
    rw [show k + (d + 1) + 1 = (k + d + 1) + 1 by omega, mapsheetsref54_Unpack.l1, if_pos (by omega), if_pos (by omega), w1 i (by omega), ih (i + 1) k _ (by omega) (by omega) (by rw [List.length_append, List.length_singleton]; omega), List.append_assoc]
    rfl
theorem runsE_rep (x : Int) (V : List Int) (hV : ∀ y ∈ V.head?, y ≠ x) : ∀ m n : Nat, runsE n x (List.replicate m x ++ V) = enc ((n + m : Nat) : Int) ++ enc x ++ encV V
  | 0, n => by
    cases V with
    | nil => simp [runsE, encV]
    | cons y r =>
      have : y ≠ x := hV y (by simp)
      show runsE n x (y :: r) = _
      rw [runsE, if_neg this]; rfl
  | m + 1, n => by
    show runsE n x (x :: (List.replicate m x ++ V)) = _
    rw [runsE, if_pos rfl, runsE_rep x V hV m (n + 1), show n + 1 + m = n + (m + 1) by omega]
theorem encV_rep (x : Int) (V : List Int) (hV : ∀ y ∈ V.head?, y ≠ x) (m : Nat) (hm : 0 < m) : encV (List.replicate m x ++ V) = enc (m : Int) ++ (enc x ++ encV V) := by
  obtain ⟨m, rfl⟩ : ∃ n, m = n + 1 := ⟨m - 1, by omega⟩
  show runsE 1 x (List.replicate m x ++ V) = _
  rw [runsE_rep x V hV m 1, List.append_assoc, show 1 + m = m + 1 by omega]
theorem split_rep (x : Int) : ∀ r : List Int, ∃ (m : Nat) (V : List Int), r = List.replicate m x ++ V ∧ ∀ y ∈ V.head?, y ≠ x
  | [] => ⟨0, [], rfl, fun y hy => by simp at hy⟩
  | z :: r => by
    by_cases e : z = x
    · obtain ⟨m, V, h1, h2⟩ := split_rep x r
      exact ⟨m + 1, V, by rw [e, h1]; rfl, h2⟩
    · exact ⟨0, z :: r, rfl, fun y hy => by simp at hy; rw [← hy]; exact e⟩
abbrev R := Int × Int × List Int × Int
def Good (W H v : Int) (l acc : List Int) (r : R) : Prop := ∃ V, r = (W, H, acc ++ V, 0) ∧ ((acc.length + V.length : Nat) : Int) = W * H ∧ (∀ x ∈ V, 0 ≤ x ∧ x ≤ 100) ∧ (∀ x ∈ V.head?, x ≠ v) ∧ l = encV V
def Bad (r : R) : Prop := ∃ e : Int, e ≠ 0 ∧ r = (0, 0, [], e)
theorem sub_w {W H : Int} (hm : 0 ≤ W * H ∧ W * H ≤ 65536) (n : Nat) (h : (n : Int) ≤ W * H) : wrap64 (wrap64 (W * H) - (n : Int)) = W * H - n := by unfold wrap64; omega
theorem step_ok (W H v : Int) (hm : 0 ≤ W * H ∧ W * H ≤ 65536) (a : Nat) (b : Int) (rest acc l : List Int) (hlt : (acc.length : Int) < W * H) (ha : 1 ≤ a) (ha2 : (a : Int) ≤ W * H - acc.length) (hb0 : 0 ≤ b ∧ b ≤ 100) (hbv : b ≠ v) (k : Nat)
    (hp : plates_pair.f (k + a + 1 + 1) l = some ((a : Int), b, rest, 0)) (hq : mapsheetsref54_two.f (k + a + 1 + 1) l = some ((a : Int), b, rest, 0)) :
    plates_Unpack.l0 (k + a + 1 + 1 + 1) l W H v W H acc = plates_Unpack.l0 k rest W H b W H (acc ++ List.replicate a b) ∧ mapsheetsref54_Unpack.l0 (k + a + 1 + 1 + 1) l W H v W H acc = mapsheetsref54_Unpack.l0 k rest W H b W H (acc ++ List.replicate a b) := by
  have hw := sub_w hm acc.length (by omega)
  have hw0 : wrap64 (W * H) = W * H := by unfold wrap64; omega
  have hbe : (b == v) = false := by simp [hbv]
  constructor
  · rw [plates_Unpack.l0, if_pos (by rw [hw0]; omega), hp, Option.bind_some, if_pos rfl]
    dsimp only
    rw [if_neg (by omega), hw, if_neg (by omega)]
    unfold plates_ink.f
    rw [if_pos (by omega), Option.bind_some, decide_eq_true (by omega), if_pos rfl, hbe, plates_Unpack.j1, if_neg (by decide)]
    exact l1_is W H b rest a (by omega) a 0 k acc (by omega) (by omega) (by omega)
  · rw [mapsheetsref54_Unpack.l0, if_pos (by rw [hw0]; omega), hq, Option.bind_some, if_pos rfl]
    dsimp only
    rw [if_neg (by omega), hw, if_neg (by omega), if_neg (by omega), if_neg (by omega), hbe, mapsheetsref54_Unpack.j1, if_neg (by decide)]
    exact rl1_is W H b rest a (by omega) a 0 k acc (by omega) (by omega) (by omega)
theorem step_bad (W H v : Int) (hm : 0 ≤ W * H ∧ W * H ≤ 65536) (a b : Int) (rest acc l : List Int) (hlt : (acc.length : Int) < W * H) (hbad : ¬ (1 ≤ a ∧ a ≤ W * H - acc.length ∧ 0 ≤ b ∧ b ≤ 100 ∧ b ≠ v)) (k : Nat)
    (hp : plates_pair.f (k + 1) l = some (a, b, rest, 0)) (hq : mapsheetsref54_two.f (k + 1) l = some (a, b, rest, 0)) :
    plates_Unpack.l0 (k + 1 + 1) l W H v W H acc = some (0, 0, [], 4) ∧ mapsheetsref54_Unpack.l0 (k + 1 + 1) l W H v W H acc = some (0, 0, [], 4) := by
  have hw := sub_w hm acc.length (by omega)
  have hw0 : wrap64 (W * H) = W * H := by unfold wrap64; omega
  have hj : ∀ x y z u, plates_Unpack.j1 (k + 1) W H x y z true W H u = some (0, 0, [], 4) := fun x y z u => by rw [plates_Unpack.j1, if_pos rfl]
  have hr : ∀ x y z u, mapsheetsref54_Unpack.j1 (k + 1) W H x y z true W H u = some (0, 0, [], 4) := fun x y z u => by rw [mapsheetsref54_Unpack.j1, if_pos rfl]
  constructor
  · rw [plates_Unpack.l0, if_pos (by rw [hw0]; omega), hp, Option.bind_some, if_pos rfl]
    dsimp only
    by_cases c1 : a < 1
    · rw [if_pos c1]; exact hj _ _ _ _
    rw [if_neg c1, hw]
    by_cases c2 : a > W * H - acc.length
    · rw [if_pos c2]; exact hj _ _ _ _
    rw [if_neg c2]
    unfold plates_ink.f
    by_cases c3 : b ≥ 0
    · rw [if_pos c3, Option.bind_some]
      by_cases c4 : b ≤ 100
      · have hbe : (b == v) = true := by
          by_cases e : b = v
          · simp [e]
          · exact absurd ⟨by omega, by omega, by omega, c4, e⟩ hbad
        rw [decide_eq_true c4, if_pos rfl, hbe]; exact hj _ _ _ _
      · rw [decide_eq_false c4, if_neg (by decide)]; exact hj _ _ _ _
    · rw [if_neg c3, Option.bind_some, if_neg (by decide)]; exact hj _ _ _ _
  · rw [mapsheetsref54_Unpack.l0, if_pos (by rw [hw0]; omega), hq, Option.bind_some, if_pos rfl]
    dsimp only
    by_cases c1 : a < 1
    · rw [if_pos c1]; exact hr _ _ _ _
    rw [if_neg c1, hw]
    by_cases c2 : a > W * H - acc.length
    · rw [if_pos c2]; exact hr _ _ _ _
    rw [if_neg c2]
    by_cases c3 : b < 0
    · rw [if_pos c3]; exact hr _ _ _ _
    rw [if_neg c3]
    by_cases c4 : b > 100
    · rw [if_pos c4]; exact hr _ _ _ _
    · have hbe : (b == v) = true := by
        by_cases e : b = v
        · simp [e]
        · exact absurd ⟨by omega, by omega, by omega, by omega, e⟩ hbad
      rw [if_neg c4, hbe]; exact hr _ _ _ _
theorem loop (W H : Int) (hm : 0 ≤ W * H ∧ W * H ≤ 65536) : ∀ (m : Nat) (l : List Int) (v : Int) (acc : List Int), Bytes l → l.length ≤ 2000000 → W * H - acc.length = m →
    ∃ r, (∀ k, 4 * m + 3000000 < k → plates_Unpack.l0 k l W H v W H acc = some r ∧ mapsheetsref54_Unpack.l0 k l W H v W H acc = some r) ∧ (Bad r ∨ Good W H v l acc r) := by
  have hw0 : wrap64 (W * H) = W * H := by unfold wrap64; omega
  intro m
  induction m using Nat.strongRecOn with
  | _ m ih =>
    intro l v acc hb hl hmm
    rcases Nat.eq_zero_or_pos m with rfl | hpos
    · cases l with
      | nil =>
        refine ⟨(W, H, acc, 0), fun k hk => ?_, Or.inr ⟨[], by simp, by simp; omega, by simp, by simp, rfl⟩⟩
        obtain ⟨k, rfl⟩ : ∃ n, k = n + 1 := ⟨k - 1, by omega⟩
        constructor
        · rw [plates_Unpack.l0, if_neg (by rw [hw0]; omega), if_neg (by simp)]
        · rw [mapsheetsref54_Unpack.l0, if_neg (by rw [hw0]; omega), if_neg (by simp)]
      | cons y r =>
        refine ⟨(0, 0, [], 4), fun k hk => ?_, Or.inl ⟨4, by decide, rfl⟩⟩
        obtain ⟨k, rfl⟩ : ∃ n, k = n + 1 := ⟨k - 1, by omega⟩
        constructor
        · rw [plates_Unpack.l0, if_neg (by rw [hw0]; omega), if_pos (by simp only [List.length_cons]; omega)]
        · rw [mapsheetsref54_Unpack.l0, if_neg (by rw [hw0]; omega), if_pos (by simp only [List.length_cons]; omega)]
    · rcases pair_cases l hb (by omega) with ⟨a, b, rest, ha, hbI, hl2, hp⟩ | ⟨e, he, hp⟩
      · by_cases hok : 1 ≤ a ∧ a ≤ W * H - acc.length ∧ 0 ≤ b ∧ b ≤ 100 ∧ b ≠ v
        · obtain ⟨o1, o2, o3, o4, o5⟩ := hok
          obtain ⟨n, rfl⟩ : ∃ n : Nat, a = (n : Int) := ⟨a.toNat, by omega⟩
          have hrl : rest.length ≤ l.length := by rw [hl2]; simp only [List.length_append]; omega
          have hrb : Bytes rest := bytes_right (bytes_right (hl2 ▸ hb))
          have hal : (acc ++ List.replicate n b).length = acc.length + n := by rw [List.length_append, List.length_replicate]
          obtain ⟨r, hr, hg⟩ := ih (m - n) (by omega) rest b (acc ++ List.replicate n b) hrb (by omega) (by rw [hal]; omega)
          refine ⟨r, fun k hk => ?_, ?_⟩
          · obtain ⟨k, rfl⟩ : ∃ j, k = j + n + 1 + 1 + 1 := ⟨k - n - 3, by omega⟩
            obtain ⟨p1, p2⟩ := hp (k + n + 1 + 1) (by omega)
            obtain ⟨s1, s2⟩ := step_ok W H v hm n b rest acc l (by omega) (by omega) o2 ⟨o3, o4⟩ o5 k p1 p2
            rw [s1, s2]
            exact hr k (by omega)
          · rcases hg with hg | ⟨V, g1, g2, g3, g4, g5⟩
            · exact Or.inl hg
            · refine Or.inr ⟨List.replicate n b ++ V, by rw [g1, List.append_assoc], ?_, ?_, ?_, ?_⟩
              · rw [hal] at g2
                rw [← g2, List.length_append, List.length_replicate, Nat.add_assoc]
              · intro x hx
                rcases List.mem_append.1 hx with h | h
                · rw [List.eq_of_mem_replicate h]; exact ⟨o3, o4⟩
                · exact g3 x h
              · intro x hx
                obtain ⟨n, rfl⟩ : ∃ j, n = j + 1 := ⟨n - 1, by omega⟩
                have : x = b := by
                  rw [List.replicate_succ, List.cons_append, List.head?_cons] at hx
                  exact (Option.some.inj hx).symm
                rw [this]; exact o5
              · rw [encV_rep b V g4 n (by omega), ← g5]; exact hl2
        · refine ⟨(0, 0, [], 4), fun k hk => ?_, Or.inl ⟨4, by decide, rfl⟩⟩
          obtain ⟨k, rfl⟩ : ∃ j, k = j + 1 + 1 := ⟨k - 2, by omega⟩
          obtain ⟨p1, p2⟩ := hp (k + 1) (by omega)
          exact step_bad W H v hm a b rest acc l (by omega) hok k p1 p2
      · refine ⟨(0, 0, [], e), fun k hk => ?_, Or.inl ⟨e, he, rfl⟩⟩
        obtain ⟨k, rfl⟩ : ∃ j, k = j + 1 := ⟨k - 1, by omega⟩
        obtain ⟨p1, p2⟩ := hp k (by omega)
        constructor
        · rw [plates_Unpack.l0, if_pos (by rw [hw0]; omega), p1, Option.bind_some, if_neg he]
        · rw [mapsheetsref54_Unpack.l0, if_pos (by rw [hw0]; omega), p2, Option.bind_some, if_neg he]
/-- What the writer wrote is read. -/
theorem loop_enc (W H : Int) (hm : 0 ≤ W * H ∧ W * H ≤ 65536) : ∀ (m : Nat) (V : List Int) (v : Int) (acc : List Int), Bytes (encV V) → (encV V).length ≤ 2000000 → V.length = m → ((acc.length + V.length : Nat) : Int) = W * H → (∀ x ∈ V, 0 ≤ x ∧ x ≤ 100) → (∀ x ∈ V.head?, x ≠ v) → ∀ k, 4 * m + 3000000 < k → plates_Unpack.l0 k (encV V) W H v W H acc = some (W, H, acc ++ V, 0) := by
  have hw0 : wrap64 (W * H) = W * H := by unfold wrap64; omega
  intro m
  induction m using Nat.strongRecOn with
  | _ m ih =>
    intro V v acc hb hl hV hlen hx hh k hk
    cases V with
    | nil =>
      obtain ⟨k, rfl⟩ : ∃ n, k = n + 1 := ⟨k - 1, by omega⟩
      simp only [List.length_nil] at hlen
      rw [plates_Unpack.l0, if_neg (by rw [hw0]; omega), if_neg (by simp [encV]), List.append_nil]
    | cons x r =>
      obtain ⟨n, V', hr, hh'⟩ := split_rep x r
      have e : x :: r = List.replicate (n + 1) x ++ V' := by rw [hr]; rfl
      have hl' : (x :: r).length = n + 1 + V'.length := by rw [e, List.length_append, List.length_replicate]
      have hxx := hx x List.mem_cons_self
      have he := encV_rep x V' hh' (n + 1) (by omega)
      rw [e] at hb hl ⊢
      rw [he] at hb hl ⊢
      obtain ⟨k, rfl⟩ : ∃ j, k = j + (n + 1) + 1 + 1 + 1 := ⟨k - (n + 1) - 3, by omega⟩
      have hpq := pair_enc ((n + 1 : Nat) : Int) x (encV V') ⟨by omega, by omega⟩ ⟨by omega, by omega⟩ hb (by omega) (k + (n + 1) + 1 + 1) (by omega)
      rw [(step_ok W H v hm (n + 1) x (encV V') acc _ (by omega) (by omega) (by omega) hxx (hh x (by simp)) k hpq.1 hpq.2).1]
      have ea : (acc ++ List.replicate (n + 1) x).length = acc.length + (n + 1) := by rw [List.length_append, List.length_replicate]
      rw [ih V'.length (by omega) V' x (acc ++ List.replicate (n + 1) x) (bytes_right (bytes_right hb)) (by simp only [List.length_append] at hl; omega) rfl (by rw [ea]; omega) (fun y hy => hx y (by rw [e]; exact List.mem_append_right _ hy)) hh' k (by omega), List.append_assoc]
end Go.Proofs.Ytaappifdpbgchaa.Plt
