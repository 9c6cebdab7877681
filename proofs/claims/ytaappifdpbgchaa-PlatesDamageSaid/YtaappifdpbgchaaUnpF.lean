/- Unpack of plates and of its reference: one answer, the plate that was packed and no other; a changed byte is told. -/
import Derived.Test.YtaappifdpbgchaaUnp
import Derived.Test.YtaappifdpbgchaaDetect
import Derived.Test.YtaappifdpbgchaaPAx6
import Derived.Test.YtaappifdpbgchaaPAx15
namespace Go.Proofs.Ytaappifdpbgchaa.Plt
set_option linter.unusedVariables false
set_option linter.unusedSimpArgs false
open Go.RowKit Go.Proofs.Ytaappifdpbgchaa.PA Go.Proofs.YtaappifdpbgchaaW.PrintWords Go.Proofs.YtaappifdpbgchaaW.PrintLast Go.Proofs.YtaappifdpbgchaaW.PrintMore Go.Proofs.Ytaappifdpbgchaa.Wire
open Go.Proofs.Ytaappifdpbgchaa.Crc (opened crc Byts open_is ropen_is opened_sealed sealed_byts byts_take opened_set byts_set dbits8)
theorem bytes_of_byts {l : List Int} (h : Byts l) : Bytes l := fun x hx => by have := h x hx; omega
theorem opened_ok {b : List Int} (h : (opened b).2 = 0) : b = sealed (opened b).1 := by
  unfold opened at h ⊢
  split at h
  · exact absurd h (by decide)
  · next h4 =>
    split at h
    · next h5 =>
      rw [if_neg h4, if_pos h5]
      unfold sealed
      dsimp only
      rw [← h5, List.take_append_drop]
    · exact absurd h (by decide)
theorem opened_bad {b : List Int} (h : (opened b).2 ≠ 0) : opened b = ([], (opened b).2) := by
  unfold opened at h ⊢
  split
  · rfl
  · next h4 =>
    rw [if_neg h4] at h
    split
    · next h5 => rw [if_pos h5] at h; exact absurd rfl h
    · rfl
theorem sized_is (a b : Int) : plates_sized.f a b = some (decide (1 ≤ a ∧ a ≤ 256 ∧ 1 ≤ b ∧ b ≤ 256)) := by
  unfold plates_sized.f
  by_cases h1 : a ≥ 1
  · by_cases h2 : a ≤ 256
    · by_cases h3 : b ≥ 1
      · rw [if_pos h1, if_pos h2, if_pos h3]
        congr 1
        rw [decide_eq_decide]
        omega
      · rw [if_pos h1, if_pos h2, if_neg h3, decide_eq_false (by omega)]
    · rw [if_pos h1, if_neg h2, decide_eq_false (by omega)]
  · rw [if_neg h1, decide_eq_false (by omega)]
theorem rsized_is (a b : Int) : mapsheetsref54_sized.f a b = some (decide (1 ≤ a ∧ a ≤ 256 ∧ 1 ≤ b ∧ b ≤ 256)) := sized_is a b
theorem area {W H : Int} (h : 1 ≤ W ∧ W ≤ 256 ∧ 1 ≤ H ∧ H ≤ 256) : 0 ≤ W * H ∧ W * H ≤ 65536 := by
  obtain ⟨h1, h2, h3, h4⟩ := h
  have h6 : W * H ≤ 256 * 256 := Int.mul_le_mul h2 h4 (by omega) (by omega)
  have h7 : 0 < W * H := Int.mul_pos (by omega) (by omega)
  omega
theorem unpack_cases (b : List Int) (hb : Byts b) (hl : b.length ≤ 1048576) : ∃ r : R, (∀ k, 20000000 < k → plates_Unpack.f k b = some r ∧ mapsheetsref54_Unpack.f k b = some r) ∧ (Bad r ∨ ∃ W H V, r = (W, H, V, 0) ∧ chk W H V = 0 ∧ b = sealed (body W H V)) := by
  have o1 := open_is b hb (by omega)
  have o2 := fun k hk => ropen_is b hb (by omega) k hk
  by_cases ho : (opened b).2 = 0
  · have hbe := opened_ok ho
    have hlb : Bytes (opened b).1 := by
      have h1 := bytes_of_byts hb
      rw [hbe] at h1
      exact bytes_left h1
    have hll : (opened b).1.length ≤ b.length := by
      have := congrArg List.length hbe
      unfold sealed at this
      rw [List.length_append] at this
      omega
    rcases pair_cases (opened b).1 hlb (by omega) with ⟨W, H, rest, hW, hH, hl2, hp⟩ | ⟨e, he, hp⟩
    · by_cases hs : 1 ≤ W ∧ W ≤ 256 ∧ 1 ≤ H ∧ H ≤ 256
      · have hm := area hs
        have hw0 : wrap64 (W * H) = W * H := by unfold wrap64; omega
        have hrl : rest.length ≤ (opened b).1.length := by
          have := congrArg List.length hl2
          simp only [List.length_append] at this
          omega
        obtain ⟨r, hr, hg⟩ := loop W H hm (W * H).toNat rest (-1) [] (bytes_right (bytes_right (hl2 ▸ hlb))) (by omega) (by simp only [List.length_nil]; omega)
        refine ⟨r, fun k hk => ?_, ?_⟩
        · obtain ⟨p1, p2⟩ := hp k (by omega)
          obtain ⟨r1, r2⟩ := hr k (by omega)
          constructor
          · unfold plates_Unpack.f
            rw [if_neg (by omega), o1, Option.bind_some, if_pos ho, p1, Option.bind_some, if_pos rfl, sized_is, Option.bind_some, decide_eq_true hs, if_pos rfl]
            dsimp only
            rw [hw0, if_pos (by omega), if_pos (by omega)]
            exact r1
          · unfold mapsheetsref54_Unpack.f
            rw [if_neg (by omega), o2 k (by omega), Option.bind_some, if_pos ho, p2, Option.bind_some, if_pos rfl, rsized_is, Option.bind_some, decide_eq_true hs, if_pos rfl]
            exact r2
        · rcases hg with hg | ⟨V, g1, g2, g3, g4, g5⟩
          · exact Or.inl hg
          · refine Or.inr ⟨W, H, V, g1, ?_, ?_⟩
            · unfold chk
              simp only [List.length_nil, Nat.zero_add] at g2
              rw [if_pos hs, if_pos g2, if_pos g3]
            · have : (opened b).1 = body W H V := by
                unfold body
                rw [List.append_assoc, ← g5]
                exact hl2
              rw [← this]
              exact hbe
      · refine ⟨(0, 0, [], 2), fun k hk => ?_, Or.inl ⟨2, by decide, rfl⟩⟩
        obtain ⟨p1, p2⟩ := hp k (by omega)
        constructor
        · unfold plates_Unpack.f
          rw [if_neg (by omega), o1, Option.bind_some, if_pos ho, p1, Option.bind_some, if_pos rfl, sized_is, Option.bind_some, decide_eq_false hs, if_neg (by decide)]
        · unfold mapsheetsref54_Unpack.f
          rw [if_neg (by omega), o2 k (by omega), Option.bind_some, if_pos ho, p2, Option.bind_some, if_pos rfl, rsized_is, Option.bind_some, decide_eq_false hs, if_neg (by decide)]
    · refine ⟨(0, 0, [], e), fun k hk => ?_, Or.inl ⟨e, he, rfl⟩⟩
      obtain ⟨p1, p2⟩ := hp k (by omega)
      constructor
      · unfold plates_Unpack.f
        rw [if_neg (by omega), o1, Option.bind_some, if_pos ho, p1, Option.bind_some, if_neg he]
      · unfold mapsheetsref54_Unpack.f
        rw [if_neg (by omega), o2 k (by omega), Option.bind_some, if_pos ho, p2, Option.bind_some, if_neg he]
  · refine ⟨(0, 0, [], (opened b).2), fun k hk => ?_, Or.inl ⟨_, ho, rfl⟩⟩
    constructor
    · unfold plates_Unpack.f
      rw [if_neg (by omega), o1, Option.bind_some, if_neg ho]
    · unfold mapsheetsref54_Unpack.f
      rw [if_neg (by omega), o2 k (by omega), Option.bind_some, if_neg ho]
theorem body_bytes {W H : Int} {V : List Int} (h : chk W H V = 0) : Bytes (body W H V) := by
  obtain ⟨a1, a2, a3, a4, a5, a6⟩ := chk_zero h
  obtain ⟨hml, hmp⟩ := chk_len h
  have hv : ∀ x ∈ V, I64 x := fun x hx => i64v (a6 x hx)
  unfold body
  refine bytes_app (bytes_app (bytes_encI _ ⟨by omega, by omega⟩) (bytes_encI _ ⟨by omega, by omega⟩)) ?_
  cases V with
  | nil => intro x hx; cases hx
  | cons x r => exact bytes_runsE r 1 x (by simp only [List.length_cons] at hml; omega) (hv x List.mem_cons_self) fun y hy => hv y (List.mem_cons_of_mem _ hy)
theorem sealed_len (l : List Int) : (sealed l).length = l.length + 4 := by
  unfold sealed
  rw [List.length_append]
  rfl
theorem sealed_b {l : List Int} (h : Bytes l) : Byts (sealed l) := sealed_byts (byts_of h)
theorem unpack_sealed (W H : Int) (V : List Int) (h : chk W H V = 0) (hl : V.length ≤ 5000) (k : Nat) (hk : 20000000 < k) : plates_Unpack.f k (sealed (body W H V)) = some (W, H, V, 0) := by
  obtain ⟨a1, a2, a3, a4, a5, a6⟩ := chk_zero h
  have hbb := body_bytes h
  have hbl := body_len W H V
  have hsl := sealed_len (body W H V)
  have hm := area ⟨a1, a2, a3, a4⟩
  have hw0 : wrap64 (W * H) = W * H := by unfold wrap64; omega
  have hba : body W H V = enc W ++ (enc H ++ encV V) := List.append_assoc _ _ _
  unfold plates_Unpack.f
  rw [if_neg (by omega), open_is (sealed (body W H V)) (sealed_b hbb) (by omega), Option.bind_some, show opened (sealed (body W H V)) = (body W H V, 0) from opened_sealed _, if_pos rfl]
  dsimp only
  have hp := (pair_enc W H (encV V) ⟨by omega, by omega⟩ ⟨by omega, by omega⟩ (hba ▸ hbb) (by rw [← hba]; omega) k (by rw [← hba]; omega)).1
  rw [hba, hp, Option.bind_some, if_pos rfl, sized_is, Option.bind_some, decide_eq_true ⟨a1, a2, a3, a4⟩, if_pos rfl]
  dsimp only
  have hel := encV_len V
  rw [hw0, if_pos (by omega), if_pos (by omega)]
  have := loop_enc W H hm V.length V (-1) [] (bytes_right (bytes_right (hba ▸ hbb))) (by omega) rfl (by simp only [List.length_nil, Nat.zero_add]; exact a5) a6 (fun x hx => by have := a6 x (List.mem_of_mem_head? hx); omega) k (by omega)
  exact this
theorem unpack_set (W H : Int) (V : List Int) (h : chk W H V = 0) (hl : V.length ≤ 5000) (i : Nat) (z : Int) (hz : 0 ≤ z ∧ z < 256) (hi : i < (sealed (body W H V)).length) (hne : z ≠ (sealed (body W H V))[i]) (k : Nat) : plates_Unpack.f k ((sealed (body W H V)).set i z) = some (0, 0, [], 6) := by
  have hbb := body_bytes h
  have hbl := body_len W H V
  have hsl := sealed_len (body W H V)
  unfold plates_Unpack.f
  rw [if_neg (by rw [List.length_set]; omega), open_is ((sealed (body W H V)).set i z) (byts_set (sealed_b hbb) i z hz) (by rw [List.length_set]; omega), Option.bind_some, show opened ((sealed (body W H V)).set i z) = ([], 6) from opened_set _ (byts_of hbb) i z hz hi hne, if_neg (by decide)]
end Go.Proofs.Ytaappifdpbgchaa.Plt
