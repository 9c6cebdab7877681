/- The sealed rows. -/
import Derived.Test.YtaappifdpbgchaaCrc
import Derived.Test.YtaappifdpbgchaaPAx2
import Derived.Test.YtaappifdpbgchaaPAx4
import Derived.Test.YtaappifdpbgchaaPAx9
import Derived.Test.YtaappifdpbgchaaPAx13
namespace Go.Proofs.Ytaappifdpbgchaa.Crc
set_option linter.unusedVariables false
set_option linter.unusedSimpArgs false
open Go.RowKit Go.Proofs.YtaappifdpbgchaaW.PrintWords Go.Proofs.YtaappifdpbgchaaW.PrintLast Go.Proofs.YtaappifdpbgchaaW.PrintMore Go.Proofs.Ytaappifdpbgchaa.PA

theorem same_loop (a b : List Int) (hl : a.length = b.length) (hm : a.length ≤ 9223372036854775806) : ∀ (s t : List Int) (i : Nat) (k : Nat), a.drop i = s → b.drop i = t → i ≤ a.length → s.length < k → mapsheetsref03_Same.l0 k a b (i : Int) = some (decide (s = t)) := by
  intro s
  induction s with
  | nil =>
    intro t i k hd ht hi hk
    have := drop_nil hd hi
    obtain ⟨k, rfl⟩ : ∃ n, k = n + 1 := ⟨k - 1, by omega⟩
    have : t = [] := by rw [← ht]; exact List.drop_of_length_le (by omega)
    subst this
    rw [mapsheetsref03_Same.l0, if_neg (by omega)]
    simp
  | cons x r ih =>
    intro t i k hd ht hi hk
    obtain ⟨k, rfl⟩ : ∃ n, k = n + 1 := ⟨k - 1, by omega⟩
    obtain ⟨hrd, hil, hd'⟩ := rd_drop hd
    rw [List.length_cons] at hk
    cases t with
    | nil =>
      have := drop_nil ht (by omega)
      omega
    | cons y u =>
      obtain ⟨hrd2, hil2, ht'⟩ := rd_drop ht
      rw [mapsheetsref03_Same.l0, if_pos (by omega), if_pos (by omega), if_pos (by omega), hrd, hrd2, w64 _ (by omega) (by omega)]
      by_cases e : x = y
      · subst e
        rw [if_pos rfl]
        rw [show ((i : Int) + 1) = ((i + 1 : Nat) : Int) by omega, ih u (i + 1) k hd' ht' (by omega) (by omega)]
        simp
      · rw [if_neg e]
        simp [e]
theorem same_is (a b : List Int) (hm : a.length ≤ 9223372036854775806) (k : Nat) (hk : a.length < k) : mapsheetsref03_Same.f k a b = some (decide (a = b)) := by
  unfold mapsheetsref03_Same.f
  by_cases hl : a.length = b.length
  · rw [if_pos (by omega)]
    exact same_loop a b hl hm a b 0 k rfl rfl (Nat.zero_le _) hk
  · rw [if_neg (by omega), decide_eq_false (fun e => hl (by rw [e]))]
theorem same_self (a : List Int) (hm : a.length ≤ 9223372036854775806) (k : Nat) (hk : a.length < k) : mapsheetsref03_Same.f k a a = some true := by
  rw [same_is a a hm k hk, decide_eq_true rfl]

theorem bytes4 (v : Int) (k : Nat) : mapsheetsref03_Bytes.f (k + 5) v 4 = some (tailL v) := by
  have e1 : wrap64 (4 - 1) = 3 := by (unfold wrap64; decide)
  have e2 : wrap64 (3 - 1) = 2 := by (unfold wrap64; decide)
  have e3 : wrap64 (2 - 1) = 1 := by (unfold wrap64; decide)
  have e4 : wrap64 (1 - 1) = 0 := by (unfold wrap64; decide)
  have e5 : wrap64 (0 - 1) = -1 := by (unfold wrap64; decide)
  have s3 : shr .u64 v 24 = v / 16777216 := rfl
  have s2 : shr .u64 v 16 = v / 65536 := rfl
  have s1 : shr .u64 v 8 = v / 256 := rfl
  have s0 : shr .u64 v 0 = v := by show v / 2 ^ 0 = v; rw [Int.pow_zero]; omega
  have m3 : wrap64 (8 * 3) = 24 := by (unfold wrap64; decide)
  have m2 : wrap64 (8 * 2) = 16 := by (unfold wrap64; decide)
  have m1 : wrap64 (8 * 1) = 8 := by (unfold wrap64; decide)
  have m0 : wrap64 (8 * 0) = 0 := by (unfold wrap64; decide)
  unfold mapsheetsref03_Bytes.f
  rw [e1]
  rw [mapsheetsref03_Bytes.l0, m3, e2, s3, if_pos (by decide), if_pos (by decide), if_pos (by simp)]
  rw [mapsheetsref03_Bytes.l0, m2, e3, s2, if_pos (by decide), if_pos (by decide), if_pos (by simp)]
  rw [mapsheetsref03_Bytes.l0, m1, e4, s1, if_pos (by decide), if_pos (by decide), if_pos (by simp)]
  rw [mapsheetsref03_Bytes.l0, m0, e5, s0, if_pos (by decide), if_pos (by decide), if_pos (by simp)]
  rw [mapsheetsref03_Bytes.l0, if_neg (by decide)]
  rfl
theorem bytes4_at (v : Int) (k : Nat) (hk : 5 ≤ k) : mapsheetsref03_Bytes.f k v 4 = some (tailL v) := by
  obtain ⟨m, rfl⟩ : ∃ m, k = m + 5 := ⟨k - 5, by omega⟩
  exact bytes4 v m
theorem tailL_length (v : Int) : (tailL v).length = 4 := rfl
theorem tailL_byts (v : Int) : Byts (tailL v) := by
  intro x hx
  simp [tailL] at hx
  omega
theorem tailL_inj (a b : Int) (ha : 0 ≤ a ∧ a < 4294967296) (hb : 0 ≤ b ∧ b < 4294967296) (h : tailL a = tailL b) : a = b := by
  unfold tailL at h
  injection h with h1 h
  injection h with h2 h
  injection h with h3 h
  injection h with h4 h
  omega
theorem u64w (c : Nat) (h : c < 4294967296) : IntKind.u64.wrap (c : Int) = (c : Int) := by
  simp [IntKind.wrap, IntKind.bits, IntKind.signed]
  omega
theorem seal_is (l : List Int) (hb : Byts l) (hl : l.length ≤ 140737488351232) : digest_Seal.f l = some (l ++ tailL ((crc l : Nat) : Int)) := by
  unfold digest_Seal.f
  rw [sum_is l hb, Option.bind_some, if_pos (by omega)]
theorem rseal_is (l : List Int) (hb : Byts l) (hl : l.length ≤ 140737488351232) (k : Nat) (hk : 10 * l.length + 10 ≤ k) : mapsheetsref03_Seal.f k l = some (l ++ tailL ((crc l : Nat) : Int)) := by
  unfold mapsheetsref03_Seal.f
  rw [if_pos (by simp; omega), Option.bind_some, ref_at l (by omega) hb _ (by omega), Option.bind_some, u64w _ (crc_lt hb), bytes4_at _ _ (by omega), Option.bind_some, if_pos (by simp [tailL_length]; omega)]
  rfl
theorem byts_take {l : List Int} (hb : Byts l) (n : Nat) : Byts (l.take n) := fun x hx => hb x (List.mem_of_mem_take hx)
/-- What Open answers. -/
def opened (l : List Int) : List Int × Int := if l.length < 4 then ([], 5) else if l.drop (l.length - 4) = tailL ((crc (l.take (l.length - 4)) : Nat) : Int) then (l.take (l.length - 4), 0) else ([], 6)
theorem byts_all {l : List Int} (hb : Byts l) : (l.all fun x => decide (0 ≤ x) && decide (x ≤ 255)) = true := List.all_eq_true.2 fun x hx => by have := hb x hx; simp; omega
theorem open_is (l : List Int) (hb : Byts l) (hl : l.length ≤ 140737488355328) : digest_Open.f l = some (opened l) := by
  unfold digest_Open.f opened
  by_cases h : l.length < 4
  · rw [if_pos h, if_pos h, if_pos (byts_all hb), if_pos hl]
  · rw [if_neg h, if_neg h, sum_is _ (byts_take hb _), Option.bind_some, if_pos (byts_all hb), if_pos hl]
    split <;> rfl
theorem ropen_is (l : List Int) (hb : Byts l) (hl : l.length ≤ 140737488351236) (k : Nat) (hk : 10 * l.length + 10 ≤ k) : mapsheetsref03_Open.f k l = some (opened l) := by
  unfold mapsheetsref03_Open.f opened
  rw [w64 _ (by omega) (by omega)]
  by_cases h : l.length < 4
  · rw [if_pos (by omega), if_pos h]
  · rw [if_neg (by omega), if_neg h, if_pos (by omega), if_pos (by omega), show ((l.length : Int) - 4).toNat = l.length - 4 by omega]
    have h1 : (l.take (l.length - 4)).length ≤ l.length := by rw [List.length_take]; omega
    rw [ref_at _ (by omega) (byts_take hb _) _ (by omega), Option.bind_some, u64w _ (crc_lt (byts_take hb _)), bytes4_at _ _ (by omega), Option.bind_some, same_is _ _ (by simp [tailL_length]) _ (by simp [tailL_length]; omega), Option.bind_some]
    by_cases e : l.drop (l.length - 4) = tailL ((crc (l.take (l.length - 4)) : Nat) : Int)
    · rw [if_pos e, decide_eq_true e.symm, if_pos rfl, if_pos (by rw [List.length_nil]; omega)]
      rfl
    · rw [if_neg e, decide_eq_false (fun h => e h.symm), if_neg (by decide)]
theorem opened_sealed (l : List Int) : opened (l ++ tailL ((crc l : Nat) : Int)) = (l, 0) := by
  unfold opened
  rw [List.length_append, tailL_length, Nat.add_sub_cancel, List.drop_left, List.take_left, if_neg (by omega), if_pos rfl]
theorem sealed_byts {l : List Int} (hb : Byts l) : Byts (l ++ tailL ((crc l : Nat) : Int)) := by
  intro x hx
  rcases List.mem_append.1 hx with h | h
  · exact hb x h
  · exact tailL_byts _ x h
end Go.Proofs.Ytaappifdpbgchaa.Crc
