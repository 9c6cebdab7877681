import Derived.Test.YtbogbpbapgjndaaFnv
import Derived.Test.YtbogbpbapgjndaaPAx5
namespace Go.Proofs.Ytbogbpbapgjndaa.Pure
open Go.RowKit Go.Proofs.Ytbogbpbapgjndaa.PA Go.Proofs.YtbogbpbapgjndaaW.PrintWords Go.Proofs.YtbogbpbapgjndaaW.PrintLast Go.Proofs.YtbogbpbapgjndaaW.PrintMore Go.Proofs.Ytbogbpbapgjndaa.Crc

/-- Eight bytes, the greatest first. -/
def eight (v : Int) : List Int := [shr .u64 v 56 % 256, shr .u64 v 48 % 256, shr .u64 v 40 % 256, shr .u64 v 32 % 256, shr .u64 v 24 % 256, shr .u64 v 16 % 256, shr .u64 v 8 % 256, shr .u64 v 0 % 256]
theorem eight_length (v : Int) : (eight v).length = 8 := rfl
theorem bytes8 (v : Int) (k : Nat) : mapsheetsref03_Bytes.f (k + 9) v 8 = some (eight v) := by
  unfold mapsheetsref03_Bytes.f
  rw [show wrap64 (8 - 1) = 7 by (unfold wrap64; decide)]
  rw [mapsheetsref03_Bytes.l0, show wrap64 (8 * 7) = 56 by (unfold wrap64; decide), show wrap64 (7 - 1) = 6 by (unfold wrap64; decide), if_pos (by decide), if_pos (by decide), if_pos (by simp)]
  rw [mapsheetsref03_Bytes.l0, show wrap64 (8 * 6) = 48 by (unfold wrap64; decide), show wrap64 (6 - 1) = 5 by (unfold wrap64; decide), if_pos (by decide), if_pos (by decide), if_pos (by simp)]
  rw [mapsheetsref03_Bytes.l0, show wrap64 (8 * 5) = 40 by (unfold wrap64; decide), show wrap64 (5 - 1) = 4 by (unfold wrap64; decide), if_pos (by decide), if_pos (by decide), if_pos (by simp)]
  rw [mapsheetsref03_Bytes.l0, show wrap64 (8 * 4) = 32 by (unfold wrap64; decide), show wrap64 (4 - 1) = 3 by (unfold wrap64; decide), if_pos (by decide), if_pos (by decide), if_pos (by simp)]
  rw [mapsheetsref03_Bytes.l0, show wrap64 (8 * 3) = 24 by (unfold wrap64; decide), show wrap64 (3 - 1) = 2 by (unfold wrap64; decide), if_pos (by decide), if_pos (by decide), if_pos (by simp)]
  rw [mapsheetsref03_Bytes.l0, show wrap64 (8 * 2) = 16 by (unfold wrap64; decide), show wrap64 (2 - 1) = 1 by (unfold wrap64; decide), if_pos (by decide), if_pos (by decide), if_pos (by simp)]
  rw [mapsheetsref03_Bytes.l0, show wrap64 (8 * 1) = 8 by (unfold wrap64; decide), show wrap64 (1 - 1) = 0 by (unfold wrap64; decide), if_pos (by decide), if_pos (by decide), if_pos (by simp)]
  rw [mapsheetsref03_Bytes.l0, show wrap64 (8 * 0) = 0 by (unfold wrap64; decide), show wrap64 (0 - 1) = -1 by (unfold wrap64; decide), if_pos (by decide), if_pos (by decide), if_pos (by simp)]
  rw [mapsheetsref03_Bytes.l0, if_neg (by decide)]
  rfl
theorem bytes8_at (v : Int) (k : Nat) (hk : 9 ≤ k) : mapsheetsref03_Bytes.f k v 8 = some (eight v) := by
  obtain ⟨m, rfl⟩ : ∃ m, k = m + 9 := ⟨k - 9, by omega⟩
  exact bytes8 v m
theorem mix_is (h x : Int) (k : Nat) : digest_Mix.f (k + 9) h x = some (fnv h (eight (IntKind.u64.wrap x))) := by
  unfold digest_Mix.f
  rw [digest_Mix.l0, show wrap64 (56 - 8) = 48 by (unfold wrap64; decide), if_pos (by decide), if_pos (by decide), digest_next.f, Option.bind_some]
  rw [digest_Mix.l0, show wrap64 (48 - 8) = 40 by (unfold wrap64; decide), if_pos (by decide), if_pos (by decide), digest_next.f, Option.bind_some]
  rw [digest_Mix.l0, show wrap64 (40 - 8) = 32 by (unfold wrap64; decide), if_pos (by decide), if_pos (by decide), digest_next.f, Option.bind_some]
  rw [digest_Mix.l0, show wrap64 (32 - 8) = 24 by (unfold wrap64; decide), if_pos (by decide), if_pos (by decide), digest_next.f, Option.bind_some]
  rw [digest_Mix.l0, show wrap64 (24 - 8) = 16 by (unfold wrap64; decide), if_pos (by decide), if_pos (by decide), digest_next.f, Option.bind_some]
  rw [digest_Mix.l0, show wrap64 (16 - 8) = 8 by (unfold wrap64; decide), if_pos (by decide), if_pos (by decide), digest_next.f, Option.bind_some]
  rw [digest_Mix.l0, show wrap64 (8 - 8) = 0 by (unfold wrap64; decide), if_pos (by decide), if_pos (by decide), digest_next.f, Option.bind_some]
  rw [digest_Mix.l0, show wrap64 (0 - 8) = -8 by (unfold wrap64; decide), if_pos (by decide), if_pos (by decide), digest_next.f, Option.bind_some]
  rw [digest_Mix.l0, if_neg (by decide)]
  rfl
theorem mix_at (h x : Int) (k : Nat) (hk : 9 ≤ k) : digest_Mix.f k h x = some (fnv h (eight (IntKind.u64.wrap x))) := by
  obtain ⟨m, rfl⟩ : ∃ m, k = m + 9 := ⟨k - 9, by omega⟩
  exact mix_is h x m
theorem rmix_loop (l : List Int) (hl : l.length ≤ 9223372036854775806) : ∀ (s : List Int) (i : Nat) (h : Int) (k : Nat), l.drop i = s → i ≤ l.length → s.length < k → mapsheetsref03_Mix.l0 k h l (i : Int) = some (fnv h s) := by
  intro s
  induction s with
  | nil =>
    intro i h k hd hi hk
    have := drop_nil hd hi
    obtain ⟨k, rfl⟩ : ∃ n, k = n + 1 := ⟨k - 1, by omega⟩
    rw [mapsheetsref03_Mix.l0, if_neg (by omega)]
    rfl
  | cons x r ih =>
    intro i h k hd hi hk
    obtain ⟨k, rfl⟩ : ∃ n, k = n + 1 := ⟨k - 1, by omega⟩
    obtain ⟨hrd, hil, hd'⟩ := rd_drop hd
    rw [List.length_cons] at hk
    rw [mapsheetsref03_Mix.l0, if_pos (by omega), if_pos (by omega), hrd, mapsheetsref03_step.f, Option.bind_some, w64 _ (by omega) (by omega)]
    exact ih (i + 1) _ k hd' (by omega) (by omega)
theorem DigestMixes : mapsheetslaw03_DigestMixes.Pure := by
  intro h x l _ _ hm hl hw
  refine ⟨l.length + 20, ?_⟩
  unfold mapsheetslaw03_DigestMixes.f mapsheetsref03_Mix.f
  have hlen : (l ++ eight (IntKind.u64.wrap x)).length = l.length + 8 := by rw [List.length_append, eight_length]
  have e : fnv 14695981039346656037 (l ++ eight (IntKind.u64.wrap x)) = fnv (fnv 14695981039346656037 l) (eight (IntKind.u64.wrap x)) := by unfold fnv; rw [List.foldl_append]
  have hr := rmix_loop (eight (IntKind.u64.wrap x)) (by rw [eight_length]; omega) (eight (IntKind.u64.wrap x)) 0 h (l.length + 20) rfl (Nat.zero_le _) (by rw [eight_length]; omega)
  rw [Int.natCast_zero] at hr
  rw [mix_at _ _ _ (by omega), Option.bind_some, bytes8_at _ _ (by omega), Option.bind_some, hr, Option.bind_some, if_pos rfl, if_pos (by simp; omega), Option.bind_some, Option.bind_some, List.nil_append, if_pos (by rw [eight_length]; omega), fnv_is l (by omega) _ (by omega), Option.bind_some, mix_at _ _ _ (by omega), Option.bind_some, fnv_is _ (by omega) _ (by omega), Option.bind_some, if_pos e.symm, awake_is]
  rfl

end Go.Proofs.Ytbogbpbapgjndaa.Pure
