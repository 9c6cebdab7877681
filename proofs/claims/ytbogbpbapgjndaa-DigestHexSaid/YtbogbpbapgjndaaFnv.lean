/- The other sum. -/
import Derived.Test.YtbogbpbapgjndaaCrc
namespace Go.Proofs.Ytbogbpbapgjndaa.Crc
open Go.RowKit Go.Proofs.YtbogbpbapgjndaaW.PrintWords Go.Proofs.YtbogbpbapgjndaaW.PrintLast Go.Proofs.Ytbogbpbapgjndaa.PA

def fnx (h x : Int) : Int := IntKind.u64.wrap ((Go.bits .xor .u64 h (IntKind.u64.wrap x)) * 1099511628211)
def fnv (h : Int) (l : List Int) : Int := l.foldl fnx h
theorem fnv_loop (l : List Int) (hl : l.length ≤ 9223372036854775806) : ∀ (s : List Int) (i : Nat) (h : Int) (k : Nat), l.drop i = s → i ≤ l.length → s.length < k → digest_Fnv.l0 k h l (l.length : Int) (i : Int) = some (fnv h s) := by
  intro s
  induction s with
  | nil =>
    intro i h k hd hi hk
    have := drop_nil hd hi
    obtain ⟨k, rfl⟩ : ∃ n, k = n + 1 := ⟨k - 1, by omega⟩
    rw [digest_Fnv.l0, if_neg (by omega)]
    rfl
  | cons x r ih =>
    intro i h k hd hi hk
    obtain ⟨k, rfl⟩ : ∃ n, k = n + 1 := ⟨k - 1, by omega⟩
    obtain ⟨hrd, hil, hd'⟩ := rd_drop hd
    rw [List.length_cons] at hk
    rw [digest_Fnv.l0, if_pos (by omega), if_pos (by omega), if_pos (by omega), hrd, digest_next.f, Option.bind_some, w64 _ (by omega) (by omega)]
    exact ih (i + 1) _ k hd' (by omega) (by omega)
theorem fnv_is (l : List Int) (hl : l.length ≤ 9223372036854775806) (k : Nat) (hk : l.length < k) : digest_Fnv.f k l = some (fnv 14695981039346656037 l) := fnv_loop l hl l 0 _ k rfl (Nat.zero_le _) hk
theorem rfnv_loop (l : List Int) (hl : l.length ≤ 9223372036854775806) : ∀ (s : List Int) (i : Nat) (h : Int) (k : Nat), l.drop i = s → i ≤ l.length → s.length < k → mapsheetsref03_Fnv.l0 k l h (i : Int) = some (fnv h s) := by
  intro s
  induction s with
  | nil =>
    intro i h k hd hi hk
    have := drop_nil hd hi
    obtain ⟨k, rfl⟩ : ∃ n, k = n + 1 := ⟨k - 1, by omega⟩
    rw [mapsheetsref03_Fnv.l0, if_neg (by omega)]
    rfl
  | cons x r ih =>
    intro i h k hd hi hk
    obtain ⟨k, rfl⟩ : ∃ n, k = n + 1 := ⟨k - 1, by omega⟩
    obtain ⟨hrd, hil, hd'⟩ := rd_drop hd
    rw [List.length_cons] at hk
    rw [mapsheetsref03_Fnv.l0, if_pos (by omega), if_pos (by omega), hrd, mapsheetsref03_step.f, Option.bind_some, w64 _ (by omega) (by omega)]
    exact ih (i + 1) _ k hd' (by omega) (by omega)
theorem rfnv_is (l : List Int) (hl : l.length ≤ 9223372036854775806) (k : Nat) (hk : l.length < k) : mapsheetsref03_Fnv.f k l = some (fnv 14695981039346656037 l) := rfnv_loop l hl l 0 _ k rfl (Nat.zero_le _) hk
theorem awake_is : mapsheetslaw03_awake.f = some true := rfl
end Go.Proofs.Ytbogbpbapgjndaa.Crc
