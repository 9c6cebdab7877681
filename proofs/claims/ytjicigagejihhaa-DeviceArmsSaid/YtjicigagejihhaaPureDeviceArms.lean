/- An armed device crashes after exactly the given number of writes, for at most 30 sectors and 40 writes. -/
import Derived.Test.YtjicigagejihhaaRd
import Derived.Test.YtjicigagejihhaaDevWrit
import Derived.Test.YtjicigagejihhaaPAx31
namespace Go.Proofs.Ytjicigagejihhaa.Dev
open Go.RowKit Go.Proofs.Ytjicigagejihhaa.PA Go.Proofs.YtjicigagejihhaaW.PrintWords Go.Proofs.YtjicigagejihhaaW.PrintLast Go.Proofs.YtjicigagejihhaaW.PrintMore
/-- Writes to sectors that exist, on a device that is armed: as many as are left succeed. -/
theorem wrt_armed : ∀ (ops : List S55) (n : Int) (s : List (List Int)) (p : List S53) (left : Nat), (∀ o ∈ ops, 0 ≤ o.f0 ∧ o.f0 < (s.length : Int)) →
    ((ops.length ≤ left → (wrt ops n s p (left : Int) false).2.2.1 = (left : Int) - ops.length ∧ (wrt ops n s p (left : Int) false).2.2.2 = (false, n + ops.length, 0) ∧ (wrt ops n s p (left : Int) false).2.1.length = p.length + ops.length) ∧
     (left < ops.length → (wrt ops n s p (left : Int) false).2.2.2 = (true, n + left, 23) ∧ (wrt ops n s p (left : Int) false).2.1.length = p.length + left + 1)) := by
  intro ops
  induction ops with
  | nil =>
    intro n s p left _
    refine ⟨fun _ => ⟨by simp [wrt], by simp [wrt], by simp [wrt]⟩, fun h => by simp at h⟩
  | cons o r ih =>
    intro n s p left ho
    have h0 := ho o List.mem_cons_self
    have hw : wr s p (left : Int) false o.f0 (List.replicate 64 o.f1) = if (left : Int) = 0 then (s, p ++ [⟨o.f0, List.replicate 64 o.f1⟩], (left : Int), true, 23) else (s, p ++ [⟨o.f0, List.replicate 64 o.f1⟩], (left : Int) - 1, false, 0) := by
      unfold wr
      rw [if_neg (by decide), if_pos h0, if_pos (by simp)]
      by_cases hl : (left : Int) = 0
      · rw [if_pos hl, if_pos hl]
      · rw [if_neg hl, if_neg hl, if_pos (by omega)]
    rw [wrt, hw]
    by_cases hl : (left : Int) = 0
    · rw [if_pos hl]
      dsimp only
      rw [if_pos rfl]
      refine ⟨fun h => by rw [List.length_cons] at h; omega, fun _ => ⟨by rw [hl]; simp, by simp; omega⟩⟩
    · rw [if_neg hl]
      dsimp only
      rw [if_neg (by decide), if_pos rfl]
      obtain ⟨m, rfl⟩ : ∃ m, left = m + 1 := ⟨left - 1, by omega⟩
      have e : ((m + 1 : Nat) : Int) - 1 = (m : Int) := by omega
      rw [e]
      obtain ⟨i1, i2⟩ := ih (n + 1) s (p ++ [⟨o.f0, List.replicate 64 o.f1⟩]) m (fun q hq => ho q (List.mem_cons_of_mem _ hq))
      refine ⟨fun h => ?_, fun h => ?_⟩
      · rw [List.length_cons] at h ⊢
        obtain ⟨a1, a2, a3⟩ := i1 (by omega)
        refine ⟨by rw [a1]; omega, ?_, by rw [a3]; simp; omega⟩
        rw [a2]; congr 2; omega
      · rw [List.length_cons] at h
        obtain ⟨a2, a3⟩ := i2 (by omega)
        refine ⟨?_, by rw [a3]; simp; omega⟩
        rw [a2]; congr 2; omega

theorem arms_end (s : List (List Int)) (hs : Sm s []) (n : Nat) (hn : s.length = n) (h1 : 1 ≤ n) (ops : List S55) (ho : ops.length ≤ 40) (left : Nat) (hl : left ≤ 255) (hin : ∀ o ∈ ops, 0 ≤ o.f0 ∧ o.f0 < (n : Int)) (k : Nat) (hk : 10000 < k) (x9 : Int) (hx : ¬ x9 < (ops.length : Int)) :
    mapsheetslaw24_DeviceArms.l0 (k + 1) (n : Int) ops (left : Int) x9 s [] (-1) false = some true := by
  have hw64 : wrap64 (left : Int) = (left : Int) := by unfold wrap64; omega
  have hmx : mx (left : Int) (-1) = (left : Int) := by unfold mx; rw [if_neg (by omega)]
  rw [mapsheetslaw24_DeviceArms.l0, if_neg hx, hw64, arm_ok s [] hs _ _ _ k (by omega), Option.bind_some, hmx]
  dsimp only
  rw [written_ok ops (by omega) s [] (left : Int) false hs (by simp) (by omega) k (by omega), Option.bind_some]
  obtain ⟨w1a, w2a⟩ := wrt_armed ops 0 s [] left (fun o h => by rw [hn]; exact hin o h)
  have e2 := wrt_keeps ops 0 s [] (left : Int) false
  have e3 := wrt_sm ops 0 s [] (left : Int) false hs (by simp; omega)
  have e4 := wrt_left ops 0 s [] (left : Int) false (by omega)
  generalize wrt ops 0 s [] (left : Int) false = x at w1a w2a e2 e3 e4 ⊢
  obtain ⟨x1, x2, x3, x4, x5, x6⟩ := x
  dsimp only at w1a w2a e2 e3 e4 ⊢
  simp only [Prod.mk.injEq] at w1a w2a
  by_cases c : (ops.length : Int) ≤ (left : Int)
  · obtain ⟨a1, ⟨a2, a3, a4⟩, a5⟩ := w1a (by omega)
    subst a2 a4
    have h7 : wrap64 ((left : Int) - x5) = (left : Int) - x5 := by unfold wrap64; omega
    simp only [List.length_nil] at a5
    rw [if_pos c, if_pos (by omega), if_pos rfl, if_neg (by decide), if_pos (by omega), h7, if_pos (by omega), awake_ok]; rfl
  · obtain ⟨⟨a2, a3, a4⟩, a5⟩ := w2a (by omega)
    subst a2 a4 e2
    simp only [List.length_nil] at a5
    have hd : ∀ i : Int, wr x1 x2 x3 true i (List.replicate 64 1) = (x1, x2, x3, true, 23) := fun i => by unfold wr; rw [if_pos rfl]
    have hf : fl x1 x2 x3 true = ([], [], 0, false, 23) := rfl
    have hr : rdd x1 x2 true 0 = ([], 23) := rfl
    have hk0 : kept (fun i => ([] : List Int).contains i) 0 x2 = [] := by
      have : (fun i : Int => ([] : List Int).contains i) = fun _ => false := by funext i; rfl
      rw [this]; exact kept_none _ _
    have hr2 : (rdd x1 [] false 0).2 = 0 := by unfold rdd; rw [if_neg (by decide), if_pos ⟨by omega, by omega⟩]
    have hx3 : x3 ≤ 9223372036854775807 := e4
    have h5 : wrap64 (x5 + 1) = x5 + 1 := by unfold wrap64; omega
    rw [if_neg c, block_ok 1 k (by omega), Option.bind_some, write_ok _ _ e3 x3 hx3 true 0 _ k (by omega), hd, flush_ok _ _ e3 x3 true k (by omega), hf, read_ok _ _ e3 x3 true 0 k (by omega), hr, crash_ok _ _ e3 x3 true [] k (by omega), hk0, dur_nil]
    simp only [Option.bind_some]
    rw [read_ok x1 [] hs (-1) false 0 k (by omega), Option.bind_some, if_pos (by omega), if_pos trivial, if_pos trivial, h5, if_pos (by omega), if_pos trivial, if_pos trivial, if_pos trivial, if_pos hr2, awake_ok]; rfl

theorem arms_l0 (s : List (List Int)) (hs : Sm s []) (n : Nat) (hn : s.length = n) (h1 : 1 ≤ n) (ops : List S55) (ho : ops.length ≤ 40) (left : Nat) (hl : left ≤ 255) : ∀ (d k i : Nat), ops.length - i = d → i ≤ ops.length → d + 10001 < k → (∀ o ∈ ops.take i, 0 ≤ o.f0 ∧ o.f0 < (n : Int)) →
    mapsheetslaw24_DeviceArms.l0 k (n : Int) ops (left : Int) (i : Int) s [] (-1) false = some true := by
  intro d
  induction d with
  | zero =>
    intro k i hd hi hk hin
    obtain ⟨k, rfl⟩ : ∃ m, k = m + 1 := ⟨k - 1, by omega⟩
    rw [List.take_of_length_le (by omega)] at hin
    exact arms_end s hs n hn h1 ops ho left hl hin k (by omega) _ (by omega)
  | succ d ih =>
    intro k i hd hi hk hin
    obtain ⟨k, rfl⟩ : ∃ m, k = m + 1 := ⟨k - 1, by omega⟩
    rw [mapsheetslaw24_DeviceArms.l0, if_pos (by omega), if_pos (by omega), rd5_at ops i (by omega), w1 i (by omega), awake_ok]
    by_cases c1 : ops[i].f0 < 0
    · rw [if_pos c1]; rfl
    rw [if_neg c1]
    by_cases c2 : ops[i].f0 ≥ (n : Int)
    · rw [if_pos c2]; rfl
    rw [if_neg c2]
    refine ih k (i + 1) (by omega) (by omega) (by omega) fun o h => ?_
    rw [List.take_succ_eq_append_getElem (by omega)] at h
    rcases List.mem_append.1 h with h | h
    · exact hin o h
    · rw [List.mem_singleton] at h; subst h; omega

theorem arms_law (n : Int) (ops : List S55) (left : Int) (h0 : 0 ≤ left) (h1 : left ≤ 255) : ∃ k, mapsheetslaw24_DeviceArms.f k n ops left = some true := by
  obtain ⟨k, hk⟩ : ∃ k : Nat, 20000 < k := ⟨20001, by omega⟩
  refine ⟨k + 1, ?_⟩
  have yes : mapsheetslaw24_DeviceArms.j0 (k + 1) n ops left true = some true := by
    simp only [mapsheetslaw24_DeviceArms.j0]
    rw [if_pos trivial, awake_ok]; rfl
  unfold mapsheetslaw24_DeviceArms.f
  by_cases h2 : n > 30
  · rw [if_pos h2]; exact yes
  rw [if_neg h2]
  by_cases h3 : (ops.length : Int) > 40
  · rw [decide_eq_true h3]; exact yes
  rw [decide_eq_false h3]
  simp only [mapsheetslaw24_DeviceArms.j0]
  rw [if_neg (by decide), new_ok n k (by omega), Option.bind_some]
  unfold nw
  by_cases h4 : n < 1 ∨ n > 4096
  · rw [if_pos h4]
    dsimp only
    rw [if_neg (by decide), awake_ok]; rfl
  rw [if_neg h4]
  dsimp only
  obtain ⟨m, rfl⟩ := Int.eq_ofNat_of_zero_le (show 0 ≤ n by omega)
  obtain ⟨q, rfl⟩ := Int.eq_ofNat_of_zero_le h0
  rw [if_pos rfl]
  exact arms_l0 _ ⟨by simp; omega, by simp, fun x hx => by rw [(List.mem_replicate.1 hx).2]; simp, by simp⟩ m (by simp) (by omega) ops (by omega) q (by omega) ops.length k 0 (by omega) (by omega) (by omega) (by simp)
end Go.Proofs.Ytjicigagejihhaa.Dev
namespace Go.Proofs.Ytjicigagejihhaa.Pure
open Go.RowKit Go.Proofs.Ytjicigagejihhaa.PA Go.Proofs.YtjicigagejihhaaW.PrintWords Go.Proofs.YtjicigagejihhaaW.PrintLast Go.Proofs.YtjicigagejihhaaW.PrintMore
theorem u8_rng {n : Int} (h : (Lit.int .u8 n).wf = true) : 0 ≤ n ∧ n ≤ 255 := by
  simpa [Lit.wf, IntKind.min, IntKind.max, IntKind.signed, IntKind.bits] using h
theorem DeviceArms : ∀ (x0 : Int) (x1 : List (S55)) (x2 : Int), PA.wfT3 x0 → PA.wfT47 x1 → PA.wfT5 x2 → ∃ k, PA.mapsheetslaw24_DeviceArms.f k x0 x1 x2 = some true := by
  intro x0 x1 x2 _ _ h2
  exact Dev.arms_law x0 x1 x2 (u8_rng h2).1 (u8_rng h2).2
end Go.Proofs.Ytjicigagejihhaa.Pure
