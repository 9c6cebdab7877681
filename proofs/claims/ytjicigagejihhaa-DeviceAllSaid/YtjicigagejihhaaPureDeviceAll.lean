/- A crash that all pending writes survive leads to the contents that Flush makes durable, for every device of at most 100 sectors and pending writes. -/
import Derived.Test.YtjicigagejihhaaRd
import Derived.Test.YtjicigagejihhaaDevFew
import Derived.Test.YtjicigagejihhaaDevSame
import Derived.Test.YtjicigagejihhaaPAx32
namespace Go.Proofs.Ytjicigagejihhaa.Dev
open Go.RowKit Go.Proofs.Ytjicigagejihhaa.PA Go.Proofs.YtjicigagejihhaaW.PrintWords Go.Proofs.YtjicigagejihhaaW.PrintLast Go.Proofs.YtjicigagejihhaaW.PrintMore
theorem all_l0 (s : List (List Int)) (p : List S53) (l : Int) (dn : Bool) (h : Sm s p) (hd : dn = false) : ∀ (n k : Nat) (a : List Int), n ≤ p.length → n + 10000 < k → a.length + 2 * n ≤ 2000 → (∀ j : Nat, n ≤ j → j < p.length → a.contains (j : Int) = true) →
    mapsheetslaw24_DeviceAll.l0 k a ((n : Int) - 1) s p l dn = some true := by
  intro n
  induction n with
  | zero =>
    intro k a hn hk ha hc
    obtain ⟨k, rfl⟩ : ∃ m, k = m + 1 := ⟨k - 1, by omega⟩
    subst hd
    have hs := dur_sm s p p h h.2.2.2
    rw [mapsheetslaw24_DeviceAll.l0, if_neg (by omega), flush_ok s p h l false k (by omega)]
    have hw : fl s p l false = (dur s p, [], l, false, 0) := rfl
    have hk0 : kept (fun i => a.contains i) 0 p = p := kept_all _ p 0 fun j _ hj => hc j (by omega) (by omega)
    rw [hw, Option.bind_some, crash_ok s p h l false a k (by omega), hk0]
    simp only [Option.bind_some]
    rw [if_pos trivial, sameSectors _ k (by have := hs.1; omega) (fun x hx => by have := hs.2.2.1 x hx; omega) (by omega), Option.bind_some, if_pos rfl, if_pos (by simp), lsame_ok s (dur s p) p [] h hs l (-1) false false (-1) (dur_len s p).symm (fun j hj _ => rdd_dur s p j hj) k (by omega), Option.bind_some, if_pos rfl, awake_ok]; rfl
  | succ n ih =>
    intro k a hn hk ha hc
    obtain ⟨k, rfl⟩ : ∃ m, k = m + 1 := ⟨k - 1, by omega⟩
    have e : ((n + 1 : Nat) : Int) - 1 = (n : Int) := by omega
    rw [e, mapsheetslaw24_DeviceAll.l0, if_pos (by omega), Option.bind_some, if_pos (by simp; omega), show wrap64 ((n : Int) - 1) = (n : Int) - 1 by have := h.2.1; unfold wrap64; omega]
    refine ih k _ (by omega) (by omega) (by simp; omega) fun j h1 h2 => ?_
    by_cases hj : j = n
    · subst hj; simp
    · have := hc j (by omega) h2
      simp only [List.contains_eq_mem, decide_eq_true_eq] at this ⊢
      exact List.mem_append_left _ this

theorem all_law (s : List (List Int)) (p : List S53) (l : Int) (dn : Bool) : ∃ k, mapsheetslaw24_DeviceAll.f k s p l dn = some true := by
  obtain ⟨k, hk⟩ : ∃ k : Nat, 20000 < k := ⟨20001, by omega⟩
  refine ⟨k + 1, ?_⟩
  unfold mapsheetslaw24_DeviceAll.f
  obtain ⟨t, ht, h2⟩ := few_ok s p l dn (k + 1) (by omega)
  rw [ht, Option.bind_some]
  by_cases e : t = true
  · have hf := h2 e
    have h := hf.sm
    have hp := hf.2.1
    rw [if_pos e]
    simp only [mapsheetslaw24_DeviceAll.j0]
    by_cases hd : dn = true
    · rw [if_pos hd, awake_ok]; rfl
    · rw [if_neg hd, show wrap64 ((p.length : Int) - 1) = (p.length : Int) - 1 by unfold wrap64; omega]
      exact all_l0 s p l dn h (by simpa using hd) p.length k [] (Nat.le_refl _) (by omega) (by simp; omega) (fun j h1 h2 => by omega)
  · rw [if_neg e]
    simp only [mapsheetslaw24_DeviceAll.j0]
    rw [if_pos trivial, awake_ok]; rfl
end Go.Proofs.Ytjicigagejihhaa.Dev
namespace Go.Proofs.Ytjicigagejihhaa.Pure
open Go.RowKit Go.Proofs.Ytjicigagejihhaa.PA Go.Proofs.YtjicigagejihhaaW.PrintWords Go.Proofs.YtjicigagejihhaaW.PrintLast Go.Proofs.YtjicigagejihhaaW.PrintMore
theorem DeviceAll : ∀ (x0 : S25), PA.wfT25 x0 → ∃ k, PA.mapsheetslaw24_DeviceAll.f k x0.f0 x0.f1 x0.f2 x0.f3 = some true := by
  intro x0 _
  exact Dev.all_law x0.f0 x0.f1 x0.f2 x0.f3
end Go.Proofs.Ytjicigagejihhaa.Pure
