/- Unpack of plates tells a changed byte, whichever it is. -/
import Derived.Test.YtaappifdpbgchaaRd
import Derived.Test.YtaappifdpbgchaaUnpF
import Derived.Test.YtaappifdpbgchaaPAx16
namespace Go.Proofs.Ytaappifdpbgchaa.Pure
set_option linter.unusedVariables false
open Go.RowKit Go.Proofs.Ytaappifdpbgchaa.PA Go.Proofs.Ytaappifdpbgchaa.Plt
open Go.Proofs.Ytaappifdpbgchaa.Crc (dbits8 sealed_byts)
theorem damage_j0 (W H : Int) (V : List Int) (hV : V.length ≤ 5000) (i z : Int) (hi : 0 ≤ i) (hz : 0 < z ∧ z < 256) (k : Nat) (hk : 40000000 < k) : mapsheetslaw54_PlatesDamage.j0 k i z false W H V = some true := by
  obtain ⟨k, rfl⟩ : ∃ m, k = m + 1 + 1 := ⟨k - 2, by omega⟩
  rw [mapsheetslaw54_PlatesDamage.j0, if_neg (by decide)]
  by_cases hc : chk W H V = 0
  · have hsl := sealed_len (body W H V)
    have hbl := body_len W H V
    rw [pack_ok W H V hc _ (by omega), Option.bind_some, if_pos rfl, mapsheetslaw54_PlatesDamage.j1]
    dsimp only
    by_cases hge : i ≥ ((sealed (body W H V)).length : Int)
    · rw [decide_eq_true hge, if_pos rfl, awake_ok]; rfl
    · obtain ⟨n, rfl⟩ : ∃ n : Nat, i = (n : Int) := ⟨i.toNat, by omega⟩
      have hn : n < (sealed (body W H V)).length := by omega
      have hv : 0 ≤ (sealed (body W H V))[n] ∧ (sealed (body W H V))[n] < 256 := sealed_b (body_bytes hc) _ (List.getElem_mem hn)
      rw [decide_eq_false hge, if_neg (by decide), if_pos (by rw [List.length_nil]; omega), Option.bind_some, List.nil_append, if_pos (by omega), if_pos (by omega), rd_at _ n hn, Int.toNat_natCast, dbits8 _ z hv ⟨by omega, hz.2⟩]
      have hx : (sealed (body W H V))[n].toNat ^^^ z.toNat < 2 ^ 8 := Nat.xor_lt_two_pow (by omega) (by omega)
      rw [unpack_set W H V hc hV n _ ⟨by omega, by omega⟩ hn (fun e => ?_) _, Option.bind_some, if_pos rfl, awake_ok]
      · rfl
      · have e2 : (sealed (body W H V))[n].toNat ^^^ z.toNat = (sealed (body W H V))[n].toNat := by omega
        have e3 := congrArg (fun m => (sealed (body W H V))[n].toNat ^^^ m) e2
        simp only [← Nat.xor_assoc, Nat.xor_self, Nat.zero_xor] at e3
        omega
  · rw [pack_bad W H V (by omega) hc _ (by omega), Option.bind_some, if_neg hc, mapsheetslaw54_PlatesDamage.j1, if_pos rfl, awake_ok]; rfl
theorem damage_t (W H : Int) (V : List Int) (i z : Int) (k : Nat) : mapsheetslaw54_PlatesDamage.j0 (k + 1) i z true W H V = some true := by
  rw [mapsheetslaw54_PlatesDamage.j0, if_pos rfl, awake_ok]; rfl
theorem PlatesDamage : ∀ (x0 : S24) (x1 : Int) (x2 : Int), PA.wfT24 x0 → PA.wfT3 x1 → PA.wfT5 x2 → ∃ k, PA.mapsheetslaw54_PlatesDamage.f k x0.f0 x0.f1 x0.f2 x1 x2 = some true := by
  intro x0 x1 x2 _ _ w2
  refine ⟨50000001, ?_⟩
  have hz : 0 ≤ x2 ∧ x2 ≤ 255 := by
    have := w2
    simpa [wfT5, Lit.wf, IntKind.min, IntKind.max, IntKind.signed, IntKind.bits] using this
  unfold mapsheetslaw54_PlatesDamage.f
  rw [fair_ok, Option.bind_some]
  by_cases h : (x0.f2.length : Int) ≤ 5000
  · rw [decide_eq_true h, if_pos rfl]
    by_cases h2 : x2 = 0
    · rw [if_pos h2]; exact damage_t _ _ _ _ _ _
    · rw [if_neg h2]
      by_cases h3 : x1 < 0
      · rw [decide_eq_true h3]; exact damage_t _ _ _ _ _ _
      · rw [decide_eq_false h3]; exact damage_j0 _ _ _ (by omega) _ _ (by omega) ⟨by omega, by omega⟩ _ (by omega)
  · rw [decide_eq_false h, if_neg (by decide)]; exact damage_t _ _ _ _ _ _
end Go.Proofs.Ytaappifdpbgchaa.Pure
