/- A changed byte of sealed bytes is detected. -/
import Derived.Test.YtaappifdpbgchaaDig
namespace Go.Proofs.Ytaappifdpbgchaa.Crc
set_option linter.unusedVariables false
set_option linter.unusedSimpArgs false
open Go.RowKit Go.Proofs.Ytaappifdpbgchaa.PA Go.Proofs.YtaappifdpbgchaaW.PrintWords Go.Proofs.YtaappifdpbgchaaW.PrintLast Go.Proofs.Ytaappifdpbgchaa.Crc

theorem dbits8 (a b : Int) (ha : 0 ≤ a ∧ a < 256) (hb : 0 ≤ b ∧ b < 256) : Go.bits .xor .u8 a b = ((a.toNat ^^^ b.toNat : Nat) : Int) := by
  obtain ⟨m, rfl⟩ := Int.eq_ofNat_of_zero_le ha.1
  obtain ⟨n, rfl⟩ := Int.eq_ofNat_of_zero_le hb.1
  have h : m ^^^ n < 2 ^ 8 := Nat.xor_lt_two_pow (by omega) (by omega)
  show IntKind.u8.wrap ((BitVec.ofInt 8 (m : Int) ^^^ BitVec.ofInt 8 (n : Int)).toNat : Int) = _
  rw [BitVec.toNat_xor, BitVec.ofInt_natCast, BitVec.ofInt_natCast, BitVec.toNat_ofNat, BitVec.toNat_ofNat, Nat.mod_eq_of_lt (by omega), Nat.mod_eq_of_lt (by omega), Int.toNat_natCast, Int.toNat_natCast]
  simp [IntKind.wrap, IntKind.bits, IntKind.signed]
  omega
theorem xor_zero_eq {a b : Nat} (h : a ^^^ b = 0) : a = b := by
  have : a ^^^ (a ^^^ b) = a := by rw [h, Nat.xor_zero]
  rw [← Nat.xor_assoc, Nat.xor_self, Nat.zero_xor] at this
  exact this.symm
theorem stp_zero {c : Nat} (hc : c < 4294967296) (h : stp c = 0) : c = 0 := by
  unfold stp at h
  split at h
  · have := xor_zero_eq h
    omega
  · omega
theorem stpn_zero (n : Nat) : ∀ {c}, c < 4294967296 → stpn n c = 0 → c = 0 := by
  induction n with
  | zero => intro c _ h; exact h
  | succ n ih => intro c hc h; exact stp_zero hc (ih (stp_lt hc) h)
theorem byt_inj {a b x : Nat} (ha : a < 4294967296) (hb : b < 4294967296) (h : byt a x = byt b x) : a = b := by
  have h1 : byt a x ^^^ byt b x = 0 := by rw [h, Nat.xor_self]
  rw [← byt_xor, Nat.xor_self] at h1
  unfold byt at h1
  rw [Nat.xor_zero] at h1
  exact xor_zero_eq (stpn_zero 8 (Nat.xor_lt_two_pow (n := 32) (by omega) (by omega)) h1)
theorem byt_inj2 {a x y : Nat} (hx : x < 256) (hy : y < 256) (h : byt a x = byt a y) : x = y := by
  have h1 : byt a x ^^^ byt a y = 0 := by rw [h, Nat.xor_self]
  rw [← byt_xor, Nat.xor_self] at h1
  unfold byt at h1
  rw [Nat.zero_xor] at h1
  exact xor_zero_eq (stpn_zero 8 (Nat.lt_of_lt_of_le (Nat.xor_lt_two_pow (n := 8) (by omega) (by omega)) (by omega)) h1)
theorem fld_inj : ∀ (l : List Int) (a b : Nat), Byts l → a < 4294967296 → b < 4294967296 → fld a l = fld b l → a = b := by
  intro l
  induction l with
  | nil => intro a b _ _ _ h; exact h
  | cons x r ih =>
    intro a b hl ha hb h
    obtain ⟨hx, hr⟩ := byts_cons hl
    exact byt_inj ha hb (ih _ _ hr (byt_lt ha (by omega)) (byt_lt hb (by omega)) h)
theorem fld_set : ∀ (l : List Int) (a : Nat) (i : Nat) (z : Int), Byts l → a < 4294967296 → 0 ≤ z ∧ z < 256 → (hi : i < l.length) → z ≠ l[i] → fld a (l.set i z) ≠ fld a l := by
  intro l
  induction l with
  | nil => intro a i z _ _ _ hi; simp at hi
  | cons x r ih =>
    intro a i z hl ha hz hi hne h
    obtain ⟨hx, hr⟩ := byts_cons hl
    cases i with
    | zero =>
      have h' : fld (byt a z.toNat) r = fld (byt a x.toNat) r := h
      have := byt_inj2 (by omega) (by omega) (fld_inj r _ _ hr (byt_lt ha (by omega)) (byt_lt ha (by omega)) h')
      apply hne
      show z = x
      omega
    | succ i =>
      exact ih (byt a x.toNat) i z hr (byt_lt ha (by omega)) hz (by simpa using hi) hne h
theorem crc_set (l : List Int) (i : Nat) (z : Int) (hb : Byts l) (hz : 0 ≤ z ∧ z < 256) (hi : i < l.length) (hne : z ≠ l[i]) : crc (l.set i z) ≠ crc l := by
  intro h
  refine fld_set l 4294967295 i z hb (by omega) hz hi hne ?_
  unfold crc at h
  have h2 := congrArg (fun n => 4294967295 ^^^ n) h
  simp only [← Nat.xor_assoc, Nat.xor_self, Nat.zero_xor] at h2
  exact h2
theorem byts_set {l : List Int} (hb : Byts l) (i : Nat) (z : Int) (hz : 0 ≤ z ∧ z < 256) : Byts (l.set i z) := by
  intro x hx
  rcases List.mem_or_eq_of_mem_set hx with h | h
  · exact hb x h
  · omega
/-- What was sealed and then changed in one place isn't opened. -/
theorem opened_set (l : List Int) (hb : Byts l) (i : Nat) (z : Int) (hz : 0 ≤ z ∧ z < 256) (hi : i < (l ++ tailL ((crc l : Nat) : Int)).length) (hne : z ≠ (l ++ tailL ((crc l : Nat) : Int))[i]) : opened ((l ++ tailL ((crc l : Nat) : Int)).set i z) = ([], 6) := by
  unfold opened
  rw [List.length_set, List.length_append, tailL_length, Nat.add_sub_cancel, if_neg (by omega)]
  by_cases h : i < l.length
  · rw [List.set_append_left _ _ h]
    have hl : (l.set i z).length = l.length := List.length_set
    have e1 : (l.set i z ++ tailL ((crc l : Nat) : Int)).drop l.length = tailL ((crc l : Nat) : Int) := by rw [← hl]; exact List.drop_left
    have e2 : (l.set i z ++ tailL ((crc l : Nat) : Int)).take l.length = l.set i z := by rw [← hl]; exact List.take_left
    rw [e1, e2, if_neg]
    intro h2
    have h3 := crc_lt hb
    have h4 := crc_lt (byts_set hb i z hz)
    rw [List.getElem_append_left h] at hne
    apply crc_set l i z hb hz h hne
    have := tailL_inj _ _ (by omega) (by omega) h2
    omega
  · rw [List.set_append_right _ _ (by omega)]
    have e1 : (l ++ (tailL ((crc l : Nat) : Int)).set (i - l.length) z).drop l.length = (tailL ((crc l : Nat) : Int)).set (i - l.length) z := List.drop_left
    have e2 : (l ++ (tailL ((crc l : Nat) : Int)).set (i - l.length) z).take l.length = l := List.take_left
    rw [e1, e2, if_neg]
    intro h2
    rw [List.getElem_append_right (by omega)] at hne
    have hi' : i - l.length < (tailL ((crc l : Nat) : Int)).length := by rw [List.length_append] at hi; omega
    have h3 : ((tailL ((crc l : Nat) : Int)).set (i - l.length) z)[i - l.length]? = (tailL ((crc l : Nat) : Int))[i - l.length]? := by rw [h2]
    rw [List.getElem?_set_self hi', List.getElem?_eq_getElem hi'] at h3
    injection h3 with h3
    exact hne h3
end Go.Proofs.Ytaappifdpbgchaa.Crc
