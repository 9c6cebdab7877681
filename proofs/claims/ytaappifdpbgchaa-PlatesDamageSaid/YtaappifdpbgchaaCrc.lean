/- The checksum by whole numbers: half a byte at a time, and bit by bit. -/
import Derived.Test.YtaappifdpbgchaaPAx0
import Derived.Test.YtaappifdpbgchaaPAx1
import Derived.Test.YtaappifdpbgchaaPAx9
namespace Go.Proofs.Ytaappifdpbgchaa.Crc
set_option linter.unusedVariables false
set_option linter.unusedSimpArgs false
open Go.RowKit Go.Proofs.YtaappifdpbgchaaW.PrintWords Go.Proofs.YtaappifdpbgchaaW.PrintLast Go.Proofs.Ytaappifdpbgchaa.PA

/-- One bit. -/
def stp (c : Nat) : Nat := if c % 2 = 1 then (c / 2) ^^^ 3988292384 else c / 2
def stpn : Nat → Nat → Nat
  | 0, c => c
  | n + 1, c => stpn n (stp c)
def byt (c x : Nat) : Nat := stpn 8 (c ^^^ x)
def fld : Nat → List Int → Nat
  | c, [] => c
  | c, x :: r => fld (byt c x.toNat) r

theorem stp_xor (a b : Nat) : stp (a ^^^ b) = stp a ^^^ stp b := by
  unfold stp
  have h2 : (a ^^^ b) / 2 = a / 2 ^^^ b / 2 := Nat.xor_div_two
  have hm : (a ^^^ b) % 2 = (a + b) % 2 := by
    have := @Nat.xor_mod_two_eq_one a b
    omega
  rw [h2, hm]
  by_cases ha : a % 2 = 1 <;> by_cases hb : b % 2 = 1
  · rw [if_neg (by omega), if_pos ha, if_pos hb, Nat.xor_assoc, ← Nat.xor_assoc 3988292384, Nat.xor_comm 3988292384 (b / 2), Nat.xor_assoc (b / 2), Nat.xor_self, Nat.xor_zero]
  · rw [if_pos (by omega), if_pos ha, if_neg hb, Nat.xor_assoc, Nat.xor_assoc, Nat.xor_comm 3988292384]
  · rw [if_pos (by omega), if_neg ha, if_pos hb, Nat.xor_assoc]
  · rw [if_neg (by omega), if_neg ha, if_neg hb]
theorem stpn_xor (n : Nat) : ∀ a b, stpn n (a ^^^ b) = stpn n a ^^^ stpn n b := by
  induction n with
  | zero => intro a b; rfl
  | succ n ih => intro a b; show stpn n (stp (a ^^^ b)) = _; rw [stp_xor, ih]; rfl
theorem stpn_add (m : Nat) : ∀ n c, stpn (m + n) c = stpn n (stpn m c) := by
  induction m with
  | zero => intro n c; rw [Nat.zero_add]; rfl
  | succ m ih => intro n c; rw [Nat.succ_add]; show stpn (m + n) (stp c) = _; rw [ih]; rfl
theorem stp_two (c : Nat) : stp (2 * c) = c := by unfold stp; rw [if_neg (by omega)]; omega
theorem stpn_16 (q : Nat) : stpn 4 (16 * q) = q := by
  show stp (stp (stp (stp (16 * q)))) = q
  rw [show 16 * q = 2 * (2 * (2 * (2 * q))) by omega, stp_two, stp_two, stp_two, stp_two]
theorem split16 (c : Nat) : c = (16 * (c / 16)) ^^^ (c % 16) := by
  apply Nat.eq_of_testBit_eq
  intro i
  rw [Nat.testBit_xor, show 16 * (c / 16) = 2 ^ 4 * (c / 2 ^ 4) by omega, show c % 16 = c % 2 ^ 4 by omega, Nat.testBit_mod_two_pow, Nat.testBit_two_pow_mul, Nat.testBit_div_two_pow]
  by_cases h : i < 4
  · rw [decide_eq_false (by omega), decide_eq_true h]; simp
  · rw [decide_eq_true (by omega), decide_eq_false h, Nat.sub_add_cancel (by omega)]; simp
theorem stpn_4 (c : Nat) : stpn 4 c = c / 16 ^^^ stpn 4 (c % 16) := by
  conv => lhs; rw [split16 c]
  rw [stpn_xor, stpn_16]
theorem stp_lt {c : Nat} (h : c < 4294967296) : stp c < 4294967296 := by
  unfold stp
  split
  · exact Nat.xor_lt_two_pow (n := 32) (by omega) (by omega)
  · omega
theorem stpn_lt (n : Nat) : ∀ {c}, c < 4294967296 → stpn n c < 4294967296 := by
  induction n with
  | zero => intro c h; exact h
  | succ n ih => intro c h; exact ih (stp_lt h)
theorem byt_lt {c x : Nat} (h : c < 4294967296) (hx : x < 256) : byt c x < 4294967296 := stpn_lt 8 (Nat.xor_lt_two_pow (n := 32) (by omega) (by omega))
def Byts (l : List Int) : Prop := ∀ x ∈ l, 0 ≤ x ∧ x < 256
theorem byts_cons {x : Int} {l : List Int} (h : Byts (x :: l)) : (0 ≤ x ∧ x < 256) ∧ Byts l := ⟨h x List.mem_cons_self, fun y hy => h y (List.mem_cons_of_mem _ hy)⟩
theorem fld_lt : ∀ (l : List Int) {c : Nat}, Byts l → c < 4294967296 → fld c l < 4294967296 := by
  intro l
  induction l with
  | nil => intro c _ h; exact h
  | cons x r ih => intro c hb h; obtain ⟨hx, hr⟩ := byts_cons hb; exact ih hr (byt_lt h (by omega))

/-! the words of the program -/
theorem bits_nat (m n : Nat) (hm : m < 4294967296) (hn : n < 4294967296) : Go.bits .xor .u32 (m : Int) (n : Int) = ((m ^^^ n : Nat) : Int) := by
  have h : m ^^^ n < 2 ^ 32 := Nat.xor_lt_two_pow (by omega) (by omega)
  show IntKind.u32.wrap ((BitVec.ofInt 32 (m : Int) ^^^ BitVec.ofInt 32 (n : Int)).toNat : Int) = _
  rw [IntKind.wrap_u32, BitVec.toNat_xor, BitVec.ofInt_natCast, BitVec.ofInt_natCast, BitVec.toNat_ofNat, BitVec.toNat_ofNat, Nat.mod_eq_of_lt (by omega), Nat.mod_eq_of_lt (by omega)]
  omega
theorem tabA_is (i : Nat) (h : i < 16) : tabA (i : Int) = ((stpn 4 i : Nat) : Int) := by
  rcases lt16 h with rfl | rfl | rfl | rfl | rfl | rfl | rfl | rfl | rfl | rfl | rfl | rfl | rfl | rfl | rfl | rfl <;> decide +kernel
theorem nibS_is (c x : Nat) (hc : c < 4294967296) (hx : x < 256) : nibS (c : Int) (x : Int) = ((stpn 4 (c ^^^ x) ^^^ (x / 16) : Nat) : Int) := by
  have hcx : c ^^^ x < 4294967296 := Nat.xor_lt_two_pow (n := 32) (by omega) (by omega)
  unfold nibS
  rw [bits_nat c x hc (by omega), and15 _ ⟨by omega, by omega⟩, show (((c ^^^ x : Nat) : Int) % 16) = (((c ^^^ x) % 16 : Nat) : Int) by omega, tabA_is _ (by omega), show ((c : Int) / 16) = ((c / 16 : Nat) : Int) by omega, bits_nat _ _ (by omega) (stpn_lt 4 (by omega)), stpn_4 (c ^^^ x)]
  congr 1
  have hd : (c ^^^ x) / 16 = c / 16 ^^^ x / 16 := Nat.xor_div_two_pow (n := 4)
  rw [hd, Nat.xor_assoc (c / 16), Nat.xor_assoc (c / 16), Nat.xor_comm (x / 16), Nat.xor_assoc _ (x / 16), Nat.xor_self, Nat.xor_zero]
theorem byteS_is (c x : Nat) (hc : c < 4294967296) (hx : x < 256) : byteS (c : Int) (x : Int) = ((byt c x : Nat) : Int) := by
  unfold byteS
  have h4 : stpn 4 (c ^^^ x) < 4294967296 := stpn_lt 4 (Nat.xor_lt_two_pow (n := 32) (by omega) (by omega))
  rw [nibS_is c x hc hx, show ((x : Int) / 16) = ((x / 16 : Nat) : Int) by omega, nibS_is _ _ (Nat.xor_lt_two_pow (n := 32) (by omega) (by omega)) (by omega)]
  rw [Nat.xor_assoc (stpn 4 _), Nat.xor_self, Nat.xor_zero, ← stpn_add, show x / 16 / 16 = 0 by omega, Nat.xor_zero]
  rfl
theorem foldS_is : ∀ (l : List Int) (c : Nat), Byts l → c < 4294967296 → foldS (c : Int) l = ((fld c l : Nat) : Int) := by
  intro l
  induction l with
  | nil => intro c _ _; rfl
  | cons x r ih =>
    intro c hb hc
    obtain ⟨hx, hr⟩ := byts_cons hb
    obtain ⟨n, rfl⟩ := Int.eq_ofNat_of_zero_le hx.1
    show foldS (byteS (c : Int) (n : Int)) r = _
    rw [byteS_is c n hc (by omega), ih _ hr (byt_lt hc (by omega))]
    rfl
/-- The checksum. -/
def crc (l : List Int) : Nat := 4294967295 ^^^ fld 4294967295 l
theorem crc_lt {l : List Int} (hb : Byts l) : crc l < 4294967296 := Nat.xor_lt_two_pow (n := 32) (by omega) (fld_lt l hb (by omega))
theorem sum_is (l : List Int) (hb : Byts l) : digest_sum.f l = some ((crc l : Nat) : Int) := by
  unfold digest_sum.f
  rw [if_pos (List.all_eq_true.2 fun x hx => by have := hb x hx; simp; omega), show (4294967295 : Int) = ((4294967295 : Nat) : Int) from rfl, foldS_is l _ hb (by omega), bits_nat _ _ (by omega) (fld_lt l hb (by omega))]
  rfl
theorem w64 (n : Int) (h0 : -9223372036854775808 ≤ n) (h1 : n ≤ 9223372036854775807) : wrap64 n = n := by unfold wrap64; omega
theorem byts_of_wf {l : List Int} (h : ∀ x ∈ l, (Lit.int .u8 x).wf = true) : Byts l := by
  intro x hx
  have := h x hx
  simp [Lit.wf, IntKind.min, IntKind.max, IntKind.bits, IntKind.signed] at this
  omega

/-! the plain one -/
theorem ref_bits : ∀ (m : Nat) (k : Nat) (l : List Int) (c : Nat) (i : Int), m ≤ 8 → c < 4294967296 → mapsheetsref03_Crc.l1 (k + m + 1) l (c : Int) i ((8 - m : Nat) : Int) = mapsheetsref03_Crc.l0 k l ((stpn m c : Nat) : Int) (wrap64 (i + 1)) := by
  intro m
  induction m with
  | zero =>
    intro k l c i _ _
    rw [Nat.add_zero, mapsheetsref03_Crc.l1, if_neg (by omega)]
    rfl
  | succ m ih =>
    intro k l c i hm hc
    have e1 : Int.tmod (c : Int) 2 = ((c % 2 : Nat) : Int) := by rw [Int.tmod_eq_emod_of_nonneg (by omega)]; omega
    have e2 : (Int.tdiv (c : Int) 2) % 4294967296 = ((c / 2 : Nat) : Int) := by rw [Int.tdiv_eq_ediv_of_nonneg (by omega)]; omega
    have e3 : wrap64 (((8 - (m + 1) : Nat) : Int) + 1) = ((8 - m : Nat) : Int) := by rw [w64 _ (by omega) (by omega)]; omega
    have hs := stp_lt hc
    rw [show k + (m + 1) + 1 = (k + m + 1) + 1 by omega, mapsheetsref03_Crc.l1, if_pos (by omega), e1, e2, e3]
    show _ = mapsheetsref03_Crc.l0 k l ((stpn m (stp c) : Nat) : Int) (wrap64 (i + 1))
    rw [← ih k l (stp c) i (by omega) hs]
    unfold stp
    by_cases ho : c % 2 = 1
    · rw [if_pos (by omega), if_pos ho, show (3988292384 : Int) = ((3988292384 : Nat) : Int) from rfl, bits_nat _ _ (by omega) (by omega)]
    · rw [if_neg (by omega), if_neg ho]
theorem rd_drop {l s : List Int} {x : Int} {i : Nat} (h : l.drop i = x :: s) : rd l (i : Int) = x ∧ i < l.length ∧ l.drop (i + 1) = s := by
  have hl : i < l.length := by
    have := congrArg List.length h
    rw [List.length_drop, List.length_cons] at this
    omega
  have h2 := List.drop_eq_getElem_cons hl
  rw [h] at h2
  injection h2 with h3 h4
  refine ⟨?_, hl, h4.symm⟩
  unfold rd
  rw [Int.toNat_natCast, List.getD_eq_getElem?_getD, List.getElem?_eq_getElem hl]
  exact h3.symm
theorem drop_nil {l : List Int} {i : Nat} (h : l.drop i = []) (hi : i ≤ l.length) : i = l.length := by
  have := congrArg List.length h
  rw [List.length_drop, List.length_nil] at this
  omega
theorem ref_loop (l : List Int) (hl : l.length ≤ 9223372036854775806) : ∀ (s : List Int) (i : Nat) (c : Nat), l.drop i = s → i ≤ l.length → Byts s → c < 4294967296 → mapsheetsref03_Crc.l0 (10 * s.length + 1) l (c : Int) (i : Int) = some (((4294967295 ^^^ fld c s : Nat)) : Int) := by
  intro s
  induction s with
  | nil =>
    intro i c hd hi hb hc
    have := drop_nil hd hi
    have hx : 4294967295 ^^^ c < 4294967296 := Nat.xor_lt_two_pow (n := 32) (by omega) (by omega)
    rw [mapsheetsref03_Crc.l0, if_neg (by omega), show (IntKind.u32.max : Int) = ((4294967295 : Nat) : Int) from rfl, bits_nat _ _ (by omega) hc, w64 _ (by omega) (by omega)]
    rfl
  | cons x r ih =>
    intro i c hd hi hb hc
    obtain ⟨hx, hr⟩ := byts_cons hb
    obtain ⟨hrd, hil, hd'⟩ := rd_drop hd
    obtain ⟨n, rfl⟩ := Int.eq_ofNat_of_zero_le hx.1
    have hcx : c ^^^ n < 4294967296 := Nat.xor_lt_two_pow (n := 32) (by omega) (by omega)
    rw [List.length_cons, show 10 * (r.length + 1) + 1 = (10 * r.length + 1 + 8 + 1) + 1 by omega, mapsheetsref03_Crc.l0, if_pos (by omega), if_pos (by omega), hrd, show ((n : Int) % 4294967296) = (n : Int) by omega, bits_nat _ _ hc (by omega)]
    have := ref_bits 8 (10 * r.length + 1) l (c ^^^ n) (i : Int) (by omega) hcx
    rw [show ((8 - 8 : Nat) : Int) = 0 from rfl] at this
    rw [this, w64 _ (by omega) (by omega)]
    exact ih (i + 1) _ hd' (by omega) hr (byt_lt hc (by omega))
theorem ref_is (l : List Int) (hl : l.length ≤ 9223372036854775806) (hb : Byts l) : mapsheetsref03_Crc.f (10 * l.length + 1) l = some ((crc l : Nat) : Int) :=
  ref_loop l hl l 0 4294967295 rfl (Nat.zero_le _) hb (by omega)

theorem leo_up {α} {f : Nat → Option α} (hm : ∀ k, LeO (f k) (f (k + 1))) {j : Nat} {v : α} (h : f j = some v) : ∀ k, j ≤ k → f k = some v := by
  intro k hk
  obtain ⟨d, rfl⟩ := Nat.exists_eq_add_of_le hk
  induction d with
  | zero => exact h
  | succ d ih => exact hm _ _ (ih (by omega))
theorem ref_at (l : List Int) (hl : l.length ≤ 9223372036854775806) (hb : Byts l) (k : Nat) (hk : 10 * l.length + 1 ≤ k) : mapsheetsref03_Crc.f k l = some ((crc l : Nat) : Int) :=
  leo_up (fun k => mapsheetsref03_Crc.mono l k) (ref_is l hl hb) k hk

/-! linearity -/
def xors : List Int → List Int → List Int
  | x :: r, y :: s => ((x.toNat ^^^ y.toNat : Nat) : Int) :: xors r s
  | _, _ => []
theorem byt_xor (a b x y : Nat) : byt (a ^^^ b) (x ^^^ y) = byt a x ^^^ byt b y := by
  unfold byt
  rw [← stpn_xor]
  congr 1
  rw [Nat.xor_assoc, Nat.xor_assoc, ← Nat.xor_assoc b, Nat.xor_comm b x, Nat.xor_assoc x]
theorem fld_xor : ∀ (l m : List Int) (a b : Nat), l.length = m.length → fld (a ^^^ b) (xors l m) = fld a l ^^^ fld b m := by
  intro l
  induction l with
  | nil => intro m a b h; cases m with
    | nil => rfl
    | cons y s => cases h
  | cons x r ih =>
    intro m a b h
    cases m with
    | nil => cases h
    | cons y s =>
      show fld (byt (a ^^^ b) ((x.toNat ^^^ y.toNat : Nat) : Int).toNat) (xors r s) = fld (byt a x.toNat) r ^^^ fld (byt b y.toNat) s
      rw [Int.toNat_natCast, byt_xor, ih _ _ _ (by simpa using h)]
theorem xors_length : ∀ (l m : List Int), l.length = m.length → (xors l m).length = l.length := by
  intro l
  induction l with
  | nil => intro m h; cases m <;> simp_all [xors]
  | cons x r ih => intro m h; cases m with
    | nil => cases h
    | cons y s => show (xors r s).length + 1 = r.length + 1; rw [ih _ (by simpa using h)]
theorem byt_xors : ∀ (l m : List Int), Byts l → Byts m → Byts (xors l m) := by
  intro l
  induction l with
  | nil => intro m _ _ x hx; cases m <;> simp [xors] at hx
  | cons x r ih =>
    intro m hl hm
    cases m with
    | nil => intro z hz; simp [xors] at hz
    | cons y s =>
      obtain ⟨hx, hr⟩ := byts_cons hl
      obtain ⟨hy, hs⟩ := byts_cons hm
      intro z hz
      rcases List.mem_cons.1 hz with rfl | hz
      · have : x.toNat ^^^ y.toNat < 2 ^ 8 := Nat.xor_lt_two_pow (by omega) (by omega)
        omega
      · exact ih s hr hs z hz
end Go.Proofs.Ytaappifdpbgchaa.Crc
