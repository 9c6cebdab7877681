import Derived.Test.YtbogbpbapgjndaaDig
import Derived.Test.YtbogbpbapgjndaaPAx4
namespace Go.Proofs.Ytbogbpbapgjndaa.Pure
open Go.RowKit Go.Proofs.Ytbogbpbapgjndaa.PA Go.Proofs.YtbogbpbapgjndaaW.PrintWords Go.Proofs.YtbogbpbapgjndaaW.PrintLast Go.Proofs.Ytbogbpbapgjndaa.Crc

theorem bits8 (a b : Int) (ha : 0 ≤ a ∧ a < 256) (hb : 0 ≤ b ∧ b < 256) : Go.bits .xor .u8 a b = ((a.toNat ^^^ b.toNat : Nat) : Int) := by
  obtain ⟨m, rfl⟩ := Int.eq_ofNat_of_zero_le ha.1
  obtain ⟨n, rfl⟩ := Int.eq_ofNat_of_zero_le hb.1
  have h : m ^^^ n < 2 ^ 8 := Nat.xor_lt_two_pow (by omega) (by omega)
  show IntKind.u8.wrap ((BitVec.ofInt 8 (m : Int) ^^^ BitVec.ofInt 8 (n : Int)).toNat : Int) = _
  rw [BitVec.toNat_xor, BitVec.ofInt_natCast, BitVec.ofInt_natCast, BitVec.toNat_ofNat, BitVec.toNat_ofNat, Nat.mod_eq_of_lt (by omega), Nat.mod_eq_of_lt (by omega), Int.toNat_natCast, Int.toNat_natCast]
  simp [IntKind.wrap, IntKind.bits, IntKind.signed]
  omega
theorem bits64 (m n : Nat) (hm : m < 4294967296) (hn : n < 4294967296) : Go.bits .xor .i64 (m : Int) (n : Int) = ((m ^^^ n : Nat) : Int) := by
  have h : m ^^^ n < 2 ^ 32 := Nat.xor_lt_two_pow (by omega) (by omega)
  show IntKind.i64.wrap ((BitVec.ofInt 64 (m : Int) ^^^ BitVec.ofInt 64 (n : Int)).toNat : Int) = _
  rw [BitVec.toNat_xor, BitVec.ofInt_natCast, BitVec.ofInt_natCast, BitVec.toNat_ofNat, BitVec.toNat_ofNat, Nat.mod_eq_of_lt (by omega), Nat.mod_eq_of_lt (by omega)]
  simp [IntKind.wrap, IntKind.bits, IntKind.signed]
  split <;> omega
/-- What the law builds. -/
def mix3 : List Int → List Int → List Int → List Int
  | x :: r, y :: s, z :: t => Go.bits .xor .u8 (Go.bits .xor .u8 x y) z :: mix3 r s t
  | _, _, _ => []
theorem mix3_is : ∀ (l m n : List Int), Byts l → Byts m → Byts n → l.length = m.length → l.length = n.length → mix3 l m n = xors (xors l m) n := by
  intro l
  induction l with
  | nil => intro m n _ _ _ _ _; cases m <;> cases n <;> rfl
  | cons x r ih =>
    intro m n hl hm hn e1 e2
    cases m with
    | nil => cases e1
    | cons y s =>
      cases n with
      | nil => cases e2
      | cons z t =>
        obtain ⟨hx, hr⟩ := byts_cons hl
        obtain ⟨hy, hs⟩ := byts_cons hm
        obtain ⟨hz, ht⟩ := byts_cons hn
        have hxy : x.toNat ^^^ y.toNat < 2 ^ 8 := Nat.xor_lt_two_pow (by omega) (by omega)
        show Go.bits .xor .u8 (Go.bits .xor .u8 x y) z :: mix3 r s t = _ :: xors (xors r s) t
        rw [ih s t hr hs ht (by simpa using e1) (by simpa using e2), bits8 x y hx hy, bits8 _ z (by omega) hz]
theorem crc_xor (l m n : List Int) (e1 : l.length = m.length) (e2 : l.length = n.length) : crc (xors (xors l m) n) = crc l ^^^ crc m ^^^ crc n := by
  unfold crc
  have h := fld_xor (xors l m) n (4294967295 ^^^ 4294967295) 4294967295 (by rw [xors_length l m e1]; exact e2)
  rw [fld_xor l m _ _ e1, Nat.xor_self, Nat.zero_xor] at h
  rw [h]
  generalize fld 4294967295 l = a
  generalize fld 4294967295 m = b
  generalize fld 4294967295 n = c
  rw [Nat.xor_assoc 4294967295 a, ← Nat.xor_assoc a 4294967295 b, Nat.xor_comm a 4294967295, Nat.xor_assoc 4294967295 a b, ← Nat.xor_assoc 4294967295 4294967295, Nat.xor_self, Nat.zero_xor, ← Nat.xor_assoc (a ^^^ b) 4294967295 c, Nat.xor_comm (a ^^^ b) 4294967295, Nat.xor_assoc 4294967295 (a ^^^ b) c]
theorem lin_loop (l m n : List Int) (hl : l.length ≤ 140737488351232) (e1 : l.length = m.length) (e2 : l.length = n.length) (bl : Byts l) (bm : Byts m) (bn : Byts n) : ∀ (s t u : List Int) (i : Nat) (k : Nat) (acc : List Int), l.drop i = s → m.drop i = t → n.drop i = u → i ≤ l.length → acc.length = i → s.length < k → acc ++ mix3 s t u = mix3 l m n → mapsheetslaw03_DigestLinear.l0 k l m n acc (i : Int) = some true := by
  intro s
  induction s with
  | nil =>
    intro t u i k acc hd _ _ hi ha hk he
    have := drop_nil hd hi
    obtain ⟨k, rfl⟩ : ∃ n, k = n + 1 := ⟨k - 1, by omega⟩
    have he' : acc = mix3 l m n := by rw [← he]; simp [mix3]
    have hc : Byts (xors (xors l m) n) := byt_xors _ _ (byt_xors _ _ bl bm) bn
    rw [mapsheetslaw03_DigestLinear.l0, if_neg (by omega), he', mix3_is l m n bl bm bn e1 e2, crc_is l bl, crc_is m bm, crc_is n bn, crc_is _ hc, crc_xor l m n e1 e2]
    simp only [Option.bind_some]
    rw [bits64 _ _ (crc_lt bl) (crc_lt bm), bits64 _ _ (Nat.xor_lt_two_pow (n := 32) (crc_lt bl) (crc_lt bm)) (crc_lt bn), if_pos rfl, awake_is]
    rfl
  | cons x r ih =>
    intro t u i k acc hd ht hu hi ha hk he
    obtain ⟨k, rfl⟩ : ∃ n, k = n + 1 := ⟨k - 1, by omega⟩
    obtain ⟨hrd, hil, hd'⟩ := rd_drop hd
    rw [List.length_cons] at hk
    cases t with
    | nil => have := drop_nil ht (by omega); omega
    | cons y t =>
      cases u with
      | nil => have := drop_nil hu (by omega); omega
      | cons z u =>
        obtain ⟨hrd2, hil2, ht'⟩ := rd_drop ht
        obtain ⟨hrd3, hil3, hu'⟩ := rd_drop hu
        rw [mapsheetslaw03_DigestLinear.l0, if_pos (by omega), if_pos (by omega), if_pos (by omega), if_pos (by omega), if_pos (by omega), hrd, hrd2, hrd3, w64 _ (by omega) (by omega), show ((i : Int) + 1) = ((i + 1 : Nat) : Int) by omega]
        exact ih t u (i + 1) k _ hd' ht' hu' (by omega) (by simp [ha]) (by omega) (by rw [List.append_assoc]; exact he)
theorem DigestLinear : mapsheetslaw03_DigestLinear.Pure := by
  intro l m n _ hl hwl _ _ hwm _ _ hwn
  have bl := byts_of_wf hwl
  have bm := byts_of_wf hwm
  have bn := byts_of_wf hwn
  refine ⟨l.length + 2, ?_⟩
  unfold mapsheetslaw03_DigestLinear.f
  by_cases e1 : l.length = m.length
  · rw [if_pos (by omega), show l.length + 2 = (l.length + 1) + 1 by omega, mapsheetslaw03_DigestLinear.j0]
    by_cases e2 : l.length = n.length
    · rw [if_neg (by simp; omega)]
      exact lin_loop l m n (by omega) e1 e2 bl bm bn l m n 0 _ [] rfl rfl rfl (Nat.zero_le _) rfl (by omega) rfl
    · rw [if_pos (by simp; omega), awake_is]
      rfl
  · rw [if_neg (by omega), show l.length + 2 = (l.length + 1) + 1 by omega, mapsheetslaw03_DigestLinear.j0, if_pos rfl, awake_is]
    rfl

end Go.Proofs.Ytbogbpbapgjndaa.Pure
