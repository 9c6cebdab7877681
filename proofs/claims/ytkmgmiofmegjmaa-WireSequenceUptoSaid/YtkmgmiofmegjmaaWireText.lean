/- Strings and lists: what the Go text and the reference read and write, as plain Lean functions. -/
import Derived.Test.YtkmgmiofmegjmaaWireDec
import Derived.Test.YtkmgmiofmegjmaaPAx5
namespace Go.Proofs.Ytkmgmiofmegjmaa.Wire
open Go.RowKit Go.Proofs.YtkmgmiofmegjmaaW.PrintWords Go.Proofs.YtkmgmiofmegjmaaW.PrintLast Go.Proofs.YtkmgmiofmegjmaaW.PrintMore Go.Proofs.Ytkmgmiofmegjmaa.PA

theorem w64_succ (i : Nat) (h : i < 4611686018427387904) : wrap64 ((i : Int) + 1) = ((i + 1 : Nat) : Int) := by rw [w64 _ (by omega) (by omega)]; omega
theorem w64_add (i j : Nat) (h : i + j < 4611686018427387904) : wrap64 ((i : Int) + (j : Int)) = ((i + j : Nat) : Int) := by rw [w64 _ (by omega) (by omega)]; omega
def lenS (l : List Int) (m : Int) : Int × Int × Int :=
  if (vdec l 0 0).2.2 = 0 then (if (vdec l 0 0).1 < 0 then (0, 0, 4) else if (vdec l 0 0).1 > mx m 0 then (0, 0, 3) else ((vdec l 0 0).1, (vdec l 0 0).2.1, 0)) else (0, 0, (vdec l 0 0).2.2)
theorem wlen_is (l : List Int) (m : Int) (hb : Bytes l) (k : Nat) (hk : l.length < k) : wire_length.f k l m = some (lenS l m) := by
  unfold wire_length.f lenS
  rw [wire_Int_is l hb k hk, Option.bind_some]
  split
  · split
    · rfl
    · split <;> rfl
  · rfl
theorem rlen_is (l : List Int) (m : Int) (hb : Bytes l) (k : Nat) (hk : l.length + 20 < k) : mapsheetsref02_length.f k l m = some (lenS l m) := by
  unfold mapsheetsref02_length.f lenS
  rw [ref_Int_is l hb k hk, Option.bind_some]
  split
  · split
    · rfl
    · split <;> rfl
  · rfl
theorem vdec_parts {l : List Int} (hb : Bytes l) (h : (vdec l 0 0).2.2 = 0) : ∃ n rest, I64 n ∧ l = enc n ++ rest ∧ vdec l 0 0 = (n, ((enc n).length : Int), 0) := by
  have e : vdec l 0 0 = ((vdec l 0 0).1, (vdec l 0 0).2.1, 0) := Prod.ext rfl (Prod.ext rfl h)
  obtain ⟨h1, h2, rest, h3⟩ := vdec_unique hb e
  exact ⟨_, rest, h1, h3, by rw [← h2]; exact e⟩
/-- Where a length is read. -/
theorem lenS_ok {l : List Int} {m : Int} (hb : Bytes l) (h : (lenS l m).2.2 = 0) : ∃ (n : Nat) (rest : List Int), (n : Int) ≤ 9223372036854775807 ∧ (n : Int) ≤ mx m 0 ∧ l = enc n ++ rest ∧ lenS l m = ((n : Int), ((enc n).length : Int), 0) := by
  unfold lenS at h ⊢
  by_cases h0 : (vdec l 0 0).2.2 = 0
  · obtain ⟨n, rest, hn, hl, hv⟩ := vdec_parts hb h0
    rw [if_pos h0] at h ⊢
    rw [hv] at h ⊢
    simp only at h ⊢
    by_cases h1 : n < 0
    · rw [if_pos h1] at h; simp at h
    · rw [if_neg h1] at h ⊢
      by_cases h2 : n > mx m 0
      · rw [if_pos h2] at h; simp at h
      · rw [if_neg h2]
        obtain ⟨N, rfl⟩ := Int.eq_ofNat_of_zero_le (show 0 ≤ n by omega)
        exact ⟨N, rest, hn.2, by omega, hl, rfl⟩
  · rw [if_neg h0] at h
    exact absurd h h0
theorem lenS_bad {l : List Int} {m : Int} (h : ¬ (lenS l m).2.2 = 0) : lenS l m = (0, 0, (lenS l m).2.2) := by
  unfold lenS at h ⊢
  split
  · split
    · rfl
    · split
      · rfl
      · rename_i h0 h1 h2
        rw [if_pos h0, if_neg h1, if_neg h2] at h
        exact absurd rfl h
  · rfl

def textS (l : List Int) (m : Int) : ByteArray × Int × Int :=
  if (lenS l m).2.2 = 0 then (if (l.length : Int) - (lenS l m).2.1 < (lenS l m).1 then ((⟨#[]⟩ : ByteArray), 0, 5) else (strOfNums ((l.take ((lenS l m).2.1 + (lenS l m).1).toNat).drop ((lenS l m).2.1).toNat), (lenS l m).2.1 + (lenS l m).1, 0)) else ((⟨#[]⟩ : ByteArray), 0, (lenS l m).2.2)
theorem wtext_is (l : List Int) (m : Int) (hb : Bytes l) (hl : l.length ≤ 140737488351232) (k : Nat) (hk : l.length < k) : wire_Text.f k l m = some (textS l m) := by
  unfold wire_Text.f textS
  rw [wlen_is l m hb k hk, Option.bind_some]
  by_cases h : (lenS l m).2.2 = 0
  · obtain ⟨n, rest, hn1, hn2, he, hv⟩ := lenS_ok hb h
    have hlen : l.length = (enc n).length + rest.length := by rw [he, List.length_append]
    rw [hv]
    simp only
    rw [if_pos trivial, if_pos trivial, w64 ((l.length : Int) - ((enc n).length : Int)) (by omega) (by omega)]
    by_cases h2 : (l.length : Int) - ((enc (n : Int)).length : Int) < (n : Int)
    · rw [if_pos h2, if_pos h2]
    · rw [if_neg h2, if_neg h2, w64 (((enc (n : Int)).length : Int) + (n : Int)) (by omega) (by omega), if_pos (by omega), if_pos (by omega), if_pos (by omega)]
  · rw [if_neg h, if_neg h]
theorem rtext_is (l : List Int) (m : Int) (hb : Bytes l) (hl : l.length ≤ 140737488351232) (k : Nat) (hk : l.length + 20 < k) : mapsheetsref02_Text.f k l m = some (textS l m) := by
  unfold mapsheetsref02_Text.f textS
  rw [rlen_is l m hb k hk, Option.bind_some]
  by_cases h : (lenS l m).2.2 = 0
  · obtain ⟨n, rest, hn1, hn2, he, hv⟩ := lenS_ok hb h
    have hlen : l.length = (enc n).length + rest.length := by rw [he, List.length_append]
    rw [hv]
    simp only
    rw [if_pos trivial, if_pos trivial, w64 ((l.length : Int) - ((enc n).length : Int)) (by omega) (by omega)]
    by_cases h2 : (l.length : Int) - ((enc (n : Int)).length : Int) < (n : Int)
    · rw [if_pos h2, if_pos h2]
    · rw [if_neg h2, if_neg h2, w64 (((enc (n : Int)).length : Int) + (n : Int)) (by omega) (by omega), if_pos (by omega), if_pos (by omega), if_pos (by omega)]
  · rw [if_neg h, if_neg h]

theorem i64_nat {n : Nat} (h : (n : Int) ≤ 9223372036854775807) : I64 (n : Int) := ⟨by omega, h⟩
theorem wputtext_is (l : List Int) (s : ByteArray) (h : l.length + s.size + 10 < 140737488355328) : wire_PutText.f l s = some (l ++ enc (s.size : Int) ++ bytesOf s) := by
  have := enc_length (s.size : Int)
  unfold wire_PutText.f
  rw [wput_is l _ (i64_nat (by omega)) (by omega), Option.bind_some, if_pos (by rw [List.length_append]; omega)]
theorem rputtext_is (l : List Int) (s : ByteArray) (h : l.length + s.size + 10 < 140737488355328) (k : Nat) (hk : 20 < k) : mapsheetsref02_PutText.f k l s = some (l ++ enc (s.size : Int) ++ bytesOf s) := by
  have := enc_length (s.size : Int)
  unfold mapsheetsref02_PutText.f
  rw [put_is l _ (i64_nat (by omega)) (by omega) k hk, Option.bind_some, if_pos (by rw [List.length_append]; omega)]

/-- The encodings of a list's elements, one behind the other. -/
def encs_ : List Int → List Int
  | [] => []
  | x :: r => enc x ++ encs_ r
theorem encs_append (a b : List Int) : encs_ (a ++ b) = encs_ a ++ encs_ b := by
  induction a with
  | nil => rfl
  | cons x r ih => simp [encs_, ih]
theorem encs_length_le (a : List Int) : (encs_ a).length ≤ 10 * a.length := by
  induction a with
  | nil => simp [encs_]
  | cons x r ih => have := enc_length x; simp only [encs_, List.length_append, List.length_cons]; omega

theorem wputlist_loop (l : List Int) (hI : ∀ x ∈ l, I64 x) (hn : l.length ≤ 1099511627776) : ∀ (s : List Int) (i k : Nat) (acc : List Int), l.drop i = s → i ≤ l.length → s.length < k → acc.length + 10 * s.length + 10 < 140737488355328 →
    wire_PutList.l0 k acc l (l.length : Int) (i : Int) = some (acc ++ encs_ s) := by
  intro s
  induction s with
  | nil =>
    intro i k acc hd hi hk hl
    obtain ⟨k, rfl⟩ : ∃ m, k = m + 1 := ⟨k - 1, by omega⟩
    have := drop_nil hd hi
    simp only [wire_PutList.l0, encs_]
    rw [if_neg (by omega), List.append_nil]
  | cons x s ih =>
    intro i k acc hd hi hk hl
    simp only [List.length_cons] at hk hl
    obtain ⟨k, rfl⟩ : ∃ m, k = m + 1 := ⟨k - 1, by omega⟩
    obtain ⟨h1, h2, h3⟩ := rd_drop hd
    have hx : I64 x := hI x (by rw [← List.take_append_drop i l, hd]; simp)
    have hwi : wrap64 ((i : Int) + 1) = ((i + 1 : Nat) : Int) := by rw [w64 _ (by omega) (by omega)]; omega
    have he := enc_length x
    simp only [wire_PutList.l0]
    rw [if_pos (by omega), if_pos (by omega), if_pos (by omega), h1, wput_is acc x hx (by omega), Option.bind_some, hwi, ih (i + 1) k _ h3 (by omega) (by omega) (by rw [List.length_append]; omega)]
    simp [encs_]
theorem wputlist_is (b l : List Int) (hI : ∀ x ∈ l, I64 x) (hn : l.length ≤ 1099511627776) (h : b.length + 10 * l.length + 20 < 140737488355328) (k : Nat) (hk : l.length < k) : wire_PutList.f k b l = some (b ++ enc (l.length : Int) ++ encs_ l) := by
  have he := enc_length (l.length : Int)
  unfold wire_PutList.f
  rw [wput_is b _ (i64_nat (by omega)) (by omega), Option.bind_some]
  exact wputlist_loop l hI hn l 0 k _ rfl (by omega) hk (by rw [List.length_append]; omega)
theorem rputlist_loop (l : List Int) (hI : ∀ x ∈ l, I64 x) (hn : l.length ≤ 1099511627776) : ∀ (s : List Int) (i k : Nat) (acc : List Int), l.drop i = s → i ≤ l.length → s.length + 21 < k → acc.length + 10 * s.length + 10 < 140737488355328 →
    mapsheetsref02_PutList.l0 k l acc (i : Int) = some (acc ++ encs_ s) := by
  intro s
  induction s with
  | nil =>
    intro i k acc hd hi hk hl
    obtain ⟨k, rfl⟩ : ∃ m, k = m + 1 := ⟨k - 1, by omega⟩
    have := drop_nil hd hi
    simp only [mapsheetsref02_PutList.l0, encs_]
    rw [if_neg (by omega), List.append_nil]
  | cons x s ih =>
    intro i k acc hd hi hk hl
    simp only [List.length_cons] at hk hl
    obtain ⟨k, rfl⟩ : ∃ m, k = m + 1 := ⟨k - 1, by omega⟩
    obtain ⟨h1, h2, h3⟩ := rd_drop hd
    have hx : I64 x := hI x (by rw [← List.take_append_drop i l, hd]; simp)
    have hwi : wrap64 ((i : Int) + 1) = ((i + 1 : Nat) : Int) := by rw [w64 _ (by omega) (by omega)]; omega
    have he := enc_length x
    simp only [mapsheetsref02_PutList.l0]
    rw [if_pos (by omega), if_pos (by omega), h1, put_is [] x hx (by simp) k (by omega), Option.bind_some, List.nil_append, if_pos (by omega), hwi, ih (i + 1) k _ h3 (by omega) (by omega) (by rw [List.length_append]; omega)]
    simp [encs_]
theorem rputlist_is (b l : List Int) (hI : ∀ x ∈ l, I64 x) (hn : l.length ≤ 1099511627776) (h : b.length + 10 * l.length + 20 < 140737488355328) (k : Nat) (hk : l.length + 21 < k) : mapsheetsref02_PutList.f k b l = some (b ++ enc (l.length : Int) ++ encs_ l) := by
  have he := enc_length (l.length : Int)
  unfold mapsheetsref02_PutList.f
  rw [put_is b _ (i64_nat (by omega)) (by omega) k (by omega), Option.bind_some]
  exact rputlist_loop l hI hn l 0 k _ rfl (by omega) hk (by rw [List.length_append]; omega)

/-- Reading a list's elements: how many are left, the bytes that are left, the bytes used, the elements so far. -/
def listL : Nat → List Int → Int → List Int → List Int × Int × Int
  | 0, _, u, acc => (acc, u, 0)
  | c + 1, s, u, acc => if (vdec s 0 0).2.2 = 0 then listL c (s.drop (vdec s 0 0).2.1.toNat) (u + (vdec s 0 0).2.1) (acc ++ [(vdec s 0 0).1]) else ([], 0, (vdec s 0 0).2.2)
def listS (l : List Int) (m : Int) : List Int × Int × Int :=
  if (lenS l m).2.2 = 0 then listL (lenS l m).1.toNat (l.drop (lenS l m).2.1.toNat) (lenS l m).2.1 [] else ([], 0, (lenS l m).2.2)
theorem bytes_drop {l : List Int} (h : Bytes l) (n : Nat) : Bytes (l.drop n) := fun x hx => h x (List.mem_of_mem_drop hx)
theorem enc_pos (n : Int) : 1 ≤ (enc n).length := venc_pos 9 _

theorem wlist_loop (l : List Int) (hb : Bytes l) (hl : l.length ≤ 1099511627776) (n : Int) (hn : n ≤ 9223372036854775807) : ∀ (d c u i k : Nat) (acc : List Int), l.length - u = d → u ≤ l.length → (i : Int) + c = n → i ≤ u → acc.length = i → d + l.length + 2 < k →
    wire_List.l0 k l acc (u : Int) n (i : Int) = some (listL c (l.drop u) (u : Int) acc) := by
  intro d
  induction d using Nat.strongRecOn with
  | ind d ih =>
    intro c u i k acc hd hu hc hi ha hk
    obtain ⟨k, rfl⟩ : ∃ m, k = m + 1 := ⟨k - 1, by omega⟩
    simp only [wire_List.l0]
    cases c with
    | zero => rw [if_neg (by omega)]; rfl
    | succ c =>
      rw [if_pos (by omega), if_pos (by omega), if_pos (by omega), Int.toNat_natCast, wire_Int_is _ (bytes_drop hb u) k (by rw [List.length_drop]; omega), Option.bind_some]
      simp only [listL]
      by_cases h : (vdec (l.drop u) 0 0).2.2 = 0
      · obtain ⟨x, rest, hx, he, hv⟩ := vdec_parts (bytes_drop hb u) h
        rw [if_pos h, if_pos h, hv]
        simp only
        clear h hv
        have hp := enc_pos x
        have hle0 : (l.drop u).length = (enc x).length + rest.length := by rw [he, List.length_append]
        rw [List.length_drop] at hle0
        clear he
        generalize (enc x).length = L at *
        have hle : L ≤ l.length - u := by omega
        have hacc : acc.length < 17592186044416 := by omega
        rw [if_pos hacc, w64_succ i (by omega), w64_add u L (by omega), Int.toNat_natCast, List.drop_drop]
        rw [ih (l.length - (u + L)) (by omega) c (u + L) (i + 1) k _ rfl (by omega) (by omega) (by omega) (by simp [ha]) (by omega)]
        congr 2
      · rw [if_neg h, if_neg h]
theorem wlist_is (l : List Int) (m : Int) (hb : Bytes l) (hl : l.length ≤ 1099511627776) (k : Nat) (hk : 2 * l.length + 3 < k) : wire_List.f k l m = some (listS l m) := by
  unfold wire_List.f listS
  rw [wlen_is l m hb k (by omega), Option.bind_some]
  by_cases h : (lenS l m).2.2 = 0
  · obtain ⟨n, rest, hn1, hn2, he, hv⟩ := lenS_ok hb h
    have hlen : l.length = (enc n).length + rest.length := by rw [he, List.length_append]
    rw [hv]
    simp only
    rw [if_pos trivial, if_pos trivial, Int.toNat_natCast, Int.toNat_natCast]
    exact wlist_loop l hb hl n hn1 _ n _ 0 k [] rfl (by omega) (by omega) (by omega) rfl (by omega)
  · rw [if_neg h, if_neg h]
theorem rlist_loop (l : List Int) (hb : Bytes l) (hl : l.length ≤ 1099511627776) (n : Int) (hn : n ≤ 9223372036854775807) : ∀ (d c u i k : Nat) (acc : List Int), l.length - u = d → u ≤ l.length → (i : Int) + c = n → i ≤ u → acc.length = i → d + l.length + 22 < k →
    mapsheetsref02_List.l0 k l n (u : Int) acc (i : Int) = some (listL c (l.drop u) (u : Int) acc) := by
  intro d
  induction d using Nat.strongRecOn with
  | ind d ih =>
    intro c u i k acc hd hu hc hi ha hk
    obtain ⟨k, rfl⟩ : ∃ m, k = m + 1 := ⟨k - 1, by omega⟩
    simp only [mapsheetsref02_List.l0]
    cases c with
    | zero => rw [if_neg (by omega)]; rfl
    | succ c =>
      rw [if_pos (by omega), if_pos (by omega), if_pos (by omega), Int.toNat_natCast, ref_Int_is _ (bytes_drop hb u) k (by rw [List.length_drop]; omega), Option.bind_some]
      simp only [listL]
      by_cases h : (vdec (l.drop u) 0 0).2.2 = 0
      · obtain ⟨x, rest, hx, he, hv⟩ := vdec_parts (bytes_drop hb u) h
        rw [if_pos h, if_pos h, hv]
        simp only
        clear h hv
        have hp := enc_pos x
        have hle0 : (l.drop u).length = (enc x).length + rest.length := by rw [he, List.length_append]
        rw [List.length_drop] at hle0
        clear he
        generalize (enc x).length = L at *
        have hle : L ≤ l.length - u := by omega
        have hacc : acc.length < 17592186044416 := by omega
        rw [if_pos hacc, w64_succ i (by omega), w64_add u L (by omega), Int.toNat_natCast, List.drop_drop]
        rw [ih (l.length - (u + L)) (by omega) c (u + L) (i + 1) k _ rfl (by omega) (by omega) (by omega) (by simp [ha]) (by omega)]
        congr 2
      · rw [if_neg h, if_neg h]
theorem rlist_is (l : List Int) (m : Int) (hb : Bytes l) (hl : l.length ≤ 1099511627776) (k : Nat) (hk : 2 * l.length + 23 < k) : mapsheetsref02_List.f k l m = some (listS l m) := by
  unfold mapsheetsref02_List.f listS
  rw [rlen_is l m hb k (by omega), Option.bind_some]
  by_cases h : (lenS l m).2.2 = 0
  · obtain ⟨n, rest, hn1, hn2, he, hv⟩ := lenS_ok hb h
    have hlen : l.length = (enc n).length + rest.length := by rw [he, List.length_append]
    rw [hv]
    simp only
    rw [if_pos trivial, if_pos trivial, Int.toNat_natCast, Int.toNat_natCast]
    exact rlist_loop l hb hl n hn1 _ n _ 0 k [] rfl (by omega) (by omega) (by omega) rfl (by omega)
  · rw [if_neg h, if_neg h]

theorem sameints_refl_l0 (a : List Int) (hn : a.length ≤ 4611686018427387904) : ∀ (d k i : Nat), a.length - i = d → i ≤ a.length → d < k → mapsheetsref02_SameInts.l0 k a a (i : Int) = some true := by
  intro d
  induction d with
  | zero =>
    intro k i hd hi hk
    obtain ⟨k, rfl⟩ : ∃ m, k = m + 1 := ⟨k - 1, by omega⟩
    simp only [mapsheetsref02_SameInts.l0]
    rw [if_neg (by omega)]
  | succ d ih =>
    intro k i hd hi hk
    obtain ⟨k, rfl⟩ : ∃ m, k = m + 1 := ⟨k - 1, by omega⟩
    simp only [mapsheetsref02_SameInts.l0]
    rw [if_pos (by omega), if_pos (by omega), if_pos (by omega), if_pos trivial, w64_succ i (by omega)]
    exact ih k (i + 1) (by omega) (by omega) (by omega)
theorem sameints_refl (a : List Int) (hn : a.length ≤ 4611686018427387904) (k : Nat) (hk : a.length < k) : mapsheetsref02_SameInts.f k a a = some true := by
  unfold mapsheetsref02_SameInts.f
  rw [if_pos rfl]
  exact sameints_refl_l0 a hn a.length k 0 (by omega) (by omega) hk
/-- A list that is read has at most as many elements as there are bytes. -/
theorem listL_length : ∀ (c : Nat) (s acc : List Int) (u : Int), Bytes s → (listL c s u acc).1.length ≤ acc.length + s.length := by
  intro c
  induction c with
  | zero => intro s acc u _; simp [listL]
  | succ c ih =>
    intro s acc u hb
    simp only [listL]
    by_cases h : (vdec s 0 0).2.2 = 0
    · obtain ⟨x, rest, hx, he, hv⟩ := vdec_parts hb h
      rw [if_pos h, hv]
      simp only
      clear h hv
      have hp := enc_pos x
      have hl : s.length = (enc x).length + rest.length := by rw [he, List.length_append]
      have := ih (s.drop (enc x).length) (acc ++ [x]) (u + ((enc x).length : Int)) (bytes_drop hb _)
      rw [List.length_drop, List.length_append, List.length_singleton] at this
      rw [Int.toNat_natCast]
      omega
    · rw [if_neg h]; simp
theorem listS_length (l : List Int) (m : Int) (hb : Bytes l) : (listS l m).1.length ≤ l.length := by
  unfold listS
  split
  · have := listL_length (lenS l m).1.toNat (l.drop (lenS l m).2.1.toNat) [] (lenS l m).2.1 (bytes_drop hb _)
    rw [List.length_drop, List.length_nil] at this
    omega
  · simp
end Go.Proofs.Ytkmgmiofmegjmaa.Wire
