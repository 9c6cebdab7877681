/- For every integer, string of at most 1000 bytes, list of at most 200 integers and place of the cut: an encoding without its last bytes is decoded with ErrShort. (Longer strings and lists: the examples of the chapter alone, as the statement says.) -/
import Derived.Test.YtkmgmiofmegjmaaWireShort
import Derived.Test.YtkmgmiofmegjmaaPAx7
namespace Go.Proofs.Ytkmgmiofmegjmaa.Pure
open Go.RowKit Go.Proofs.Ytkmgmiofmegjmaa.PA Go.Proofs.YtkmgmiofmegjmaaW.PrintWords Go.Proofs.YtkmgmiofmegjmaaW.PrintLast Go.Proofs.Ytkmgmiofmegjmaa.Wire

theorem u8_of_wf {n : Int} (h : (Lit.int .u8 n).wf = true) : 0 ≤ n ∧ n ≤ 255 := by
  simpa [Lit.wf, IntKind.min, IntKind.max, IntKind.signed, IntKind.bits] using h
theorem cut_at (c : Int) (h : 0 ≤ c ∧ c ≤ 255) (L : Nat) (hL : 0 < L) : ∃ t : Nat, Int.tmod (wrap64 c) (L : Int) = (t : Int) ∧ t < L := by
  rw [w64 c (by omega) (by omega), Int.tmod_eq_emod_of_nonneg h.1]
  refine ⟨(c % (L : Int)).toNat, ?_, ?_⟩
  · have := Int.emod_nonneg c (show (L : Int) ≠ 0 by omega); omega
  · have := Int.emod_lt_of_pos c (show (0 : Int) < (L : Int) by omega)
    have := Int.emod_nonneg c (show (L : Int) ≠ 0 by omega)
    omega

theorem cut_main (n : Int) (s : ByteArray) (l : List Int) (c : Int) (hn : I64 n) (hs : s.size ≤ 1000) (hl : l.length ≤ 200) (hI : ∀ x ∈ l, I64 x) (hc : 0 ≤ c ∧ c ≤ 255) (k : Nat) (hk : 100000 ≤ k) :
    mapsheetslaw02_WireCut.j1 (k + 1) s l c (enc n) (enc (s.size : Int) ++ bytesOf s) (enc (l.length : Int) ++ encs_ l) ((((enc (l.length : Int) ++ encs_ l).length : Int) == 0)) = some true := by
  have ha := enc_pos n
  have ha2 := enc_length n
  have hb := enc_pos (s.size : Int)
  have hb2 := enc_length (s.size : Int)
  have hd := enc_pos (l.length : Int)
  have hd2 := enc_length (l.length : Int)
  have he := encs_length_le l
  have hBl : (enc (s.size : Int) ++ bytesOf s).length ≤ 1010 ∧ 0 < (enc (s.size : Int) ++ bytesOf s).length := by rw [List.length_append, bytesOf_length]; omega
  have hLl : (enc (l.length : Int) ++ encs_ l).length ≤ 2010 ∧ 0 < (enc (l.length : Int) ++ encs_ l).length := by rw [List.length_append]; omega
  obtain ⟨t1, e1, h1⟩ := cut_at c hc (enc n).length (by omega)
  obtain ⟨t2, e2, h2⟩ := cut_at c hc (enc (s.size : Int) ++ bytesOf s).length hBl.2
  obtain ⟨t3, e3, h3⟩ := cut_at c hc (enc (l.length : Int) ++ encs_ l).length hLl.2
  have b1 : Bytes ((enc n).take t1) := bytes_take (bytes_enc n hn) _
  have b2 : Bytes ((enc (s.size : Int) ++ bytesOf s).take t2) := bytes_take (bytes_append (bytes_enc _ (i64_nat (by omega))) (bytes_str s)) _
  have b3 : Bytes ((enc (l.length : Int) ++ encs_ l).take t3) := bytes_take (bytes_append (bytes_enc _ (i64_nat (by omega))) (bytes_encs l hI)) _
  have x1 := vdec_enc_cut n hn t1 h1
  have x2 := textS_cut s t2 (by omega) h2
  have x3 := listS_cut l hI t3 (by omega) h3
  have l1 : ((enc n).take t1).length ≤ 10 := by rw [List.length_take]; omega
  have l2 : ((enc (s.size : Int) ++ bytesOf s).take t2).length ≤ 1010 := by rw [List.length_take]; omega
  have l3 : ((enc (l.length : Int) ++ encs_ l).take t3).length ≤ 2010 := by rw [List.length_take]; omega
  generalize enc n = A at *
  generalize enc (s.size : Int) ++ bytesOf s = B at *
  generalize enc (l.length : Int) ++ encs_ l = C at *
  simp only [mapsheetslaw02_WireCut.j1]
  have hC0 : (((C.length : Int) == 0)) = false := by rw [beq_eq_false_iff_ne]; omega
  rw [hC0, if_neg (by decide), e1, e2, e3, if_neg (by omega), if_pos (by omega), if_pos (by omega), Int.toNat_natCast, Int.toNat_natCast, Int.toNat_natCast, wire_Int_is _ b1 k (by omega), Option.bind_some, x1,
    if_neg (by omega), if_pos (by omega), if_pos (by omega), wtext_is _ _ b2 (by omega) k (by omega), Option.bind_some, x2,
    if_neg (by omega), if_pos (by omega), if_pos (by omega), wlist_is _ _ b3 (by omega) k (by omega), Option.bind_some, x3]
  simp only
  rw [if_pos (show wrap64 (wrap64 ((0 : Int) + 0) + 0) = 0 by decide +kernel), if_pos trivial, if_pos trivial, if_pos trivial, awake_is _ (by omega)]
  rfl
theorem WireCut : mapsheetslaw02_WireCut.Pure := by
  intro n s l c hn hs hm hl hI hc
  have hnn := i64_of_wf hn
  have hcc := u8_of_wf hc
  have hII : ∀ x ∈ l, I64 x := fun x hx => i64_of_wf (hI x hx)
  refine ⟨200002, ?_⟩
  unfold mapsheetslaw02_WireCut.f
  have yes : mapsheetslaw02_WireCut.j0 200002 n s l c true = some true := by
    simp only [mapsheetslaw02_WireCut.j0]
    rw [if_pos trivial, awake_is _ (by omega)]
    rfl
  by_cases h1 : (s.size : Int) > 1000
  · rw [if_pos h1, yes]
  · rw [if_neg h1]
    by_cases h2 : (l.length : Int) > 200
    · rw [decide_eq_true h2, yes]
    · rw [decide_eq_false h2]
      have ha := enc_pos n
      have hb := enc_pos (s.size : Int)
      have hd := enc_pos (l.length : Int)
      simp only [mapsheetslaw02_WireCut.j0]
      rw [if_neg (by decide), wput_is [] n hnn (by simp), Option.bind_some, wputtext_is [] s (by simp; omega), Option.bind_some, wputlist_is [] l hII (by omega) (by simp; omega) _ (by omega), Option.bind_some, List.nil_append, List.nil_append, List.nil_append,
        if_neg (by omega), if_neg (by rw [List.length_append]; omega)]
      exact cut_main n s l c hnn (by omega) (by omega) hII hcc 200000 (by omega)
end Go.Proofs.Ytkmgmiofmegjmaa.Pure
