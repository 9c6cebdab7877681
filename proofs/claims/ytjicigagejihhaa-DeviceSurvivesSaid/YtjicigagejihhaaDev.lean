/- What the printed functions of the device answer: plain lists and numbers. -/
import Derived.Test.YtjicigagejihhaaPAx0
import Derived.Test.YtjicigagejihhaaPAx3
import Derived.Test.YtjicigagejihhaaPAx4
import Derived.Test.YtjicigagejihhaaPAx5
import Derived.Test.YtjicigagejihhaaPAx6
import Derived.Test.YtjicigagejihhaaPAx7
import Derived.Test.YtjicigagejihhaaPAx8
import Derived.Test.YtjicigagejihhaaPAx9
import Derived.Test.YtjicigagejihhaaPAx10
import Derived.Test.YtjicigagejihhaaPAx11
import Derived.Test.YtjicigagejihhaaPAx12
import Derived.Test.YtjicigagejihhaaPAx13
import Derived.Test.YtjicigagejihhaaPAx14
namespace Go.Proofs.Ytjicigagejihhaa.Dev
open Go.RowKit Go.Proofs.Ytjicigagejihhaa.PA Go.Proofs.YtjicigagejihhaaW.PrintWords Go.Proofs.YtjicigagejihhaaW.PrintLast Go.Proofs.YtjicigagejihhaaW.PrintMore
theorem w1 (i : Nat) (h : i < 1000000) : wrap64 ((i : Int) + 1) = ((i + 1 : Nat) : Int) := by unfold wrap64; omega

theorem rd_at (xs : List Int) (i : Nat) (h : i < xs.length) : rd xs (i : Int) = xs[i] := by
  unfold rd; rw [Int.toNat_natCast, List.getD_eq_getElem?_getD, List.getElem?_eq_getElem h]; rfl

theorem rdL_at (xs : List (List Int)) (i : Nat) (h : i < xs.length) : rd_L1 xs (i : Int) = xs[i] := by
  unfold rd_L1; rw [Int.toNat_natCast, List.getD_eq_getElem?_getD, List.getElem?_eq_getElem h]; rfl

theorem rdT_at (xs : List S53) (i : Nat) (h : i < xs.length) : rd_T53 xs (i : Int) = xs[i] := by
  unfold rd_T53; rw [Int.toNat_natCast, List.getD_eq_getElem?_getD, List.getElem?_eq_getElem h]; rfl

theorem rd5_at (xs : List S55) (i : Nat) (h : i < xs.length) : rd_T55 xs (i : Int) = xs[i] := by
  unfold rd_T55; rw [Int.toNat_natCast, List.getD_eq_getElem?_getD, List.getElem?_eq_getElem h]; rfl

/-- A device whose parts have at most 1000 elements of at most 200 bytes. -/
def Sm (s : List (List Int)) (p : List S53) : Prop := s.length ≤ 1000 ∧ p.length ≤ 1000 ∧ (∀ x ∈ s, x.length ≤ 200) ∧ ∀ w ∈ p, w.f1.length ≤ 200

theorem sameBytes_l0 (a : List Int) (hn : a.length ≤ 1000) : ∀ (d k i : Nat), a.length - i = d → i ≤ a.length → d < k → mapsheetsref24_SameBytes.l0 k a a (i : Int) = some true := by
  intro d
  induction d with
  | zero =>
    intro k i hd hi hk
    obtain ⟨k, rfl⟩ : ∃ m, k = m + 1 := ⟨k - 1, by omega⟩
    simp only [mapsheetsref24_SameBytes.l0]; rw [if_neg (by omega)]
  | succ d ih =>
    intro k i hd hi hk
    obtain ⟨k, rfl⟩ : ∃ m, k = m + 1 := ⟨k - 1, by omega⟩
    simp only [mapsheetsref24_SameBytes.l0]; rw [if_pos (by omega), if_pos (by omega), if_pos (by omega), if_pos trivial, w1 i (by omega)]
    exact ih k (i + 1) (by omega) (by omega) (by omega)

theorem sameBytes (a : List Int) (k : Nat) (hn : a.length ≤ 1000) (hk : 1000 < k) : mapsheetsref24_SameBytes.f k a a = some true := by
  unfold mapsheetsref24_SameBytes.f; rw [if_pos rfl]
  exact sameBytes_l0 a hn _ k 0 rfl (Nat.zero_le _) (by omega)

theorem own_ok (b : List Int) (h : b.length ≤ 1000) : device_own.f b = some b := by unfold device_own.f; rw [if_pos (by omega)]

theorem clone_l1 (p : List S53) (hp : p.length ≤ 1000) (hx : ∀ w ∈ p, w.f1.length ≤ 200) (s : List (List Int)) (l : Int) (dn : Bool) : ∀ (d k i : Nat), p.length - i = d → i ≤ p.length → d < k → device_clone.l1 k p (p.length : Int) (i : Int) s (p.take i) l dn = some (s, p, l, dn) := by
  intro d
  induction d with
  | zero =>
    intro k i hd hi hk
    obtain ⟨k, rfl⟩ : ∃ m, k = m + 1 := ⟨k - 1, by omega⟩
    simp only [device_clone.l1]; rw [if_neg (by omega), List.take_of_length_le (by omega)]
  | succ d ih =>
    intro k i hd hi hk
    obtain ⟨k, rfl⟩ : ∃ m, k = m + 1 := ⟨k - 1, by omega⟩
    have h200 := hx p[i] (List.getElem_mem _)
    simp only [device_clone.l1]; rw [if_pos (by omega), if_pos (by omega), if_pos (by omega), rdT_at p i (by omega), own_ok _ (by omega), Option.bind_some, if_pos (by rw [List.length_take]; omega), w1 i (by omega)]
    have e : p.take i ++ [(⟨p[i].f0, p[i].f1⟩ : S53)] = p.take (i + 1) := by rw [List.take_succ_eq_append_getElem (by omega)]
    rw [e]
    exact ih k (i + 1) (by omega) (by omega) (by omega)

theorem clone_l0 (s : List (List Int)) (p : List S53) (h : Sm s p) (l l' : Int) (dn dn' : Bool) : ∀ (d k i : Nat), s.length - i = d → i ≤ s.length → d + 1001 < k → device_clone.l0 k s (s.length : Int) (i : Int) s p l dn (s.take i) l' dn' = some (s, p, l', dn') := by
  intro d
  obtain ⟨h1, h2, h3, h4⟩ := h
  induction d with
  | zero =>
    intro k i hd hi hk
    obtain ⟨k, rfl⟩ : ∃ m, k = m + 1 := ⟨k - 1, by omega⟩
    simp only [device_clone.l0]; rw [if_neg (by omega), List.take_of_length_le (by omega)]
    have := clone_l1 p h2 h4 s l' dn' p.length k 0 (by omega) (by omega) (by omega)
    simpa using this
  | succ d ih =>
    intro k i hd hi hk
    obtain ⟨k, rfl⟩ : ∃ m, k = m + 1 := ⟨k - 1, by omega⟩
    have h200 := h3 s[i] (List.getElem_mem _)
    simp only [device_clone.l0]; rw [if_pos (by omega), if_pos (by omega), if_pos (by omega), rdL_at s i (by omega), own_ok _ (by omega), Option.bind_some, if_pos (by rw [List.length_take]; omega), w1 i (by omega)]
    have e : s.take i ++ [s[i]] = s.take (i + 1) := by rw [List.take_succ_eq_append_getElem (by omega)]
    rw [e]
    exact ih k (i + 1) (by omega) (by omega) (by omega)

theorem clone_ok (s : List (List Int)) (p : List S53) (h : Sm s p) (l : Int) (dn : Bool) (k : Nat) (hk : 3000 < k) : device_clone.f k s p l dn = some (s, p, l, dn) := by
  unfold device_clone.f
  have := clone_l0 s p h l l dn dn s.length k 0 (by omega) (by omega) (by have := h.1; omega)
  simpa using this

abbrev D := List (List Int) × List S53 × Int × Bool × Int

def wr (s : List (List Int)) (p : List S53) (l : Int) (dn : Bool) (i : Int) (b : List Int) : D :=
  if dn = true then (s, p, l, dn, 23) else if 0 ≤ i ∧ i < (s.length : Int) then if b.length = 64 then (if l = 0 then (s, p ++ [⟨i, b⟩], l, true, 23) else if l > 0 then (s, p ++ [⟨i, b⟩], l - 1, dn, 0) else (s, p ++ [⟨i, b⟩], l, dn, 0)) else ([], [], 0, false, 1) else ([], [], 0, false, 2)

theorem write_ok (s : List (List Int)) (p : List S53) (h : Sm s p) (l : Int) (hl : l ≤ 9223372036854775807) (dn : Bool) (i : Int) (b : List Int) (k : Nat) (hk : 3000 < k) : device_Write.f k s p l dn i b = some (wr s p l dn i b) := by
  unfold device_Write.f wr device_exists.f
  rw [clone_ok s p h l dn k hk]
  by_cases e : dn = true
  · rw [if_pos e, if_pos e]; rfl
  rw [if_neg e, if_neg e]
  by_cases hi : 0 ≤ i ∧ i < (s.length : Int)
  · rw [if_pos (show i ≥ 0 from hi.1), if_pos hi]
    simp only [Option.bind_some]
    rw [if_pos (by simpa using hi.2)]
    by_cases hb : b.length = 64
    · rw [if_pos (by omega), if_pos hb, own_ok b (by omega)]
      simp only [Option.bind_some]
      have := h.2.1
      rw [if_pos (by omega)]
      by_cases h0 : l = 0
      · rw [if_pos h0, if_pos h0]
      · rw [if_neg h0, if_neg h0]
        by_cases h1 : l > 0
        · rw [if_pos h1, if_pos h1, show wrap64 (l - 1) = l - 1 by unfold wrap64; omega]
        · rw [if_neg h1, if_neg h1]
    · rw [if_neg (by omega), if_neg hb]
  · rw [if_neg hi]
    by_cases h0 : i ≥ 0
    · rw [if_pos h0]
      simp only [Option.bind_some]
      rw [if_neg (by simp; omega)]
    · rw [if_neg h0]
      simp only [Option.bind_some]
      rw [if_neg (by decide)]

def content (s : List (List Int)) (i : Int) (ws : List S53) : List Int := ws.foldl (fun b w => if w.f0 = i then w.f1 else b) (s.getD i.toNat [])

theorem fold_small (ws : List S53) (i : Int) (hx : ∀ w ∈ ws, w.f1.length ≤ 200) : ∀ b : List Int, b.length ≤ 200 → (ws.foldl (fun b w => if w.f0 = i then w.f1 else b) b).length ≤ 200 := by
  induction ws with
  | nil => intro b hb; exact hb
  | cons w r ih =>
    intro b hb
    rw [List.foldl_cons]
    refine ih (fun w hw => hx w (List.mem_cons_of_mem _ hw)) _ ?_
    split
    · exact hx w List.mem_cons_self
    · exact hb

theorem getD_small (s : List (List Int)) (hx : ∀ x ∈ s, x.length ≤ 200) (j : Nat) : (s.getD j []).length ≤ 200 := by
  rw [List.getD_eq_getElem?_getD]
  cases h : s[j]? with
  | none => simp
  | some x => exact hx x (List.mem_of_getElem? h)

theorem content_small (s : List (List Int)) (i : Int) (ws : List S53) (hs : ∀ x ∈ s, x.length ≤ 200) (hx : ∀ w ∈ ws, w.f1.length ≤ 200) : (content s i ws).length ≤ 200 := fold_small ws i hx _ (getD_small s hs _)

theorem read_l0 (s : List (List Int)) (p : List S53) (h : Sm s p) (l : Int) (dn : Bool) (i : Int) (h0 : 0 ≤ i) (hi : i < (s.length : Int)) : ∀ (n k : Nat), n ≤ p.length → n < k → device_Read.l0 k i ((n : Int) - 1) s p l dn = some (content s i (p.take n), 0) := by
  obtain ⟨h1, h2, h3, h4⟩ := h
  intro n
  induction n with
  | zero =>
    intro k hn hk
    obtain ⟨k, rfl⟩ : ∃ m, k = m + 1 := ⟨k - 1, by omega⟩
    simp only [device_Read.l0]; rw [if_neg (by omega), if_pos h0, if_pos hi]
    have := getD_small s h3 i.toNat
    rw [show rd_L1 s i = s.getD i.toNat [] from rfl, own_ok _ (by omega)]
    simp [content]
  | succ n ih =>
    intro k hn hk
    obtain ⟨k, rfl⟩ : ∃ m, k = m + 1 := ⟨k - 1, by omega⟩
    have e : ((n + 1 : Nat) : Int) - 1 = (n : Int) := by omega
    rw [e]
    simp only [device_Read.l0]; rw [if_pos (by omega), if_pos (by omega), if_pos (by omega), rdT_at p n (by omega)]
    have ht : p.take (n + 1) = p.take n ++ [p[n]] := by rw [List.take_succ_eq_append_getElem (by omega)]
    by_cases hc : p[n].f0 = i
    · have := h4 p[n] (List.getElem_mem _)
      rw [if_pos hc, own_ok _ (by omega)]
      unfold content
      rw [ht, List.foldl_append, List.foldl_cons, List.foldl_nil, if_pos hc]; rfl
    · rw [if_neg hc, show wrap64 ((n : Int) - 1) = (n : Int) - 1 by unfold wrap64; omega, ih k (by omega) (by omega)]
      unfold content
      rw [ht, List.foldl_append, List.foldl_cons, List.foldl_nil, if_neg hc]

def rdd (s : List (List Int)) (p : List S53) (dn : Bool) (i : Int) : List Int × Int := if dn = true then ([], 23) else if 0 ≤ i ∧ i < (s.length : Int) then (content s i p, 0) else ([], 2)

theorem read_ok (s : List (List Int)) (p : List S53) (h : Sm s p) (l : Int) (dn : Bool) (i : Int) (k : Nat) (hk : 3000 < k) : device_Read.f k s p l dn i = some (rdd s p dn i) := by
  unfold device_Read.f rdd device_exists.f
  by_cases e : dn = true
  · rw [if_pos e, if_pos e]
  rw [if_neg e, if_neg e]
  by_cases hi : 0 ≤ i ∧ i < (s.length : Int)
  · rw [if_pos (show i ≥ 0 from hi.1), if_pos hi]
    simp only [Option.bind_some]
    have h2 := h.2.1
    rw [if_pos (by simpa using hi.2), show wrap64 ((p.length : Int) - 1) = (p.length : Int) - 1 by unfold wrap64; omega, read_l0 s p h l dn i hi.1 hi.2 p.length k (Nat.le_refl _) (by omega), List.take_length]
  · rw [if_neg hi]
    by_cases h0 : i ≥ 0
    · rw [if_pos h0]
      simp only [Option.bind_some]
      rw [if_neg (by simp; omega)]
    · rw [if_neg h0]
      simp only [Option.bind_some]
      rw [if_neg (by decide)]

def nw (n : Int) : D := if n < 1 ∨ n > 4096 then ([], [], 0, false, 2) else (List.replicate n.toNat (List.replicate 64 0), [], -1, false, 0)

theorem new_l0 (n : Nat) (hn : n ≤ 4096) (dn : Bool) : ∀ (d k i : Nat), n - i = d → i ≤ n → d < k → device_New.l0 k (n : Int) (i : Int) (List.replicate i (List.replicate 64 0)) (-1) dn = some (List.replicate n (List.replicate 64 0), [], -1, dn, 0) := by
  intro d
  induction d with
  | zero =>
    intro k i hd hi hk
    obtain ⟨k, rfl⟩ : ∃ m, k = m + 1 := ⟨k - 1, by omega⟩
    obtain rfl : i = n := by omega
    simp only [device_New.l0]; rw [if_neg (by omega)]
  | succ d ih =>
    intro k i hd hi hk
    obtain ⟨k, rfl⟩ : ∃ m, k = m + 1 := ⟨k - 1, by omega⟩
    simp only [device_New.l0]; rw [if_pos (by omega), if_pos (by decide), if_pos (by rw [List.length_replicate]; omega), w1 i (by omega), ← List.replicate_succ']
    exact ih k (i + 1) (by omega) (by omega) (by omega)

theorem new_ok (n : Int) (k : Nat) (hk : 5000 < k) : device_New.f k n = some (nw n) := by
  obtain ⟨k, rfl⟩ : ∃ m, k = m + 1 := ⟨k - 1, by omega⟩
  unfold device_New.f nw
  by_cases h1 : n < 1
  · rw [if_pos h1, if_pos (.inl h1)]; simp only [device_New.j0]; rw [if_pos trivial]
  rw [if_neg h1]
  by_cases h2 : n > 4096
  · rw [if_pos (.inr h2)]; simp only [device_New.j0]; rw [if_pos (by simpa using h2)]
  rw [if_neg (by omega)]
  simp only [device_New.j0]; rw [if_neg (by simpa using h2)]
  obtain ⟨m, rfl⟩ := Int.eq_ofNat_of_zero_le (show 0 ≤ n by omega)
  exact new_l0 m (by omega) false m k 0 (by omega) (by omega) (by omega)

/-- The writes that survive. -/
def kept (S : Int → Bool) : Nat → List S53 → List S53
  | _, [] => []
  | i, w :: r => if S (i : Int) = true then w :: kept S (i + 1) r else kept S (i + 1) r

theorem kept_mem (S : Int → Bool) : ∀ (ws : List S53) (i : Nat) (w : S53), w ∈ kept S i ws → w ∈ ws := by
  intro ws
  induction ws with
  | nil => intro i w h; exact h
  | cons x r ih =>
    intro i w h
    rw [kept] at h
    split at h
    · rcases List.mem_cons.1 h with rfl | h
      · exact List.mem_cons_self
      · exact List.mem_cons_of_mem _ (ih _ _ h)
    · exact List.mem_cons_of_mem _ (ih _ _ h)

theorem kept_len (S : Int → Bool) : ∀ (ws : List S53) (i : Nat), (kept S i ws).length ≤ ws.length := by
  intro ws
  induction ws with
  | nil => intro i; exact Nat.le_refl _
  | cons x r ih =>
    intro i
    have := ih (i + 1)
    rw [kept]
    split <;> simp only [List.length_cons] <;> omega

theorem kept_all (S : Int → Bool) : ∀ (ws : List S53) (i : Nat), (∀ j : Nat, i ≤ j → j < i + ws.length → S (j : Int) = true) → kept S i ws = ws := by
  intro ws
  induction ws with
  | nil => intro i _; rfl
  | cons x r ih =>
    intro i h
    rw [kept, if_pos (h i (Nat.le_refl _) (by simp)), ih (i + 1) (fun j h1 h2 => h j (by omega) (by rw [List.length_cons]; omega))]

theorem kept_none : ∀ (ws : List S53) (i : Nat), kept (fun _ => false) i ws = [] := by
  intro ws
  induction ws with
  | nil => intro i; rfl
  | cons x r ih => intro i; rw [kept, if_neg (by decide), ih]

def put (o : List (List Int)) (w : S53) : List (List Int) := if 0 ≤ w.f0 ∧ w.f0 < (o.length : Int) then o.set w.f0.toNat w.f1 else o

def lay (ws : List S53) (o : List (List Int)) : List (List Int) := ws.foldl put o

theorem put_len (o : List (List Int)) (w : S53) : (put o w).length = o.length := by unfold put; split <;> simp

theorem lay_len : ∀ (ws : List S53) (o : List (List Int)), (lay ws o).length = o.length := by
  intro ws
  induction ws with
  | nil => intro o; rfl
  | cons w r ih => intro o; show (lay r (put o w)).length = _; rw [ih, put_len]

theorem put_content (o : List (List Int)) (w : S53) (j : Nat) (hj : j < o.length) : (put o w).getD j [] = if w.f0 = (j : Int) then w.f1 else o.getD j [] := by
  unfold put
  by_cases h : 0 ≤ w.f0 ∧ w.f0 < (o.length : Int)
  · rw [if_pos h]
    by_cases e : w.f0 = (j : Int)
    · rw [if_pos e, e, Int.toNat_natCast, List.getD_eq_getElem?_getD, List.getElem?_set_self hj]; rfl
    · rw [if_neg e, List.getD_eq_getElem?_getD, List.getElem?_set_ne (by omega), List.getD_eq_getElem?_getD]
  · rw [if_neg h, if_neg (by omega)]

theorem lay_content : ∀ (ws : List S53) (o : List (List Int)) (j : Nat), j < o.length → (lay ws o).getD j [] = content o (j : Int) ws := by
  intro ws
  induction ws with
  | nil => intro o j _; rfl
  | cons w r ih =>
    intro o j hj
    show (lay r (put o w)).getD j [] = _
    rw [ih (put o w) j (by rw [put_len]; exact hj)]
    unfold content
    rw [Int.toNat_natCast, put_content o w j hj, List.foldl_cons]

/-- The durable sectors behind some writes. -/
def dur (s : List (List Int)) (ws : List S53) : List (List Int) := (List.range s.length).map fun (j : Nat) => content s (j : Int) ws

theorem dur_len (s : List (List Int)) (ws : List S53) : (dur s ws).length = s.length := by simp [dur]

theorem dur_at (s : List (List Int)) (ws : List S53) (j : Nat) (hj : j < s.length) : (dur s ws).getD j [] = content s (j : Int) ws := by
  unfold dur
  rw [List.getD_eq_getElem?_getD, List.getElem?_map, List.getElem?_range hj]; rfl

theorem ext_getD {a b : List (List Int)} (hl : a.length = b.length) (h : ∀ j, j < a.length → a.getD j [] = b.getD j []) : a = b := by
  refine List.ext_getElem hl fun j h1 h2 => ?_
  have := h j h1
  rw [List.getD_eq_getElem?_getD, List.getElem?_eq_getElem h1, List.getD_eq_getElem?_getD, List.getElem?_eq_getElem h2] at this
  exact this

theorem lay_dur (ws : List S53) (s : List (List Int)) : lay ws s = dur s ws :=
  ext_getD (by rw [lay_len, dur_len]) fun j hj => by
    rw [lay_len] at hj
    rw [lay_content ws s j hj, dur_at s ws j hj]

theorem dur_nil (s : List (List Int)) : dur s [] = s := (lay_dur [] s).symm

theorem dur_small (s : List (List Int)) (ws : List S53) (hs : ∀ x ∈ s, x.length ≤ 200) (hx : ∀ w ∈ ws, w.f1.length ≤ 200) : ∀ x ∈ dur s ws, x.length ≤ 200 := by
  intro x hx'
  unfold dur at hx'
  obtain ⟨j, _, rfl⟩ := List.mem_map.1 hx'
  exact content_small s _ ws hs hx

theorem dur_sm (s : List (List Int)) (p ws : List S53) (h : Sm s p) (hx : ∀ w ∈ ws, w.f1.length ≤ 200) : Sm (dur s ws) [] :=
  ⟨by rw [dur_len]; exact h.1, by simp, dur_small s ws h.2.2.1 hx, fun w hw => by cases hw⟩

theorem settled_l0 (S : Int → Bool) (s : List (List Int)) (p : List S53) (h : Sm s p) (l : Int) (dn : Bool) : ∀ (d k i : Nat) (o : List (List Int)), p.length - i = d → i ≤ p.length → d < k → o.length = s.length → device_settled.l0 S k o p (p.length : Int) (i : Int) s p l dn = some (lay (kept S i (p.drop i)) o) := by
  obtain ⟨h1, h2, h3, h4⟩ := h
  intro d
  induction d with
  | zero =>
    intro k i o hd hi hk ho
    obtain ⟨k, rfl⟩ : ∃ m, k = m + 1 := ⟨k - 1, by omega⟩
    simp only [device_settled.l0]; rw [if_neg (by omega), List.drop_of_length_le (by omega)]; rfl
  | succ d ih =>
    intro k i o hd hi hk ho
    obtain ⟨k, rfl⟩ : ∃ m, k = m + 1 := ⟨k - 1, by omega⟩
    have h200 := h4 p[i] (List.getElem_mem _)
    simp only [device_settled.l0]; rw [if_pos (by omega), if_pos (by omega), if_pos (by omega), rdT_at p i (by omega), w1 i (by omega), List.drop_eq_getElem_cons (show i < p.length by omega), kept]
    simp only [Option.bind_some]
    by_cases hS : S (i : Int) = true
    · rw [if_pos hS, if_pos hS]
      show _ = some (lay _ (put o p[i]))
      unfold device_exists.f put
      by_cases hr : 0 ≤ p[i].f0 ∧ p[i].f0 < (o.length : Int)
      · rw [if_pos (show p[i].f0 ≥ 0 from hr.1), if_pos hr]
        simp only [Option.bind_some]
        rw [if_pos (by have := hr.2; simp; omega), own_ok _ (by omega)]
        simp only [Option.bind_some]
        rw [if_pos hr.1, if_pos hr.2]
        exact ih k (i + 1) _ (by omega) (by omega) (by omega) (by rw [List.length_set]; exact ho)
      · rw [if_neg hr]
        by_cases h0 : p[i].f0 ≥ 0
        · rw [if_pos h0]
          simp only [Option.bind_some]
          rw [if_neg (by simp; omega)]
          exact ih k (i + 1) _ (by omega) (by omega) (by omega) ho
        · rw [if_neg h0]
          simp only [Option.bind_some]
          rw [if_neg (by decide)]
          exact ih k (i + 1) _ (by omega) (by omega) (by omega) ho
    · rw [if_neg hS, if_neg hS]
      exact ih k (i + 1) _ (by omega) (by omega) (by omega) ho

theorem settled_ok (S : Int → Bool) (s : List (List Int)) (p : List S53) (h : Sm s p) (l : Int) (dn : Bool) (k : Nat) (hk : 3000 < k) : device_settled.f S k s p l dn = some (dur s (kept S 0 p)) := by
  unfold device_settled.f
  rw [clone_ok s p h l dn k hk, Option.bind_some, ← lay_dur]
  have := settled_l0 S s p h l dn p.length k 0 s (by omega) (by omega) (by have := h.2.1; omega) rfl
  rw [List.drop_zero] at this
  exact this

def fl (s : List (List Int)) (p : List S53) (l : Int) (dn : Bool) : D := if dn = true then ([], [], 0, false, 23) else (dur s p, [], l, false, 0)

theorem kept_true (p : List S53) : kept (fun _ => true) 0 p = p := kept_all _ p 0 fun _ _ _ => rfl

theorem flush_ok (s : List (List Int)) (p : List S53) (h : Sm s p) (l : Int) (dn : Bool) (k : Nat) (hk : 3000 < k) : device_Flush.f k s p l dn = some (fl s p l dn) := by
  unfold device_Flush.f fl
  rw [settled_ok _ s p h l dn k hk, kept_true]
  by_cases e : dn = true
  · rw [if_pos e, if_pos e]
  · rw [if_neg e, if_neg e]; rfl

theorem arm_ok (s : List (List Int)) (p : List S53) (h : Sm s p) (l : Int) (dn : Bool) (n : Int) (k : Nat) (hk : 3000 < k) : device_Arm.f k s p l dn n = some (s, p, mx n (-1), dn) := by
  unfold device_Arm.f
  rw [clone_ok s p h l dn k hk]; rfl

theorem crash_ok (s : List (List Int)) (p : List S53) (h : Sm s p) (l : Int) (dn : Bool) (keep : List Int) (k : Nat) (hk : 3000 < k) : device_Crash.f k s p l dn keep = some (dur s (kept (fun i => keep.contains i) 0 p), [], -1, false) := by
  unfold device_Crash.f
  rw [settled_ok _ s p h l dn k hk]; rfl

theorem rdd_small (s : List (List Int)) (p : List S53) (h : Sm s p) (dn : Bool) (i : Int) : (rdd s p dn i).1.length ≤ 200 := by
  unfold rdd
  split
  · simp
  · split
    · exact content_small s i p h.2.2.1 h.2.2.2
    · simp

theorem block_l0 (x : Int) : ∀ (d k i : Nat) (o : List Int), 64 - i = d → i ≤ 64 → d < k → o = List.replicate i x ++ List.replicate (64 - i) 0 → mapsheetslaw24_block.l0 k x o (i : Int) = some (List.replicate 64 x) := by
  intro d
  induction d with
  | zero =>
    intro k i o hd hi hk ho
    obtain ⟨k, rfl⟩ : ∃ m, k = m + 1 := ⟨k - 1, by omega⟩
    obtain rfl : i = 64 := by omega
    subst ho
    rw [mapsheetslaw24_block.l0, if_neg (by simp)]; simp
  | succ d ih =>
    intro k i o hd hi hk ho
    obtain ⟨k, rfl⟩ : ∃ m, k = m + 1 := ⟨k - 1, by omega⟩
    have hlen : o.length = 64 := by rw [ho]; simp; omega
    rw [mapsheetslaw24_block.l0, if_pos (by omega), if_pos (by omega), w1 i (by omega)]
    refine ih k (i + 1) _ (by omega) (by omega) (by omega) ?_
    subst ho
    rw [Int.toNat_natCast, show 64 - i = (64 - (i + 1)) + 1 by omega, List.replicate_succ, List.set_append_right _ _ (by simp), List.length_replicate, Nat.sub_self, List.set_cons_zero, List.replicate_succ', List.append_assoc]; rfl

theorem block_ok (x : Int) (k : Nat) (hk : 100 < k) : mapsheetslaw24_block.f k x = some (List.replicate 64 x) := by
  unfold mapsheetslaw24_block.f
  rw [if_pos (by decide)]
  exact block_l0 x 64 k 0 _ (by omega) (by omega) (by omega) (by simp)

/-- What a write keeps. -/
theorem wr_sm (s : List (List Int)) (p : List S53) (l : Int) (dn : Bool) (i : Int) (b : List Int) (h : Sm s p) (hp : p.length < 1000) (hb : b.length ≤ 200) : Sm (wr s p l dn i b).1 (wr s p l dn i b).2.1 := by
  obtain ⟨h1, h2, h3, h4⟩ := h
  have hx : ∀ w ∈ p ++ [(⟨i, b⟩ : S53)], w.f1.length ≤ 200 := by
    intro w hw
    rcases List.mem_append.1 hw with hw | hw
    · exact h4 w hw
    · rw [List.mem_singleton] at hw; subst hw; exact hb
  have hl : (p ++ [(⟨i, b⟩ : S53)]).length ≤ 1000 := by rw [List.length_append, List.length_singleton]; omega
  unfold wr
  split
  · exact ⟨h1, h2, h3, h4⟩
  · split
    · split
      · split
        · exact ⟨h1, hl, h3, hx⟩
        · split
          · exact ⟨h1, hl, h3, hx⟩
          · exact ⟨h1, hl, h3, hx⟩
      · exact ⟨by simp, by simp, (by simp), (by simp)⟩
    · exact ⟨by simp, by simp, (by simp), (by simp)⟩

theorem wr_left (s : List (List Int)) (p : List S53) (l : Int) (dn : Bool) (i : Int) (b : List Int) (hl : l ≤ 9223372036854775807) : (wr s p l dn i b).2.2.1 ≤ 9223372036854775807 := by
  unfold wr
  repeat' split
  all_goals (first | exact hl | (simp; omega) | simp)

theorem wr_len (s : List (List Int)) (p : List S53) (l : Int) (dn : Bool) (i : Int) (b : List Int) : (wr s p l dn i b).2.1.length ≤ p.length + 1 := by
  unfold wr
  repeat' split
  all_goals simp

theorem awake_ok : mapsheetslaw24_awake.f = some true := rfl

theorem rdd_dur (s : List (List Int)) (p : List S53) (j : Nat) (hj : j < s.length) : rdd s p false (j : Int) = rdd (dur s p) [] false (j : Int) := by
  unfold rdd
  have hf : ¬ (false = true) := by decide
  rw [if_neg hf, if_neg hf, if_pos ⟨by omega, by omega⟩, if_pos ⟨by omega, by rw [dur_len]; omega⟩]
  congr 1
  show content s (j : Int) p = (dur s p).getD (Int.toNat (j : Int)) []
  rw [Int.toNat_natCast, dur_at s p j hj]
end Go.Proofs.Ytjicigagejihhaa.Dev
