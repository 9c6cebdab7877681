/- How what the form reads of an argument gives what the print's kinds say of it: its list, each number of its kind, each slice within the form's reach, and the bulk of the reading. One theorem a kind; for any program. -/
import Derived.Test.YtaappifdpbgchaaRows
import Derived.Test.YtaappifdpbgchaaWWords
import Derived.OpenShut
import Derived.ChangeArms
import Derived.ChangeSlices
import Derived.SizedLaws
namespace Go.Proofs.Ytaappifdpbgchaa.Reads
open Go.RowKit Go.Proofs.YtaappifdpbgchaaW.PrintWords
set_option linter.unusedVariables false

/-- What is read at type t is of kind d; it meets wf; its bulk is at least bk. -/
structure RdOk {α : Type} (P : Program) (t : TypeId) (d : Kd α) (wf : α → Prop) (bk : α → Nat) : Prop where
  rd : ∀ {H : Type} {enc : TypeId × Value → H} {w : World} {base : Nat} {fuel : Nat} {cs : List Value} {x : DataW H × List MemPlace}, DataW.trod enc P w base (fun _ => true) true fuel t cs = some x →
    (x.1.weights P t).all (· ≤ reachBytes) = true → ∃ a : α, d.K w a cs ∧ wf a ∧ bk a ≤ Rows.uptoBulk x.1

def sumBk {α : Type} (bk : α → Nat) : List α → Nat
  | [] => 0
  | x :: r => bk x + sumBk bk r
theorem sumBk_length {α : Type} {bk : α → Nat} (h : ∀ x, 1 ≤ bk x) (xs : List α) : xs.length ≤ sumBk bk xs := by
  induction xs with
  | nil => simp [sumBk]
  | cons x r ih => have := h x; simp only [sumBk, List.length_cons]; omega
theorem sumBk_mem {α : Type} {bk : α → Nat} {xs : List α} {x : α} (h : x ∈ xs) : bk x ≤ sumBk bk xs := by
  induction xs with
  | nil => cases h
  | cons y r ih =>
    rcases List.mem_cons.1 h with rfl | h
    · simp [sumBk]
    · have := ih h; simp only [sumBk]; omega
theorem bulk_one {H : Type} (d : DataW H) : 1 ≤ Rows.uptoBulk d := by
  cases d with
  | lit l => cases l <;> simp [Rows.uptoBulk]
  | nil => simp [Rows.uptoBulk]
  | ptr d => simp [Rows.uptoBulk]
  | slice elems spare => simp [Rows.uptoBulk]
  | agg parts => simp [Rows.uptoBulk]
  | iface t d => simp [Rows.uptoBulk]
  | map entries => simp [Rows.uptoBulk]
  | held h => simp [Rows.uptoBulk]

theorem int_ok {P : Program} {t : TypeId} {k : IntKind} (ht : P.underlying t = some (.int k)) : RdOk P t (Kd.int k) (fun n => (Lit.int k n).wf = true) (fun _ => 1) := by
  refine ⟨fun {H enc w base fuel cs x} h hw => ?_⟩
  obtain ⟨n, rfl, rfl, hn⟩ := DataW.trod_int ht h
  exact ⟨n, rfl, hn, bulk_one _⟩
theorem bool_ok {P : Program} {t : TypeId} (ht : P.underlying t = some .bool) : RdOk P t Kd.bool (fun _ => True) (fun _ => 1) := by
  refine ⟨fun {H enc w base fuel cs x} h hw => ?_⟩
  obtain ⟨b, rfl, rfl⟩ := DataW.trod_bool ht h
  exact ⟨b, rfl, trivial, bulk_one _⟩
theorem string_ok {P : Program} {t : TypeId} (ht : P.underlying t = some .string) : RdOk P t Kd.string (fun s => s.size ≤ 140737488351232) (fun s => s.size + 1) := by
  refine ⟨fun {H enc w base fuel cs x} h hw => ?_⟩
  obtain ⟨s, rfl, rfl, hs⟩ := DataW.trod_string ht h
  refine ⟨s, rfl, ?_, ?_⟩
  · have : s.data.toList.length ≤ reachBytes := by simpa [DataW.weights] using hw
    rw [Array.length_toList] at this
    exact this
  · show s.size + 1 ≤ s.data.toList.length + 1
    rw [Array.length_toList]
    exact Nat.le_refl _

theorem weightsAll_mem {H : Type} {P : Program} {e : TypeId} {l : List (DataW H)} {d : DataW H} (hd : d ∈ l) {n : Nat} (hn : n ∈ d.weights P e) : n ∈ DataW.weightsAll P e l := by
  induction l with
  | nil => cases hd
  | cons x r ih =>
    simp only [DataW.weightsAll]
    rcases List.mem_cons.1 hd with rfl | hd
    · exact List.mem_append_left _ hn
    · exact List.mem_append_right _ (ih hd)

theorem list_pick {α β : Type} (Q : α → β → Prop) : ∀ (ys : List α), (∀ y ∈ ys, ∃ b, Q y b) → ∃ bs : List β, bs.length = ys.length ∧ ∀ (i : Nat) (y : α) (b : β), ys[i]? = some y → bs[i]? = some b → Q y b
  | [], _ => ⟨[], rfl, fun i y b h => by simp at h⟩
  | y :: ys, h => by
    obtain ⟨b, hb⟩ := h y List.mem_cons_self
    obtain ⟨bs, hl, hq⟩ := list_pick Q ys (fun z hz => h z (List.mem_cons_of_mem _ hz))
    refine ⟨b :: bs, by simp [hl], fun i z c hz hc => ?_⟩
    cases i with
    | zero => simp at hz hc; subst hz; subst hc; exact hb
    | succ i => exact hq i z c (by simpa using hz) (by simpa using hc)
theorem bulkAll_sum {α H : Type} {bk : α → Nat} : ∀ (bs : List α) (ys : List (DataW H)), bs.length = ys.length → (∀ (i : Nat) (y : DataW H) (b : α), ys[i]? = some y → bs[i]? = some b → bk b ≤ Rows.uptoBulk y) → sumBk bk bs ≤ Rows.uptoBulkAll ys
  | [], [], _, _ => by simp [sumBk, Rows.uptoBulkAll]
  | b :: bs, y :: ys, hl, h => by
    have h0 := h 0 y b rfl rfl
    have h1 := bulkAll_sum bs ys (by simpa using hl) (fun i z c hz hc => h (i + 1) z c (by simpa using hz) (by simpa using hc))
    simp only [sumBk, Rows.uptoBulkAll]
    omega
  | [], _ :: _, hl, _ => by simp at hl
  | _ :: _, [], hl, _ => by simp at hl
theorem weights_slice {H : Type} {P : Program} {t e : TypeId} {elems spare : List (DataW H)} (ht : P.underlying t = some (.slice e)) (hw : ((DataW.slice elems spare).weights P t).all (· ≤ reachBytes) = true) :
    (elems.length + spare.length) * P.bytesOf e ≤ reachBytes ∧ ∀ d ∈ elems, (d.weights P e).all (· ≤ reachBytes) = true := by
  have hw' := List.all_eq_true.1 hw
  have hx : (DataW.slice elems spare).weights P t = (elems.length + spare.length) * P.bytesOf e :: (DataW.weightsAll P e elems ++ DataW.weightsAll P e spare) := by
    unfold DataW.weights
    rw [ht]
  rw [hx] at hw'
  refine ⟨by simpa using hw' _ List.mem_cons_self, fun d hd => List.all_eq_true.2 fun n hn => ?_⟩
  exact hw' n (List.mem_cons_of_mem _ (List.mem_append_left _ (weightsAll_mem hd hn)))

theorem slice_ok {α : Type} {P : Program} {t e : TypeId} {d : Kd α} {wf : α → Prop} {bk : α → Nat} {B : Nat} (ht : P.underlying t = some (.slice e)) (hc : P.cellsOf e = d.sz) (hB : P.bytesOf e = B) (he : RdOk P e d wf bk) :
    RdOk P t (Kd.slice e d) (fun xs => xs.length ≤ maxLen ∧ xs.length * B ≤ 140737488351232 ∧ ∀ x ∈ xs, wf x) (fun xs => sumBk bk xs + 1) := by
  refine ⟨fun {H enc w base fuel cs x} h hw => ?_⟩
  rcases DataW.trod_slice ht h with ⟨rfl, rfl⟩ | ⟨a, len, cap, elems, rest, n, rfl, rfl, rfl, hb, hl, hm, hlen, hel, -, -⟩
  · exact ⟨[], ⟨none, 0, rfl, Nat.le_refl _, ⟨rfl, by simp, fun h => absurd h (by simp)⟩⟩, ⟨by simp [maxLen], by simp, fun x hx => by cases hx⟩, by simp [sumBk, Rows.uptoBulk]⟩
  · obtain ⟨hw1, hw2⟩ := weights_slice ht hw
    simp only [List.length_map] at hw1
    have each : ∀ y ∈ elems.zipIdx, ∃ b : α, (∃ c : List Value, c.length = d.sz ∧ d.K w b c ∧ ∀ i u, c[i]? = some u → w.cell? (a.add (y.2 * d.sz + i)) = some u) ∧ wf b ∧ bk b ≤ Rows.uptoBulk y.1.1 := by
      rintro ⟨y, i⟩ hy
      have hy' : elems[i]? = some y := (List.mem_zipIdx_iff_getElem?).1 hy
      have hi : i < len := by rw [← hlen]; exact (List.getElem?_eq_some_iff.1 hy').1
      have h1 := hel i hi
      rw [hy'] at h1
      obtain ⟨c, hc1, hc2⟩ := Option.bind_eq_some_iff.1 h1
      obtain ⟨b, hb1, hb2, hb3⟩ := he.rd hc2 (hw2 _ (List.mem_map.2 ⟨y, List.mem_of_getElem? hy', rfl⟩))
      obtain ⟨-, hcl, hcell⟩ := World.cells?_some hc1
      refine ⟨b, ⟨c, by rw [hcl, hc], hb1, fun j u hu => ?_⟩, hb2, hb3⟩
      have hj : j < c.length := (List.getElem?_eq_some_iff.1 hu).1
      have h2 := hcell j (by omega)
      rw [hu, Addr.add_add, hc] at h2
      exact h2
    obtain ⟨bs, hbl, hbq⟩ := list_pick _ _ each
    have hbl' : bs.length = len := by rw [hbl, List.length_zipIdx, hlen]
    have hz : ∀ (i : Nat) (b : α), bs[i]? = some b → ∃ y, elems[i]? = some y ∧ elems.zipIdx[i]? = some (y, i) := by
      intro i b hb
      have hi : i < elems.length := by rw [hlen, ← hbl']; exact (List.getElem?_eq_some_iff.1 hb).1
      refine ⟨elems[i], List.getElem?_eq_getElem hi, ?_⟩
      rw [List.getElem?_zipIdx, List.getElem?_eq_getElem hi]
      simp
    refine ⟨bs, ⟨some a, cap, by rw [hbl'], by omega, ⟨rfl, by rw [hbl']; unfold maxLen at hm; omega, fun _ => ⟨a, rfl, fun j p hp => ?_⟩⟩⟩, ⟨by rw [hbl']; omega, ?_, fun x hx => ?_⟩, ?_⟩
    · obtain ⟨y, _, hy⟩ := hz j p hp
      obtain ⟨⟨c, h1, h2, h3⟩, _, _⟩ := hbq j _ p hy hp
      exact ⟨c, h1, h2, h3⟩
    · rw [hbl', ← hlen]
      rw [hB] at hw1
      exact Nat.le_trans (Nat.mul_le_mul_right _ (Nat.le_add_right _ _)) hw1
    · obtain ⟨i, hi⟩ := List.getElem?_of_mem hx
      obtain ⟨y, _, hy⟩ := hz i x hi
      exact (hbq i _ x hy hi).2.1
    · have := bulkAll_sum (bk := bk) bs (elems.map (·.1)) (by rw [List.length_map, hbl', hlen]) (fun i z b hz' hb => by
        obtain ⟨y, hy1, hy⟩ := hz i b hb
        rw [List.getElem?_map, hy1] at hz'
        simp only [Option.map_some, Option.some.injEq] at hz'
        rw [← hz']
        exact (hbq i _ b hy hb).2.2)
      simp only [Rows.uptoBulk]
      omega

/-- The fields of a struct from one on, in line from cell 'off' on. -/
structure FieldsOk {α : Type} (P : Program) (fs : List Field) (off : Nat) (d : Kd α) (wf : α → Prop) (bk : α → Nat) : Prop where
  rd : ∀ {H : Type} {enc : TypeId × Value → H} {w : World} {base : Nat} {n : Nat} {cs : List Value} {xs : List (DataW H × List MemPlace)}, cs.length = off + d.sz → xs.length = fs.length →
    (∀ (i : Nat) (f : Field), fs[i]? = some f → DataW.trod enc P w base (fun _ => true) true n f.type ((cs.drop f.offset).take (P.cellsOf f.type)) = xs[i]?) →
    (DataW.weightsEach P (fs.map (·.type)) (xs.map (·.1))).all (· ≤ reachBytes) = true → ∃ a : α, d.K w a (cs.drop off) ∧ wf a ∧ bk a ≤ Rows.uptoBulkAll (xs.map (·.1))
theorem last_ok {α : Type} {P : Program} {f : Field} {t : TypeId} {off : Nat} {d : Kd α} {wf : α → Prop} {bk : α → Nat} (h : RdOk P t d wf bk) (hf : f.type = t) (ho : f.offset = off) (hc : P.cellsOf t = d.sz) : FieldsOk P [f] off d wf bk := by
  refine ⟨fun {H enc w base n cs xs} hl hx ht hw => ?_⟩
  subst hf
  match xs, hx with
  | [x], _ =>
    have h0 := ht 0 f rfl
    simp only [List.getElem?_cons_zero] at h0
    rw [ho, List.take_of_length_le (by rw [List.length_drop]; omega)] at h0
    obtain ⟨a, h1, h2, h3⟩ := h.rd h0 (by simpa [DataW.weightsEach] using hw)
    exact ⟨a, h1, h2, by simpa [Rows.uptoBulkAll] using h3⟩
theorem cons_ok {α β : Type} {P : Program} {f : Field} {t : TypeId} {fs : List Field} {off : Nat} {da : Kd α} {db : Kd β} {wa : α → Prop} {wb : β → Prop} {ba : α → Nat} {bb : β → Nat} (h : RdOk P t da wa ba) (hf : f.type = t) (ho : f.offset = off) (hc : P.cellsOf t = da.sz)
    (hs : FieldsOk P fs (off + da.sz) db wb bb) : FieldsOk P (f :: fs) off (Kd.pair da db) (fun x => wa x.1 ∧ wb x.2) (fun x => ba x.1 + bb x.2) := by
  refine ⟨fun {H enc w base n cs xs} hl hx ht hw => ?_⟩
  subst hf
  match xs, hx with
  | x :: xs, hx =>
    have h0 := ht 0 f rfl
    simp only [List.getElem?_cons_zero] at h0
    simp only [List.map_cons, DataW.weightsEach, List.all_append, Bool.and_eq_true] at hw
    rw [ho, hc] at h0
    obtain ⟨a, h1, h2, h3⟩ := h.rd h0 hw.1
    have hsz : (Kd.pair da db).sz = da.sz + db.sz := rfl
    obtain ⟨b, g1, g2, g3⟩ := hs.rd (n := n) (cs := cs) (xs := xs) (enc := enc) (w := w) (base := base) (by rw [hl, hsz]; omega) (by simpa using hx) (fun i g hg => by simpa using ht (i + 1) g (by simpa using hg)) hw.2
    refine ⟨(a, b), ⟨(cs.drop off).take da.sz, cs.drop (off + da.sz), ?_, h1, g1⟩, ⟨h2, g2⟩, ?_⟩
    · rw [← List.drop_drop, List.take_append_drop]
    · simp only [List.map_cons, Rows.uptoBulkAll]
      omega
theorem struct_ok {α β : Type} {P : Program} {t : TypeId} {fs : Array Field} {l : List Field} {d : Kd α} {wf : α → Prop} {bk : α → Nat} (ht : P.underlying t = some (.struct fs)) (hl : fs.toList = l) (hc : P.cellsOf t = d.sz) (h : FieldsOk P l 0 d wf bk) (f : β → α) (g : α → β) (hfg : ∀ x, f (g x) = x) :
    RdOk P t (Kd.iso d f) (fun x => wf (f x)) (fun x => bk (f x) + 1) := by
  refine ⟨fun {H enc w base fuel cs x} hx hw => ?_⟩
  subst hl
  obtain ⟨xs, n, rfl, rfl, hcs, hlen, hf⟩ := DataW.trod_struct ht hx
  have hwx : (DataW.agg (xs.map (·.1))).weights P t = DataW.weightsEach P (fs.toList.map (·.type)) (xs.map (·.1)) := by
    conv => lhs; unfold DataW.weights
    rw [ht]
  rw [hwx] at hw
  obtain ⟨a, h1, h2, h3⟩ := h.rd (n := n) (cs := cs) (xs := xs) (enc := enc) (w := w) (base := base) (by rw [hcs, hc]; omega) (by rw [hlen, Array.length_toList]) (fun i f hi => hf i f (by rw [Array.getElem?_toList] at hi; exact hi)) hw
  refine ⟨g a, ?_, ?_, ?_⟩
  · show d.K w (f (g a)) cs
    rw [hfg]
    simpa using h1
  · show wf (f (g a))
    rw [hfg]; exact h2
  · show bk (f (g a)) + 1 ≤ _
    rw [hfg]
    simp only [Rows.uptoBulk]
    omega
theorem RdOk.weaken {α : Type} {P : Program} {t : TypeId} {d : Kd α} {wf wf' : α → Prop} {bk bk' : α → Nat} (h : RdOk P t d wf bk) (h1 : ∀ x, wf x → wf' x) (h2 : ∀ x, bk' x ≤ bk x) : RdOk P t d wf' bk' := by
  refine ⟨fun {H enc w base fuel cs x} hx hw => ?_⟩
  obtain ⟨a, g1, g2, g3⟩ := h.rd hx hw
  exact ⟨a, g1, h1 a g2, Nat.le_trans (h2 a) g3⟩
end Go.Proofs.Ytaappifdpbgchaa.Reads
