-- Written by wip/pp.py of this repository: what the form's readings of this seat's types give.
import Derived.Test.YtjicigagejihhaaReads
import Derived.Test.YtjicigagejihhaaPAx0
namespace Go.Proofs.Ytjicigagejihhaa.PA
open Go.RowKit Go.Proofs.YtjicigagejihhaaW.PrintWords Go.Proofs.YtjicigagejihhaaW.PrintLast
open Go.Proofs.Ytjicigagejihhaa
def wfT5 : Int → Prop := fun n => (Lit.int .u8 n).wf = true
def bkT5 : Int → Nat := fun _ => 1
theorem rdT5 : Reads.RdOk Try.prog 5 (Kd.int .u8) wfT5 bkT5 := Reads.int_ok Try.underlying5
def wfT26 : (List Int) → Prop := fun xs => xs.length ≤ maxLen ∧ xs.length * 1 ≤ 140737488351232 ∧ ∀ x ∈ xs, wfT5 x
def bkT26 : (List Int) → Nat := fun xs => Reads.sumBk bkT5 xs + 1
theorem rdT26 : Reads.RdOk Try.prog 26 (Kd.slice 5 (Kd.int .u8)) wfT26 bkT26 := Reads.slice_ok (wf := wfT5) (bk := bkT5) Try.underlying26 (by kernel_rfl) (by kernel_rfl) rdT5
def wfT22 : (List (List Int)) → Prop := fun xs => xs.length ≤ maxLen ∧ xs.length * 24 ≤ 140737488351232 ∧ ∀ x ∈ xs, wfT26 x
def bkT22 : (List (List Int)) → Nat := fun xs => Reads.sumBk bkT26 xs + 1
theorem rdT22 : Reads.RdOk Try.prog 22 (Kd.slice 26 (Kd.slice 5 (Kd.int .u8))) wfT22 bkT22 := Reads.slice_ok (wf := wfT26) (bk := bkT26) Try.underlying22 (by kernel_rfl) (by kernel_rfl) rdT26
def wfT3 : Int → Prop := fun n => (Lit.int .i64 n).wf = true
def bkT3 : Int → Nat := fun _ => 1
theorem rdT3 : Reads.RdOk Try.prog 3 (Kd.int .i64) wfT3 bkT3 := Reads.int_ok Try.underlying3
def wfT53 : S53 → Prop := fun x => wfT3 x.f0 ∧ wfT26 x.f1
def bkT53 : S53 → Nat := fun x => bkT3 x.f0 + (bkT26 x.f1) + 1
theorem rdT53 : Reads.RdOk Try.prog 53 k53 wfT53 bkT53 := Reads.struct_ok Try.underlying53 rfl (by kernel_rfl) (Reads.cons_ok (wa := wfT3) (ba := bkT3) rdT3 rfl rfl (by kernel_rfl) (Reads.last_ok (wf := wfT26) (bk := bkT26) rdT26 rfl rfl (by kernel_rfl))) (fun x : S53 => (x.f0, x.f1)) (fun p => ⟨p.1, p.2⟩) (fun _ => rfl)
def wfT23 : (List (S53)) → Prop := fun xs => xs.length ≤ maxLen ∧ xs.length * 32 ≤ 140737488351232 ∧ ∀ x ∈ xs, wfT53 x
def bkT23 : (List (S53)) → Nat := fun xs => Reads.sumBk bkT53 xs + 1
theorem rdT23 : Reads.RdOk Try.prog 23 (Kd.slice 53 k53) wfT23 bkT23 := Reads.slice_ok (wf := wfT53) (bk := bkT53) Try.underlying23 (by kernel_rfl) (by kernel_rfl) rdT53
def wfT4 : Bool → Prop := fun _ => True
def bkT4 : Bool → Nat := fun _ => 1
theorem rdT4 : Reads.RdOk Try.prog 4 Kd.bool wfT4 bkT4 := Reads.bool_ok Try.underlying4
structure S25 where
  f0 : (List (List Int))
  f1 : (List (S53))
  f2 : Int
  f3 : Bool
def k25 : Kd S25 := Kd.iso (Kd.pair (Kd.slice 26 (Kd.slice 5 (Kd.int .u8))) (Kd.pair (Kd.slice 53 k53) (Kd.pair (Kd.int .i64) Kd.bool))) (fun x : S25 => (x.f0, x.f1, x.f2, x.f3))
theorem k25_open {w : World} {x : S25} {cs : List Value} (h : k25.K w x cs) : ∃ A0 c0 A1 c1, cs = [.slice A0 x.f0.length c0, .slice A1 x.f1.length c1, .int .i64 x.f2, .bool x.f3] ∧ x.f0.length ≤ c0 ∧ (Kd.slice 5 (Kd.int .u8)).C w A0 x.f0.length x.f0 ∧ x.f1.length ≤ c1 ∧ k53.C w A1 x.f1.length x.f1 := by
  obtain ⟨_, _, rfl, ⟨A0, c0, rfl, l0, g0⟩, ⟨_, _, rfl, ⟨A1, c1, rfl, l1, g1⟩, ⟨_, _, rfl, rfl, rfl⟩⟩⟩ := h
  exact ⟨A0, c0, A1, c1, rfl, l0, g0, l1, g1⟩
def wfT25 : S25 → Prop := fun x => wfT22 x.f0 ∧ wfT23 x.f1 ∧ wfT3 x.f2 ∧ wfT4 x.f3
def bkT25 : S25 → Nat := fun x => bkT22 x.f0 + (bkT23 x.f1 + (bkT3 x.f2 + (bkT4 x.f3))) + 1
theorem rdT25 : Reads.RdOk Try.prog 25 k25 wfT25 bkT25 := Reads.struct_ok Try.underlying25 rfl (by kernel_rfl) (Reads.cons_ok (wa := wfT22) (ba := bkT22) rdT22 rfl rfl (by kernel_rfl) (Reads.cons_ok (wa := wfT23) (ba := bkT23) rdT23 rfl rfl (by kernel_rfl) (Reads.cons_ok (wa := wfT3) (ba := bkT3) rdT3 rfl rfl (by kernel_rfl) (Reads.last_ok (wf := wfT4) (bk := bkT4) rdT4 rfl rfl (by kernel_rfl))))) (fun x : S25 => (x.f0, x.f1, x.f2, x.f3)) (fun p => ⟨p.1, p.2.1, p.2.2.1, p.2.2.2⟩) (fun _ => rfl)
def wfT38 : (List Int) → Prop := fun xs => xs.length ≤ maxLen ∧ xs.length * 8 ≤ 140737488351232 ∧ ∀ x ∈ xs, wfT3 x
def bkT38 : (List Int) → Nat := fun xs => Reads.sumBk bkT3 xs + 1
theorem rdT38 : Reads.RdOk Try.prog 38 (Kd.slice 3 (Kd.int .i64)) wfT38 bkT38 := Reads.slice_ok (wf := wfT3) (bk := bkT3) Try.underlying38 (by kernel_rfl) (by kernel_rfl) rdT3
def wfT55 : S55 → Prop := fun x => wfT3 x.f0 ∧ wfT5 x.f1
def bkT55 : S55 → Nat := fun x => bkT3 x.f0 + (bkT5 x.f1) + 1
theorem rdT55 : Reads.RdOk Try.prog 55 k55 wfT55 bkT55 := Reads.struct_ok Try.underlying55 rfl (by kernel_rfl) (Reads.cons_ok (wa := wfT3) (ba := bkT3) rdT3 rfl rfl (by kernel_rfl) (Reads.last_ok (wf := wfT5) (bk := bkT5) rdT5 rfl rfl (by kernel_rfl))) (fun x : S55 => (x.f0, x.f1)) (fun p => ⟨p.1, p.2⟩) (fun _ => rfl)
def wfT47 : (List (S55)) → Prop := fun xs => xs.length ≤ maxLen ∧ xs.length * 16 ≤ 140737488351232 ∧ ∀ x ∈ xs, wfT55 x
def bkT47 : (List (S55)) → Nat := fun xs => Reads.sumBk bkT55 xs + 1
theorem rdT47 : Reads.RdOk Try.prog 47 (Kd.slice 55 k55) wfT47 bkT47 := Reads.slice_ok (wf := wfT55) (bk := bkT55) Try.underlying47 (by kernel_rfl) (by kernel_rfl) rdT55
end Go.Proofs.Ytjicigagejihhaa.PA
