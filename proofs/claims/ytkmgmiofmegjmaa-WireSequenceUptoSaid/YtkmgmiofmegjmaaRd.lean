-- Written by wip/pp.py of this repository: what the form's readings of this seat's types give.
import Derived.Test.YtkmgmiofmegjmaaReads
import Derived.Test.YtkmgmiofmegjmaaPAx0
namespace Go.Proofs.Ytkmgmiofmegjmaa.PA
open Go.RowKit Go.Proofs.YtkmgmiofmegjmaaW.PrintWords Go.Proofs.YtkmgmiofmegjmaaW.PrintLast
open Go.Proofs.Ytkmgmiofmegjmaa
def wfT5 : Int → Prop := fun n => (Lit.int .u8 n).wf = true
def bkT5 : Int → Nat := fun _ => 1
theorem rdT5 : Reads.RdOk Try.prog 5 (Kd.int .u8) wfT5 bkT5 := Reads.int_ok Try.underlying5
def wfT22 : (List Int) → Prop := fun xs => xs.length ≤ maxLen ∧ xs.length * 1 ≤ 140737488351232 ∧ ∀ x ∈ xs, wfT5 x
def bkT22 : (List Int) → Nat := fun xs => Reads.sumBk bkT5 xs + 1
theorem rdT22 : Reads.RdOk Try.prog 22 (Kd.slice 5 (Kd.int .u8)) wfT22 bkT22 := Reads.slice_ok (wf := wfT5) (bk := bkT5) Try.underlying22 (by kernel_rfl) (by kernel_rfl) rdT5
def wfT9 : ByteArray → Prop := fun s => s.size ≤ 140737488351232
def bkT9 : ByteArray → Nat := fun s => s.size + 1
theorem rdT9 : Reads.RdOk Try.prog 9 Kd.string wfT9 bkT9 := Reads.string_ok Try.underlying9
def wfT3 : Int → Prop := fun n => (Lit.int .i64 n).wf = true
def bkT3 : Int → Nat := fun _ => 1
theorem rdT3 : Reads.RdOk Try.prog 3 (Kd.int .i64) wfT3 bkT3 := Reads.int_ok Try.underlying3
def wfT34 : (List Int) → Prop := fun xs => xs.length ≤ maxLen ∧ xs.length * 8 ≤ 140737488351232 ∧ ∀ x ∈ xs, wfT3 x
def bkT34 : (List Int) → Nat := fun xs => Reads.sumBk bkT3 xs + 1
theorem rdT34 : Reads.RdOk Try.prog 34 (Kd.slice 3 (Kd.int .i64)) wfT34 bkT34 := Reads.slice_ok (wf := wfT3) (bk := bkT3) Try.underlying34 (by kernel_rfl) (by kernel_rfl) rdT3
def wfT42 : S42 → Prop := fun x => wfT3 x.f0 ∧ wfT3 x.f1 ∧ wfT9 x.f2 ∧ wfT34 x.f3
def bkT42 : S42 → Nat := fun x => bkT3 x.f0 + (bkT3 x.f1 + (bkT9 x.f2 + (bkT34 x.f3))) + 1
theorem rdT42 : Reads.RdOk Try.prog 42 k42 wfT42 bkT42 := Reads.struct_ok Try.underlying42 rfl (by kernel_rfl) (Reads.cons_ok (wa := wfT3) (ba := bkT3) rdT3 rfl rfl (by kernel_rfl) (Reads.cons_ok (wa := wfT3) (ba := bkT3) rdT3 rfl rfl (by kernel_rfl) (Reads.cons_ok (wa := wfT9) (ba := bkT9) rdT9 rfl rfl (by kernel_rfl) (Reads.last_ok (wf := wfT34) (bk := bkT34) rdT34 rfl rfl (by kernel_rfl))))) (fun x : S42 => (x.f0, x.f1, x.f2, x.f3)) (fun p => ⟨p.1, p.2.1, p.2.2.1, p.2.2.2⟩) (fun _ => rfl)
def wfT40 : (List (S42)) → Prop := fun xs => xs.length ≤ maxLen ∧ xs.length * 56 ≤ 140737488351232 ∧ ∀ x ∈ xs, wfT42 x
def bkT40 : (List (S42)) → Nat := fun xs => Reads.sumBk bkT42 xs + 1
theorem rdT40 : Reads.RdOk Try.prog 40 (Kd.slice 42 k42) wfT40 bkT40 := Reads.slice_ok (wf := wfT42) (bk := bkT42) Try.underlying40 (by kernel_rfl) (by kernel_rfl) rdT42
end Go.Proofs.Ytkmgmiofmegjmaa.PA
