-- Written by wip/pp.py of this repository: what the form's readings of this seat's types give.
import Derived.Test.YtoopfdamdghbmaaReads
import Derived.Test.YtoopfdamdghbmaaPAx0
namespace Go.Proofs.Ytoopfdamdghbmaa.PA
open Go.RowKit Go.Proofs.YtoopfdamdghbmaaW.PrintWords Go.Proofs.YtoopfdamdghbmaaW.PrintLast
open Go.Proofs.Ytoopfdamdghbmaa
def wfT3 : Int → Prop := fun n => (Lit.int .i64 n).wf = true
def bkT3 : Int → Nat := fun _ => 1
theorem rdT3 : Reads.RdOk Try.prog 3 (Kd.int .i64) wfT3 bkT3 := Reads.int_ok Try.underlying3
def wfT32 : S32 → Prop := fun x => wfT3 x.f0 ∧ wfT3 x.f1
def bkT32 : S32 → Nat := fun x => bkT3 x.f0 + (bkT3 x.f1) + 1
theorem rdT32 : Reads.RdOk Try.prog 32 k32 wfT32 bkT32 := Reads.struct_ok Try.underlying32 rfl (by kernel_rfl) (Reads.cons_ok (wa := wfT3) (ba := bkT3) rdT3 rfl rfl (by kernel_rfl) (Reads.last_ok (wf := wfT3) (bk := bkT3) rdT3 rfl rfl (by kernel_rfl))) (fun x : S32 => (x.f0, x.f1)) (fun p => ⟨p.1, p.2⟩) (fun _ => rfl)
def wfT22 : (List (S32)) → Prop := fun xs => xs.length ≤ maxLen ∧ xs.length * 16 ≤ 140737488351232 ∧ ∀ x ∈ xs, wfT32 x
def bkT22 : (List (S32)) → Nat := fun xs => Reads.sumBk bkT32 xs + 1
theorem rdT22 : Reads.RdOk Try.prog 22 (Kd.slice 32 k32) wfT22 bkT22 := Reads.slice_ok (wf := wfT32) (bk := bkT32) Try.underlying22 (by kernel_rfl) (by kernel_rfl) rdT32
def wfT25 : (List Int) → Prop := fun xs => xs.length ≤ maxLen ∧ xs.length * 8 ≤ 140737488351232 ∧ ∀ x ∈ xs, wfT3 x
def bkT25 : (List Int) → Nat := fun xs => Reads.sumBk bkT3 xs + 1
theorem rdT25 : Reads.RdOk Try.prog 25 (Kd.slice 3 (Kd.int .i64)) wfT25 bkT25 := Reads.slice_ok (wf := wfT3) (bk := bkT3) Try.underlying25 (by kernel_rfl) (by kernel_rfl) rdT3
structure S27 where
  f0 : (List Int)
def k27 : Kd S27 := Kd.iso (Kd.slice 3 (Kd.int .i64)) (fun x : S27 => (x.f0))
theorem k27_open {w : World} {x : S27} {cs : List Value} (h : k27.K w x cs) : ∃ A0 c0, cs = [.slice A0 x.f0.length c0] ∧ x.f0.length ≤ c0 ∧ (Kd.int .i64).C w A0 x.f0.length x.f0 := by
  obtain ⟨A0, c0, rfl, l0, g0⟩ := h
  exact ⟨A0, c0, rfl, l0, g0⟩
def wfT27 : S27 → Prop := fun x => wfT25 x.f0
def bkT27 : S27 → Nat := fun x => bkT25 x.f0 + 1
theorem rdT27 : Reads.RdOk Try.prog 27 k27 wfT27 bkT27 := Reads.struct_ok Try.underlying27 rfl (by kernel_rfl) (Reads.last_ok (wf := wfT25) (bk := bkT25) rdT25 rfl rfl (by kernel_rfl)) (fun x : S27 => (x.f0)) (fun p => ⟨p⟩) (fun _ => rfl)
end Go.Proofs.Ytoopfdamdghbmaa.PA
