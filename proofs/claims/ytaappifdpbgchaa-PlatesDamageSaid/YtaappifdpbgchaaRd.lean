-- Written by wip/pp.py of this repository: what the form's readings of this seat's types give.
import Derived.Test.YtaappifdpbgchaaReads
import Derived.Test.YtaappifdpbgchaaPAx0
namespace Go.Proofs.Ytaappifdpbgchaa.PA
open Go.RowKit Go.Proofs.YtaappifdpbgchaaW.PrintWords Go.Proofs.YtaappifdpbgchaaW.PrintLast
open Go.Proofs.Ytaappifdpbgchaa
def wfT3 : Int → Prop := fun n => (Lit.int .i64 n).wf = true
def bkT3 : Int → Nat := fun _ => 1
theorem rdT3 : Reads.RdOk Try.prog 3 (Kd.int .i64) wfT3 bkT3 := Reads.int_ok Try.underlying3
def wfT22 : (List Int) → Prop := fun xs => xs.length ≤ maxLen ∧ xs.length * 8 ≤ 140737488351232 ∧ ∀ x ∈ xs, wfT3 x
def bkT22 : (List Int) → Nat := fun xs => Reads.sumBk bkT3 xs + 1
theorem rdT22 : Reads.RdOk Try.prog 22 (Kd.slice 3 (Kd.int .i64)) wfT22 bkT22 := Reads.slice_ok (wf := wfT3) (bk := bkT3) Try.underlying22 (by kernel_rfl) (by kernel_rfl) rdT3
structure S24 where
  f0 : Int
  f1 : Int
  f2 : (List Int)
def k24 : Kd S24 := Kd.iso (Kd.pair (Kd.int .i64) (Kd.pair (Kd.int .i64) (Kd.slice 3 (Kd.int .i64)))) (fun x : S24 => (x.f0, x.f1, x.f2))
theorem k24_open {w : World} {x : S24} {cs : List Value} (h : k24.K w x cs) : ∃ A2 c2, cs = [.int .i64 x.f0, .int .i64 x.f1, .slice A2 x.f2.length c2] ∧ x.f2.length ≤ c2 ∧ (Kd.int .i64).C w A2 x.f2.length x.f2 := by
  obtain ⟨_, _, rfl, rfl, ⟨_, _, rfl, rfl, ⟨A2, c2, rfl, l2, g2⟩⟩⟩ := h
  exact ⟨A2, c2, rfl, l2, g2⟩
def wfT24 : S24 → Prop := fun x => wfT3 x.f0 ∧ wfT3 x.f1 ∧ wfT22 x.f2
def bkT24 : S24 → Nat := fun x => bkT3 x.f0 + (bkT3 x.f1 + (bkT22 x.f2)) + 1
theorem rdT24 : Reads.RdOk Try.prog 24 k24 wfT24 bkT24 := Reads.struct_ok Try.underlying24 rfl (by kernel_rfl) (Reads.cons_ok (wa := wfT3) (ba := bkT3) rdT3 rfl rfl (by kernel_rfl) (Reads.cons_ok (wa := wfT3) (ba := bkT3) rdT3 rfl rfl (by kernel_rfl) (Reads.last_ok (wf := wfT22) (bk := bkT22) rdT22 rfl rfl (by kernel_rfl)))) (fun x : S24 => (x.f0, x.f1, x.f2)) (fun p => ⟨p.1, p.2.1, p.2.2⟩) (fun _ => rfl)
def wfT5 : Int → Prop := fun n => (Lit.int .u8 n).wf = true
def bkT5 : Int → Nat := fun _ => 1
theorem rdT5 : Reads.RdOk Try.prog 5 (Kd.int .u8) wfT5 bkT5 := Reads.int_ok Try.underlying5
end Go.Proofs.Ytaappifdpbgchaa.PA
