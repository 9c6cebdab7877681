-- Written by wip/pp.py of this repository, on the kit's print program. Not trusted: Lean checks it.
import Derived.Test.YtjicigagejihhaaPAx0
namespace Go.Proofs.Ytjicigagejihhaa.PA
open Go.RowKit Go.Proofs.YtjicigagejihhaaW.PrintWords Go.Proofs.YtjicigagejihhaaW.PrintLast Go.Proofs.YtjicigagejihhaaW.PrintMore
attribute [local go_sem] max2_int min2_int max_two min_two max_three min_three max_four min_four   -- for this text's walks alone
set_option linter.unusedVariables false
set_option linter.unusedSimpArgs false

/-! ### device_own: function 34 -/
def device_own.f (l0 : List Int) : Option (List Int) := if l0.length * 1 ≤ 140737488355328 then some l0 else none
set_option maxHeartbeats 1000000 in
theorem device_own.calls (A0 : Option Addr) (c0 : Nat) (l0 : List Int) (r : List Int) (w : World) (hr0 : Kd.C (Kd.int .u8) w A0 l0.length l0) (hc0 : l0.length ≤ c0) (h : device_own.f l0 = some r) :
    Calls Try.prog 34 #[.slice A0 l0.length c0] w fun e w' => ∃ v0_ : Value, e = .returned (v0_) ∧ Kd.R (Kd.int .u8) 5 w' w.heap.size (fun _ => True) v0_ r ∧ Below w.heap.size w w' := by
  unfold device_own.f at h
  by_cases g : l0.length * 1 ≤ 140737488355328
  case neg => rw [if_neg g] at h; cases h
  rw [if_pos g] at h
  injection h with h
  have HG := Aside0.mk g
  have HH := Aside0.mk h
  have HR := Aside0.mk hr0
  have HB := Aside0.mk (Below.refl w.heap.size w)
  clear h g hr0
  go_enter Try.func34, Try.ntmps34
  go_wp2_with (first | ((with_reducible refine gate_dst (N := 6) rfl ?_); refine Kd.R_make (Kd.int .u8) _ 5 rfl (N := 6) rfl 26 _ _ rfl (l0.length : Int) rfl rfl Try.underlying26 (.int .u8 0) 1 info5 rfl (by decide) (by omega) (0 : Int) (ok := fun _ => True) (okp := fun _ => True) rfl (fun _ hk => hk) trivial (by omega) (by have := HG.out; omega) (Below.refl _ _) (Nat.le_refl _) ?_; intro v133 w3 ho4 hb hg_ hnew_; clear hg_ hnew_; have HO5 := Aside0.mk ho4; have HB1 := Aside0.mk hb; clear hb ho4) | ((with_reducible refine gate_builtin (b := .copy) (xs := #[.tmp 7, .tmp 8]) rfl ?_); refine Kd.R_copy (0 : Int) (w0 := w) w.heap.size rfl (.tmp 7) (.tmp 8) 26 26 5 rfl Try.underlying26 (by kernel_rfl) v133 _ l0 A0 l0.length c0 (fun _ => True) rfl rfl HO5.out (Kd.C_below HR.out HB1.out) HB1.out (below_size HB1.out) ?_; intro w8 ho hb _; have HO6 := Aside0.mk ho; have HB2 := Aside0.mk hb; clear ho hb))
  go_ret
  refine ⟨_, rfl, ?_, HB2.out⟩
  have h6 := HO6.out
  rw [List.length_replicate, Int.toNat_natCast, Nat.min_self, List.take_length, List.drop_of_length_le (by rw [List.length_replicate]; omega), List.append_nil] at h6
  rw [← HH.out]
  exact h6

end Go.Proofs.Ytjicigagejihhaa.PA
