-- Written by wip/pp.py of this repository: the row of the law mapsheets/mapsheetslaw27.VclockReports.
import Derived.Test.YtoopfdamdghbmaaRows
import Derived.Test.YtoopfdamdghbmaaRd
import Derived.Test.YtoopfdamdghbmaaPAx16
import Derived.Test.YtoopfdamdghbmaaPureVclockReports
import Derived.WalkKit
import Derived.ProofKit
import Derived.OpenShut
import Derived.ShutString
import Derived.ChangeOld
import Derived.Below
import Derived.SizedLaws
namespace Go.Proofs.Ytoopfdamdghbmaa.vclockReports
open Go.ChangeShapes Go.WideShapes Go.ChangeAt Go.RowKit
open Go.ChangeMaps (open_string shut_string)
open Go.Proofs.YtoopfdamdghbmaaW.PrintWords
set_option linter.unusedVariables false
theorem own : ownKnob Try.prog.godebug = none := by kernel_rfl
theorem laidOut : laidOutB Try.prog = true := by kernel_rfl
set_option maxRecDepth 100000 in
theorem lifted (os : Os) (started : os.Started) (H : Type) (enc : TypeId × Value → H) :
    ReturnsInHanded {} Try.checked os 4 .any (Rows.vclockReportsSpec.pre6 enc Try.prog Try.f4 Rows.vclockReportsRow.domain false) (Rows.vclockReportsSpec.post enc Try.prog Try.f4 false true false false) := by
  refine returnsInHanded_of_change_sized (C := Try.checked) own started (by kernel_rfl) Try.func4
    (ChangeSpec.witness6 (enc := enc) (C := Try.checked) false ⟨#[], #[.agg #[.slice none 0 0], .int .i64 0, .int .i64 0], []⟩ 8 (by kernel_rfl) (by kernel_rfl) (by kernel_rfl) (by kernel_rfl)) ?_
  intro W base args ds gs before hval0 hW hcnd hsz0 _
  have hsz : (DataW.weightsEach Try.prog (Try.f4.params.toList ++ Rows.vclockReportsSpec.plain.varTypes Try.prog) (ds ++ gs)).all (· ≤ reachBytes) = true := hsz0
  have hval : ∀ (j : Nat) t v, Try.f4.params[j]? = some t → args[j]? = some v → Value.okWide Try.prog W .any base t v := hval0
  have hW' := hW
  obtain ⟨p, q, hA0, hV, rfl, hfz, hnd⟩ := hW
  have hA : DataW.TrodAll enc Try.prog W 0 (fun _ => true) true Try.f4.params.toList args.toList ds p := hA0
  rw [Try.params4] at hA hval hsz
  obtain ⟨v0, vs0, d0, ds0, p0, q0, hargs, rfl, rfl, h0, r0⟩ := trodAll_cons hA
  obtain ⟨v1, vs1, d1, ds1, p1, q1, rfl, rfl, rfl, h1, r1⟩ := trodAll_cons r0
  obtain ⟨v2, vs2, d2, ds2, p2, q2, rfl, rfl, rfl, h2, r2⟩ := trodAll_cons r1
  obtain ⟨rfl, rfl, rfl⟩ := trodAll_nil r2
  obtain rfl : args = #[v0, v1, v2] := by cases args; simp_all
  obtain ⟨rfl, rfl⟩ := trodVars_none hV
  have hw0 : (d0.weights Try.prog 27).all (· ≤ reachBytes) = true := List.all_eq_true.2 fun m_ hm_ => List.all_eq_true.1 hsz m_ (DataW.weights_mem_each (j := 0) (t := 27) rfl rfl m_ hm_)
  have k0 := h0
  have lt0 : ∀ x ∈ p0, x.block < W.heap.size := by obtain ⟨m, hm⟩ := k0; exact DataW.trod_lt m _ _ _ hm
  obtain ⟨fuel0, hf0⟩ := h0
  obtain ⟨x0, hK0, wf0, hb0⟩ := PA.rdT27.rd hf0 hw0
  obtain ⟨cs0, rfl, hsz0_⟩ := okWide_struct Try.underlying27 (hval 0 27 v0 rfl rfl)
  have hcs0 : (Value.agg cs0).cells.toList = cs0.toList := by simp [Value.cells]
  rw [hcs0] at hK0
  obtain ⟨A0_0, c0_0, he0, hl0_0, hC0_0⟩ := PA.k27_open hK0
  have hcs0_ := (Array.toArray_toList (xs := cs0)).symm.trans (congrArg List.toArray he0)
  subst hcs0_
  have hw1 : (d1.weights Try.prog 3).all (· ≤ reachBytes) = true := List.all_eq_true.2 fun m_ hm_ => List.all_eq_true.1 hsz m_ (DataW.weights_mem_each (j := 1) (t := 3) rfl rfl m_ hm_)
  have k1 := h1
  have lt1 : ∀ x ∈ p1, x.block < W.heap.size := by obtain ⟨m, hm⟩ := k1; exact DataW.trod_lt m _ _ _ hm
  obtain ⟨fuel1, hf1⟩ := h1
  obtain ⟨x1, hK1, wf1, hb1⟩ := PA.rdT3.rd hf1 hw1
  obtain ⟨y1, rfl⟩ := okWide_int Try.underlying3 (hval 1 3 v1 rfl rfl)
  obtain rfl : x1 = y1 := by have hk_ : _ = [_] := hK1; simpa [Value.cells, eq_comm] using hk_
  have hw2 : (d2.weights Try.prog 3).all (· ≤ reachBytes) = true := List.all_eq_true.2 fun m_ hm_ => List.all_eq_true.1 hsz m_ (DataW.weights_mem_each (j := 2) (t := 3) rfl rfl m_ hm_)
  have k2 := h2
  have lt2 : ∀ x ∈ p2, x.block < W.heap.size := by obtain ⟨m, hm⟩ := k2; exact DataW.trod_lt m _ _ _ hm
  obtain ⟨fuel2, hf2⟩ := h2
  obtain ⟨x2, hK2, wf2, hb2⟩ := PA.rdT3.rd hf2 hw2
  obtain ⟨y2, rfl⟩ := okWide_int Try.underlying3 (hval 2 3 v2 rfl rfl)
  obtain rfl : x2 = y2 := by have hk_ : _ = [_] := hK2; simpa [Value.cells, eq_comm] using hk_
  clear hA0 hval0 hsz0 hsz
  obtain ⟨k, h⟩ := Pure.VclockReports x0 x1 x2 wf0 wf1 wf2
  refine (PA.mapsheetslaw27_VclockReports.calls k _ _ x0.f0 x1 x2 true W hC0_0 hl0_0 h).mono fun e W' ⟨he, bel0⟩ => ?_
  subst he
  have bel : Below W.heap.size W W' := bel0
  exact ⟨_, rfl, _, _, _, [], _, [], hW', trodAll_mk1 (shut_bool Try.underlying4 _), (trodAll_cons_mk (Below.trod laidOut (by kernel_rfl) (of_decide_eq_true (by kernel_rfl)) k0 bel lt0) (trodAll_cons_mk (Below.trod laidOut (by kernel_rfl) (of_decide_eq_true (by kernel_rfl)) k1 bel lt1) (trodAll_cons_mk (Below.trod laidOut (by kernel_rfl) (of_decide_eq_true (by kernel_rfl)) k2 bel lt2) trodAll_mk0))), rfl, bel.frame _, fun h => by cases h⟩
theorem over : Rows.vclockReportsRow.holds Try.pinned (OpenSpec.ofChange Rows.vclockReportsSpec) :=
  OpenClaim.holds_of_wide 4 Try.f4 rfl rfl rfl rfl rfl rfl rfl ⟨rfl, rfl, rfl, rfl, rfl⟩ rfl rfl rfl rfl rfl (by kernel_rfl) Try.func4 (by kernel_rfl)
    (of_decide_eq_true (by kernel_rfl)) (by unfold Func.isWrapper; first | (rw [if_pos (by decide +kernel)]; kernel_rfl) | (rw [if_neg (by decide +kernel)]; exact ⟨rfl, rfl⟩))
    (fun os started H enc _ => lifted os started H enc)
theorem proved : Rows.VclockReportsSaid := over
#print axioms proved
end Go.Proofs.Ytoopfdamdghbmaa.vclockReports
namespace Go.Proofs.Ytoopfdamdghbmaa
/-- The row, under a short name, for the claim. -/
theorem vclockReports_holds : Rows.VclockReportsSaid := vclockReports.proved
end Go.Proofs.Ytoopfdamdghbmaa
