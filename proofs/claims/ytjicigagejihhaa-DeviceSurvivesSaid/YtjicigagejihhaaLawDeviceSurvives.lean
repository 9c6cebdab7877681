-- Written by wip/pp.py of this repository: the row of the law mapsheets/mapsheetslaw24.DeviceSurvives.
import Derived.Test.YtjicigagejihhaaRows
import Derived.Test.YtjicigagejihhaaRd
import Derived.Test.YtjicigagejihhaaPAx33
import Derived.Test.YtjicigagejihhaaPureDeviceSurvives
import Derived.WalkKit
import Derived.ProofKit
import Derived.OpenShut
import Derived.ShutString
import Derived.ChangeOld
import Derived.Below
import Derived.SizedLaws
namespace Go.Proofs.Ytjicigagejihhaa.deviceSurvives
open Go.ChangeShapes Go.WideShapes Go.ChangeAt Go.RowKit
open Go.ChangeMaps (open_string shut_string)
open Go.Proofs.YtjicigagejihhaaW.PrintWords
set_option linter.unusedVariables false
theorem own : ownKnob Try.prog.godebug = none := by kernel_rfl
theorem laidOut : laidOutB Try.prog = true := by kernel_rfl
set_option maxRecDepth 100000 in
theorem lifted (os : Os) (started : os.Started) (H : Type) (enc : TypeId × Value → H) :
    ReturnsInHanded {} Try.checked os 8 .any (Rows.deviceSurvivesSpec.pre6 enc Try.prog Try.f8 Rows.deviceSurvivesRow.domain false) (Rows.deviceSurvivesSpec.post enc Try.prog Try.f8 false true false false) := by
  refine returnsInHanded_of_change_sized (C := Try.checked) own started (by kernel_rfl) Try.func8
    (ChangeSpec.witness6 (enc := enc) (C := Try.checked) false ⟨#[], #[.agg #[.slice none 0 0, .slice none 0 0, .int .i64 0, .bool false], .slice none 0 0], []⟩ 8 (by kernel_rfl) (by kernel_rfl) (by kernel_rfl) (by kernel_rfl)) ?_
  intro W base args ds gs before hval0 hW hcnd hsz0 _
  have hsz : (DataW.weightsEach Try.prog (Try.f8.params.toList ++ Rows.deviceSurvivesSpec.plain.varTypes Try.prog) (ds ++ gs)).all (· ≤ reachBytes) = true := hsz0
  have hval : ∀ (j : Nat) t v, Try.f8.params[j]? = some t → args[j]? = some v → Value.okWide Try.prog W .any base t v := hval0
  have hW' := hW
  obtain ⟨p, q, hA0, hV, rfl, hfz, hnd⟩ := hW
  have hA : DataW.TrodAll enc Try.prog W 0 (fun _ => true) true Try.f8.params.toList args.toList ds p := hA0
  rw [Try.params8] at hA hval hsz
  obtain ⟨v0, vs0, d0, ds0, p0, q0, hargs, rfl, rfl, h0, r0⟩ := trodAll_cons hA
  obtain ⟨v1, vs1, d1, ds1, p1, q1, rfl, rfl, rfl, h1, r1⟩ := trodAll_cons r0
  obtain ⟨rfl, rfl, rfl⟩ := trodAll_nil r1
  obtain rfl : args = #[v0, v1] := by cases args; simp_all
  obtain ⟨rfl, rfl⟩ := trodVars_none hV
  have hw0 : (d0.weights Try.prog 25).all (· ≤ reachBytes) = true := List.all_eq_true.2 fun m_ hm_ => List.all_eq_true.1 hsz m_ (DataW.weights_mem_each (j := 0) (t := 25) rfl rfl m_ hm_)
  have k0 := h0
  have lt0 : ∀ x ∈ p0, x.block < W.heap.size := by obtain ⟨m, hm⟩ := k0; exact DataW.trod_lt m _ _ _ hm
  obtain ⟨fuel0, hf0⟩ := h0
  obtain ⟨x0, hK0, wf0, hb0⟩ := PA.rdT25.rd hf0 hw0
  obtain ⟨cs0, rfl, hsz0_⟩ := okWide_struct Try.underlying25 (hval 0 25 v0 rfl rfl)
  have hcs0 : (Value.agg cs0).cells.toList = cs0.toList := by simp [Value.cells]
  rw [hcs0] at hK0
  obtain ⟨A0_0, c0_0, A0_1, c0_1, he0, hl0_0, hC0_0, hl0_1, hC0_1⟩ := PA.k25_open hK0
  have hcs0_ := (Array.toArray_toList (xs := cs0)).symm.trans (congrArg List.toArray he0)
  subst hcs0_
  have hw1 : (d1.weights Try.prog 38).all (· ≤ reachBytes) = true := List.all_eq_true.2 fun m_ hm_ => List.all_eq_true.1 hsz m_ (DataW.weights_mem_each (j := 1) (t := 38) rfl rfl m_ hm_)
  have k1 := h1
  have lt1 : ∀ x ∈ p1, x.block < W.heap.size := by obtain ⟨m, hm⟩ := k1; exact DataW.trod_lt m _ _ _ hm
  obtain ⟨fuel1, hf1⟩ := h1
  obtain ⟨x1, hK1, wf1, hb1⟩ := PA.rdT38.rd hf1 hw1
  obtain ⟨a1, len1, cap1, rfl⟩ := okWide_slice Try.underlying38 (hval 1 38 v1 rfl rfl)
  obtain ⟨A1, c1, he1, hl1, hC1⟩ := hK1
  simp only [Value.cells] at he1
  obtain ⟨rfl, rfl, rfl⟩ : a1 = A1 ∧ len1 = x1.length ∧ cap1 = c1 := by simpa using he1
  clear hA0 hval0 hsz0 hsz
  obtain ⟨k, h⟩ := Pure.DeviceSurvives x0 x1 wf0 wf1
  refine (PA.mapsheetslaw24_DeviceSurvives.calls k (fun k_ => k_ < W.heap.size) _ _ x0.f0 (fun k_ => k_ < W.heap.size) _ _ x0.f1 x0.f2 x0.f3 _ _ x1 true W (Kd.V_mk hl0_0 (Kd.C_F (Kd.heap_slice 5 (Kd.heap_int .u8)) hC0_0)) (Kd.V_mk hl0_1 (Kd.C_F PA.k53_heap hC0_1)) hC1 hl1 h).mono fun e W' ⟨he, bel0⟩ => ?_
  subst he
  have bel : Below W.heap.size W W' := bel0
  exact ⟨_, rfl, _, _, _, [], _, [], hW', trodAll_mk1 (shut_bool Try.underlying4 _), (trodAll_cons_mk (Below.trod laidOut (by kernel_rfl) (of_decide_eq_true (by kernel_rfl)) k0 bel lt0) (trodAll_cons_mk (Below.trod laidOut (by kernel_rfl) (of_decide_eq_true (by kernel_rfl)) k1 bel lt1) trodAll_mk0)), rfl, bel.frame _, fun h => by cases h⟩
theorem over : Rows.deviceSurvivesRow.holds Try.pinned (OpenSpec.ofChange Rows.deviceSurvivesSpec) :=
  OpenClaim.holds_of_wide 8 Try.f8 rfl rfl rfl rfl rfl rfl rfl ⟨rfl, rfl, rfl, rfl, rfl⟩ rfl rfl rfl rfl rfl (by kernel_rfl) Try.func8 (by kernel_rfl)
    (of_decide_eq_true (by kernel_rfl)) (by unfold Func.isWrapper; first | (rw [if_pos (by decide +kernel)]; kernel_rfl) | (rw [if_neg (by decide +kernel)]; exact ⟨rfl, rfl⟩))
    (fun os started H enc _ => lifted os started H enc)
theorem proved : Rows.DeviceSurvivesSaid := over
#print axioms proved
end Go.Proofs.Ytjicigagejihhaa.deviceSurvives
namespace Go.Proofs.Ytjicigagejihhaa
/-- The row, under a short name, for the claim. -/
theorem deviceSurvives_holds : Rows.DeviceSurvivesSaid := deviceSurvives.proved
end Go.Proofs.Ytjicigagejihhaa
