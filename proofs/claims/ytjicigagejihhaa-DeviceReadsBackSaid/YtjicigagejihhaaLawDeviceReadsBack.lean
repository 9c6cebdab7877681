-- Written by wip/pp.py of this repository: the row of the law mapsheets/mapsheetslaw24.DeviceReadsBack.
import Derived.Test.YtjicigagejihhaaRows
import Derived.Test.YtjicigagejihhaaRd
import Derived.Test.YtjicigagejihhaaPAx27
import Derived.Test.YtjicigagejihhaaPureDeviceReadsBack
import Derived.WalkKit
import Derived.ProofKit
import Derived.OpenShut
import Derived.ShutString
import Derived.ChangeOld
import Derived.Below
import Derived.SizedLaws
namespace Go.Proofs.Ytjicigagejihhaa.deviceReadsBack
open Go.ChangeShapes Go.WideShapes Go.ChangeAt Go.RowKit
open Go.ChangeMaps (open_string shut_string)
open Go.Proofs.YtjicigagejihhaaW.PrintWords
set_option linter.unusedVariables false
theorem own : ownKnob Try.prog.godebug = none := by kernel_rfl
theorem laidOut : laidOutB Try.prog = true := by kernel_rfl
set_option maxRecDepth 100000 in
theorem lifted (os : Os) (started : os.Started) (H : Type) (enc : TypeId × Value → H) :
    ReturnsInHanded {} Try.checked os 5 .any (Rows.deviceReadsBackSpec.pre6 enc Try.prog Try.f5 Rows.deviceReadsBackRow.domain false) (Rows.deviceReadsBackSpec.post enc Try.prog Try.f5 false true false false) := by
  refine returnsInHanded_of_change_sized (C := Try.checked) own started (by kernel_rfl) Try.func5
    (ChangeSpec.witness6 (enc := enc) (C := Try.checked) false ⟨#[], #[.agg #[.slice none 0 0, .slice none 0 0, .int .i64 0, .bool false], .int .i64 0, .slice none 0 0], []⟩ 8 (by kernel_rfl) (by kernel_rfl) (by kernel_rfl) (by kernel_rfl)) ?_
  intro W base args ds gs before hval0 hW hcnd hsz0 _
  have hsz : (DataW.weightsEach Try.prog (Try.f5.params.toList ++ Rows.deviceReadsBackSpec.plain.varTypes Try.prog) (ds ++ gs)).all (· ≤ reachBytes) = true := hsz0
  have hval : ∀ (j : Nat) t v, Try.f5.params[j]? = some t → args[j]? = some v → Value.okWide Try.prog W .any base t v := hval0
  have hW' := hW
  obtain ⟨p, q, hA0, hV, rfl, hfz, hnd⟩ := hW
  have hA : DataW.TrodAll enc Try.prog W 0 (fun _ => true) true Try.f5.params.toList args.toList ds p := hA0
  rw [Try.params5] at hA hval hsz
  obtain ⟨v0, vs0, d0, ds0, p0, q0, hargs, rfl, rfl, h0, r0⟩ := trodAll_cons hA
  obtain ⟨v1, vs1, d1, ds1, p1, q1, rfl, rfl, rfl, h1, r1⟩ := trodAll_cons r0
  obtain ⟨v2, vs2, d2, ds2, p2, q2, rfl, rfl, rfl, h2, r2⟩ := trodAll_cons r1
  obtain ⟨rfl, rfl, rfl⟩ := trodAll_nil r2
  obtain rfl : args = #[v0, v1, v2] := by cases args; simp_all
  obtain ⟨rfl, rfl⟩ := trodVars_none hV
  have hw0 : (d0.weights Try.prog 25).all (· ≤ reachBytes) = true := List.all_eq_true.2 fun m_ hm_ => List.all_eq_true.1 hsz m_ (DataW.weights_mem_each (j := 0) (t := 25) rfl rfl m_ hm_)
  have k0 := h0
  have lt0 : ∀ x ∈ p0, x.block < W.heap.size := by obtain ⟨m, hm⟩ := k0; exact DataW.trod_lt m _ _ _ hm
  obtain ⟨fuel0, hf0⟩ := h0
  obtain ⟨x0, hK0, wf0, hb0⟩ := PA.rdT25.rd hf0 hw0
  obtain ⟨cs0, rfl, hsz0_⟩ := okWide_struct Try.underlying25 (hval 0 25 v0 rfl rfl)
  have hcs0 : (Value.agg cs0).cells.toList = cs0.toList := by simp [Value.cells]
  rw [hcs0] at hK0
  obtain ⟨A0_0, c0_0, A0_1, c0_1, he0, hl0_0, hC0_0, hl0_1, hC0_1⟩ := PA.k25_open hK0
  have hcs0_ := (Array.toArray_toList (xs := cs0)).symm.trans (congrArg List.toArray he0)
  subst hcs0_
  have hw1 : (d1.weights Try.prog 3).all (· ≤ reachBytes) = true := List.all_eq_true.2 fun m_ hm_ => List.all_eq_true.1 hsz m_ (DataW.weights_mem_each (j := 1) (t := 3) rfl rfl m_ hm_)
  have k1 := h1
  have lt1 : ∀ x ∈ p1, x.block < W.heap.size := by obtain ⟨m, hm⟩ := k1; exact DataW.trod_lt m _ _ _ hm
  obtain ⟨fuel1, hf1⟩ := h1
  obtain ⟨x1, hK1, wf1, hb1⟩ := PA.rdT3.rd hf1 hw1
  obtain ⟨y1, rfl⟩ := okWide_int Try.underlying3 (hval 1 3 v1 rfl rfl)
  obtain rfl : x1 = y1 := by have hk_ : _ = [_] := hK1; simpa [Value.cells, eq_comm] using hk_
  have hw2 : (d2.weights Try.prog 26).all (· ≤ reachBytes) = true := List.all_eq_true.2 fun m_ hm_ => List.all_eq_true.1 hsz m_ (DataW.weights_mem_each (j := 2) (t := 26) rfl rfl m_ hm_)
  have k2 := h2
  have lt2 : ∀ x ∈ p2, x.block < W.heap.size := by obtain ⟨m, hm⟩ := k2; exact DataW.trod_lt m _ _ _ hm
  obtain ⟨fuel2, hf2⟩ := h2
  obtain ⟨x2, hK2, wf2, hb2⟩ := PA.rdT26.rd hf2 hw2
  obtain ⟨a2, len2, cap2, rfl⟩ := okWide_slice Try.underlying26 (hval 2 26 v2 rfl rfl)
  obtain ⟨A2, c2, he2, hl2, hC2⟩ := hK2
  simp only [Value.cells] at he2
  obtain ⟨rfl, rfl, rfl⟩ : a2 = A2 ∧ len2 = x2.length ∧ cap2 = c2 := by simpa using he2
  clear hA0 hval0 hsz0 hsz
  obtain ⟨k, h⟩ := Pure.DeviceReadsBack x0 x1 x2 wf0 wf1 wf2
  refine (PA.mapsheetslaw24_DeviceReadsBack.calls k _ _ x0.f0 _ _ x0.f1 x0.f2 x0.f3 x1 _ _ x2 true W hC0_0 hl0_0 hC0_1 hl0_1 hC2 hl2 h).mono fun e W' ⟨he, bel0⟩ => ?_
  subst he
  have bel : Below W.heap.size W W' := bel0
  exact ⟨_, rfl, _, _, _, [], _, [], hW', trodAll_mk1 (shut_bool Try.underlying4 _), (trodAll_cons_mk (Below.trod laidOut (by kernel_rfl) (of_decide_eq_true (by kernel_rfl)) k0 bel lt0) (trodAll_cons_mk (Below.trod laidOut (by kernel_rfl) (of_decide_eq_true (by kernel_rfl)) k1 bel lt1) (trodAll_cons_mk (Below.trod laidOut (by kernel_rfl) (of_decide_eq_true (by kernel_rfl)) k2 bel lt2) trodAll_mk0))), rfl, bel.frame _, fun h => by cases h⟩
theorem over : Rows.deviceReadsBackRow.holds Try.pinned (OpenSpec.ofChange Rows.deviceReadsBackSpec) :=
  OpenClaim.holds_of_wide 5 Try.f5 rfl rfl rfl rfl rfl rfl rfl ⟨rfl, rfl, rfl, rfl, rfl⟩ rfl rfl rfl rfl rfl (by kernel_rfl) Try.func5 (by kernel_rfl)
    (of_decide_eq_true (by kernel_rfl)) (by unfold Func.isWrapper; first | (rw [if_pos (by decide +kernel)]; kernel_rfl) | (rw [if_neg (by decide +kernel)]; exact ⟨rfl, rfl⟩))
    (fun os started H enc _ => lifted os started H enc)
theorem proved : Rows.DeviceReadsBackSaid := over
#print axioms proved
end Go.Proofs.Ytjicigagejihhaa.deviceReadsBack
namespace Go.Proofs.Ytjicigagejihhaa
/-- The row, under a short name, for the claim. -/
theorem deviceReadsBack_holds : Rows.DeviceReadsBackSaid := deviceReadsBack.proved
end Go.Proofs.Ytjicigagejihhaa
