-- Written by wip/pp.py of this repository: the row of the law mapsheets/mapsheetslaw54.PlatesDamage.
import Derived.Test.YtaappifdpbgchaaRows
import Derived.Test.YtaappifdpbgchaaRd
import Derived.Test.YtaappifdpbgchaaPAx16
import Derived.Test.YtaappifdpbgchaaPurePlatesDamage
import Derived.WalkKit
import Derived.ProofKit
import Derived.OpenShut
import Derived.ShutString
import Derived.ChangeOld
import Derived.Below
import Derived.SizedLaws
namespace Go.Proofs.Ytaappifdpbgchaa.platesDamage
open Go.ChangeShapes Go.WideShapes Go.ChangeAt Go.RowKit
open Go.ChangeMaps (open_string shut_string)
open Go.Proofs.YtaappifdpbgchaaW.PrintWords
set_option linter.unusedVariables false
theorem own : ownKnob Try.prog.godebug = none := by kernel_rfl
theorem laidOut : laidOutB Try.prog = true := by kernel_rfl
set_option maxRecDepth 100000 in
theorem lifted (os : Os) (started : os.Started) (H : Type) (enc : TypeId × Value → H) :
    ReturnsInHanded {} Try.checked os 6 .any (Rows.platesDamageSpec.pre6 enc Try.prog Try.f6 Rows.platesDamageRow.domain false) (Rows.platesDamageSpec.post enc Try.prog Try.f6 false true false false) := by
  refine returnsInHanded_of_change_sized (C := Try.checked) own started (by kernel_rfl) Try.func6
    (ChangeSpec.witness6 (enc := enc) (C := Try.checked) false ⟨#[], #[.agg #[.int .i64 0, .int .i64 0, .slice none 0 0], .int .i64 0, .int .u8 0], []⟩ 8 (by kernel_rfl) (by kernel_rfl) (by kernel_rfl) (by kernel_rfl)) ?_
  intro W base args ds gs before hval0 hW hcnd hsz0 _
  have hsz : (DataW.weightsEach Try.prog (Try.f6.params.toList ++ Rows.platesDamageSpec.plain.varTypes Try.prog) (ds ++ gs)).all (· ≤ reachBytes) = true := hsz0
  have hval : ∀ (j : Nat) t v, Try.f6.params[j]? = some t → args[j]? = some v → Value.okWide Try.prog W .any base t v := hval0
  have hW' := hW
  obtain ⟨p, q, hA0, hV, rfl, hfz, hnd⟩ := hW
  have hA : DataW.TrodAll enc Try.prog W 0 (fun _ => true) true Try.f6.params.toList args.toList ds p := hA0
  rw [Try.params6] at hA hval hsz
  obtain ⟨v0, vs0, d0, ds0, p0, q0, hargs, rfl, rfl, h0, r0⟩ := trodAll_cons hA
  obtain ⟨v1, vs1, d1, ds1, p1, q1, rfl, rfl, rfl, h1, r1⟩ := trodAll_cons r0
  obtain ⟨v2, vs2, d2, ds2, p2, q2, rfl, rfl, rfl, h2, r2⟩ := trodAll_cons r1
  obtain ⟨rfl, rfl, rfl⟩ := trodAll_nil r2
  obtain rfl : args = #[v0, v1, v2] := by cases args; simp_all
  obtain ⟨rfl, rfl⟩ := trodVars_none hV
  have hw0 : (d0.weights Try.prog 24).all (· ≤ reachBytes) = true := List.all_eq_true.2 fun m_ hm_ => List.all_eq_true.1 hsz m_ (DataW.weights_mem_each (j := 0) (t := 24) rfl rfl m_ hm_)
  have k0 := h0
  have lt0 : ∀ x ∈ p0, x.block < W.heap.size := by obtain ⟨m, hm⟩ := k0; exact DataW.trod_lt m _ _ _ hm
  obtain ⟨fuel0, hf0⟩ := h0
  obtain ⟨x0, hK0, wf0, hb0⟩ := PA.rdT24.rd hf0 hw0
  obtain ⟨cs0, rfl, hsz0_⟩ := okWide_struct Try.underlying24 (hval 0 24 v0 rfl rfl)
  have hcs0 : (Value.agg cs0).cells.toList = cs0.toList := by simp [Value.cells]
  rw [hcs0] at hK0
  obtain ⟨A0_2, c0_2, he0, hl0_2, hC0_2⟩ := PA.k24_open hK0
  have hcs0_ := (Array.toArray_toList (xs := cs0)).symm.trans (congrArg List.toArray he0)
  subst hcs0_
  have hw1 : (d1.weights Try.prog 3).all (· ≤ reachBytes) = true := List.all_eq_true.2 fun m_ hm_ => List.all_eq_true.1 hsz m_ (DataW.weights_mem_each (j := 1) (t := 3) rfl rfl m_ hm_)
  have k1 := h1
  have lt1 : ∀ x ∈ p1, x.block < W.heap.size := by obtain ⟨m, hm⟩ := k1; exact DataW.trod_lt m _ _ _ hm
  obtain ⟨fuel1, hf1⟩ := h1
  obtain ⟨x1, hK1, wf1, hb1⟩ := PA.rdT3.rd hf1 hw1
  obtain ⟨y1, rfl⟩ := okWide_int Try.underlying3 (hval 1 3 v1 rfl rfl)
  obtain rfl : x1 = y1 := by have hk_ : _ = [_] := hK1; simpa [Value.cells, eq_comm] using hk_
  have hw2 : (d2.weights Try.prog 5).all (· ≤ reachBytes) = true := List.all_eq_true.2 fun m_ hm_ => List.all_eq_true.1 hsz m_ (DataW.weights_mem_each (j := 2) (t := 5) rfl rfl m_ hm_)
  have k2 := h2
  have lt2 : ∀ x ∈ p2, x.block < W.heap.size := by obtain ⟨m, hm⟩ := k2; exact DataW.trod_lt m _ _ _ hm
  obtain ⟨fuel2, hf2⟩ := h2
  obtain ⟨x2, hK2, wf2, hb2⟩ := PA.rdT5.rd hf2 hw2
  obtain ⟨y2, rfl⟩ := okWide_int Try.underlying5 (hval 2 5 v2 rfl rfl)
  obtain rfl : x2 = y2 := by have hk_ : _ = [_] := hK2; simpa [Value.cells, eq_comm] using hk_
  clear hA0 hval0 hsz0 hsz
  obtain ⟨k, h⟩ := Pure.PlatesDamage x0 x1 x2 wf0 wf1 wf2
  refine (PA.mapsheetslaw54_PlatesDamage.calls k x0.f0 x0.f1 _ _ x0.f2 x1 x2 true W hC0_2 hl0_2 h).mono fun e W' ⟨he, bel0⟩ => ?_
  subst he
  have bel : Below W.heap.size W W' := bel0
  exact ⟨_, rfl, _, _, _, [], _, [], hW', trodAll_mk1 (shut_bool Try.underlying4 _), (trodAll_cons_mk (Below.trod laidOut (by kernel_rfl) (of_decide_eq_true (by kernel_rfl)) k0 bel lt0) (trodAll_cons_mk (Below.trod laidOut (by kernel_rfl) (of_decide_eq_true (by kernel_rfl)) k1 bel lt1) (trodAll_cons_mk (Below.trod laidOut (by kernel_rfl) (of_decide_eq_true (by kernel_rfl)) k2 bel lt2) trodAll_mk0))), rfl, bel.frame _, fun h => by cases h⟩
theorem over : Rows.platesDamageRow.holds Try.pinned (OpenSpec.ofChange Rows.platesDamageSpec) :=
  OpenClaim.holds_of_wide 6 Try.f6 rfl rfl rfl rfl rfl rfl rfl ⟨rfl, rfl, rfl, rfl, rfl⟩ rfl rfl rfl rfl rfl (by kernel_rfl) Try.func6 (by kernel_rfl)
    (of_decide_eq_true (by kernel_rfl)) (by unfold Func.isWrapper; first | (rw [if_pos (by decide +kernel)]; kernel_rfl) | (rw [if_neg (by decide +kernel)]; exact ⟨rfl, rfl⟩))
    (fun os started H enc _ => lifted os started H enc)
theorem proved : Rows.PlatesDamageSaid := over
#print axioms proved
end Go.Proofs.Ytaappifdpbgchaa.platesDamage
namespace Go.Proofs.Ytaappifdpbgchaa
/-- The row, under a short name, for the claim. -/
theorem platesDamage_holds : Rows.PlatesDamageSaid := platesDamage.proved
end Go.Proofs.Ytaappifdpbgchaa
