-- Written by wip/pp.py of this repository: the row of the law mapsheets/mapsheetslaw02.WireLists.
import Derived.Test.YtkmgmiofmegjmaaRows
import Derived.Test.YtkmgmiofmegjmaaRd
import Derived.Test.YtkmgmiofmegjmaaPAx5
import Derived.Test.YtkmgmiofmegjmaaPureWireLists
import Derived.WalkKit
import Derived.ProofKit
import Derived.OpenShut
import Derived.ShutString
import Derived.ChangeOld
import Derived.Below
import Derived.SizedLaws
import Derived.JoinedCond
import Derived.Deep.CondSized
namespace Go.Proofs.Ytkmgmiofmegjmaa.wireListsUpto
open Go.ChangeShapes Go.WideShapes Go.ChangeAt Go.RowKit
open Go.ChangeMaps (open_string shut_string)
open Go.Proofs.YtkmgmiofmegjmaaW.PrintWords
set_option linter.unusedVariables false
theorem own : ownKnob Try.prog.godebug = none := by kernel_rfl
theorem laidOut : laidOutB Try.prog = true := by kernel_rfl
set_option maxRecDepth 100000 in
theorem lifted (os : Os) (started : os.Started) (H : Type) (enc : TypeId × Value → H) (F : Stop.Interp) :
    ReturnsInHanded {} Try.checked os 5 .any ((Rows.OpenSpec.upto Rows.wireListsSpec).pre6 enc Try.prog Try.f5 Rows.wireListsUptoRow.domain false) (((Rows.OpenSpec.upto Rows.wireListsSpec).at F).post enc Try.prog Try.f5 false true false false) := by
  refine returnsInHanded_of_cond_sized (C := Try.checked) (s := Rows.OpenSpec.upto Rows.wireListsSpec) (k := Rows.uptoSmall) rfl own started (by kernel_rfl) Try.func5
    (OpenSpec.witness (enc := enc) (C := Try.checked) (s := Rows.OpenSpec.upto Rows.wireListsSpec) (k := Rows.uptoSmall) rfl false ⟨#[], #[.slice none 0 0, .slice none 0 0, .int .i64 0], []⟩ 8 (by kernel_rfl) (by kernel_rfl) (by kernel_rfl)
      (x := ([.nil, .nil, .lit (.int .i64 0)], [], [])) (by kernel_rfl) rfl (by kernel_rfl)) ?_
  intro W base args ds gs before hval0 hW hcnd hk hsz0 _
  have hsz : (DataW.weightsEach Try.prog (Try.f5.params.toList ++ Rows.wireListsSpec.plain.varTypes Try.prog) (ds ++ gs)).all (· ≤ reachBytes) = true := hsz0
  have hval : ∀ (j : Nat) t v, Try.f5.params[j]? = some t → args[j]? = some v → Value.okWide Try.prog W .any base t v := hval0
  have hW' := hW
  obtain ⟨p, q, hA0, hV, rfl, hfz, hnd⟩ := hW
  have hA : DataW.TrodAll enc Try.prog W 0 (fun _ => true) true Try.f5.params.toList args.toList ds p := hA0
  rw [Try.params5] at hA hval hsz
  obtain ⟨v0, vs0, d0, ds0, p0, q0, hargs, rfl, rfl, h0, r0⟩ := trodAll_cons hA
  obtain ⟨v1, vs1, d1, ds1, p1, q1, rfl, rfl, rfl, h1, r1⟩ := trodAll_cons r0
  obtain ⟨v2, vs2, d2, ds2, p2, q2, rfl, rfl, rfl, h2, r2⟩ := trodAll_cons r1
  obtain ⟨rfl, rfl, rfl⟩ := trodAll_nil r2
  obtain rfl : args = #[v0, v1, v2] := by cases args; simp_all
  obtain ⟨rfl, rfl⟩ := trodVars_none hV
  have hw0 : (d0.weights Try.prog 22).all (· ≤ reachBytes) = true := List.all_eq_true.2 fun m_ hm_ => List.all_eq_true.1 hsz m_ (DataW.weights_mem_each (j := 0) (t := 22) rfl rfl m_ hm_)
  have k0 := h0
  have lt0 : ∀ x ∈ p0, x.block < W.heap.size := by obtain ⟨m, hm⟩ := k0; exact DataW.trod_lt m _ _ _ hm
  obtain ⟨fuel0, hf0⟩ := h0
  obtain ⟨x0, hK0, wf0, hb0⟩ := PA.rdT22.rd hf0 hw0
  obtain ⟨a0, len0, cap0, rfl⟩ := okWide_slice Try.underlying22 (hval 0 22 v0 rfl rfl)
  obtain ⟨A0, c0, he0, hl0, hC0⟩ := hK0
  simp only [Value.cells] at he0
  obtain ⟨rfl, rfl, rfl⟩ : a0 = A0 ∧ len0 = x0.length ∧ cap0 = c0 := by simpa using he0
  have hw1 : (d1.weights Try.prog 34).all (· ≤ reachBytes) = true := List.all_eq_true.2 fun m_ hm_ => List.all_eq_true.1 hsz m_ (DataW.weights_mem_each (j := 1) (t := 34) rfl rfl m_ hm_)
  have k1 := h1
  have lt1 : ∀ x ∈ p1, x.block < W.heap.size := by obtain ⟨m, hm⟩ := k1; exact DataW.trod_lt m _ _ _ hm
  obtain ⟨fuel1, hf1⟩ := h1
  obtain ⟨x1, hK1, wf1, hb1⟩ := PA.rdT34.rd hf1 hw1
  obtain ⟨a1, len1, cap1, rfl⟩ := okWide_slice Try.underlying34 (hval 1 34 v1 rfl rfl)
  obtain ⟨A1, c1, he1, hl1, hC1⟩ := hK1
  simp only [Value.cells] at he1
  obtain ⟨rfl, rfl, rfl⟩ : a1 = A1 ∧ len1 = x1.length ∧ cap1 = c1 := by simpa using he1
  have hw2 : (d2.weights Try.prog 3).all (· ≤ reachBytes) = true := List.all_eq_true.2 fun m_ hm_ => List.all_eq_true.1 hsz m_ (DataW.weights_mem_each (j := 2) (t := 3) rfl rfl m_ hm_)
  have k2 := h2
  have lt2 : ∀ x ∈ p2, x.block < W.heap.size := by obtain ⟨m, hm⟩ := k2; exact DataW.trod_lt m _ _ _ hm
  obtain ⟨fuel2, hf2⟩ := h2
  obtain ⟨x2, hK2, wf2, hb2⟩ := PA.rdT3.rd hf2 hw2
  obtain ⟨y2, rfl⟩ := okWide_int Try.underlying3 (hval 2 3 v2 rfl rfl)
  obtain rfl : x2 = y2 := by have hk_ : _ = [_] := hK2; simpa [Value.cells, eq_comm] using hk_
  clear hA0 hval0 hsz0 hsz
  have hbk : PA.bkT22 x0 + PA.bkT34 x1 + PA.bkT3 x2 ≤ 1048576 := by
    have hb0_ : PA.bkT22 x0 ≤ Rows.uptoBulk d0 := hb0
    have hb1_ : PA.bkT34 x1 ≤ Rows.uptoBulk d1 := hb1
    have hb2_ : PA.bkT3 x2 ≤ Rows.uptoBulk d2 := hb2
    have hk_ := of_decide_eq_true hk
    simp only [List.append_nil, Rows.uptoBulkAll] at hk_
    omega
  obtain ⟨k, h⟩ := Pure.WireLists x0 x1 x2 wf0 wf1 wf2 hbk
  refine (PA.mapsheetslaw02_WireLists.calls k _ _ x0 _ _ x1 x2 true W hC0 hl0 hC1 hl1 h).mono fun e W' ⟨he, bel0⟩ => ?_
  subst he
  have bel : Below W.heap.size W W' := bel0
  exact ⟨_, rfl, _, _, _, [], _, [], hW', trodAll_mk1 (shut_bool Try.underlying4 _), (trodAll_cons_mk (Below.trod laidOut (by kernel_rfl) (of_decide_eq_true (by kernel_rfl)) k0 bel lt0) (trodAll_cons_mk (Below.trod laidOut (by kernel_rfl) (of_decide_eq_true (by kernel_rfl)) k1 bel lt1) (trodAll_cons_mk (Below.trod laidOut (by kernel_rfl) (of_decide_eq_true (by kernel_rfl)) k2 bel lt2) trodAll_mk0))), rfl, bel.frame _, fun h => by cases h⟩
theorem over : Rows.wireListsUptoRow.holds Try.pinned (Rows.OpenSpec.upto Rows.wireListsSpec) :=
  OpenClaim.holds_of_cond 5 Try.f5 rfl rfl rfl rfl rfl rfl rfl ⟨rfl, rfl, rfl, rfl, rfl⟩ rfl rfl rfl rfl rfl (by kernel_rfl) Try.func5 (by kernel_rfl)
    (of_decide_eq_true (by kernel_rfl)) (by unfold Func.isWrapper; first | (rw [if_pos (by decide +kernel)]; kernel_rfl) | (rw [if_neg (by decide +kernel)]; exact ⟨rfl, rfl⟩))
    (fun os started H enc _ F => lifted os started H enc F)
theorem proved : Rows.WireListsUptoSaid := over
#print axioms proved
end Go.Proofs.Ytkmgmiofmegjmaa.wireListsUpto
namespace Go.Proofs.Ytkmgmiofmegjmaa
/-- The row, under a short name, for the claim. -/
theorem wireListsUpto_holds : Rows.WireListsUptoSaid := wireListsUpto.proved
end Go.Proofs.Ytkmgmiofmegjmaa
