/- The difference and the intersection make up a set and have nothing in common, for any lists of at most 100 elements. -/
import Derived.Test.YtjdijlijojembaaIds
import Derived.Test.YtjdijlijojembaaPAx16
namespace Go.Proofs.Ytjdijlijojembaa.Ids
open Go.RowKit Go.Proofs.Ytjdijlijojembaa.PA Go.Proofs.YtjdijlijojembaaW.PrintWords Go.Proofs.YtjdijlijojembaaW.PrintLast Go.Proofs.YtjdijlijojembaaW.PrintMore
/-- Two sets without a common element: their union has as many elements as both. -/
theorem len_union {x y z : List Int} (hx : x.Pairwise (· < ·)) (hy : y.Pairwise (· < ·)) (hz : z.Pairwise (· < ·)) (hm : ∀ v, v ∈ z ↔ v ∈ x ∨ v ∈ y) (hd : ∀ v, v ∈ x → v ∈ y → False) : z.length = x.length + y.length := by
  have nd : ∀ {l : List Int}, l.Pairwise (· < ·) → l.Nodup := fun h => h.imp (fun h e => by omega)
  have hp : z.Perm (x ++ y) := (List.perm_ext_iff_of_nodup (nd hz) (List.nodup_append.2 ⟨nd hx, nd hy, fun a ha b hb e => hd a ha (e ▸ hb)⟩)).2 fun v => by rw [hm, List.mem_append]
  rw [hp.length_eq, List.length_append]
theorem sums {p q r s t : Nat} (h1 : r = p + q) (h2 : t = q + s) (hr : r ≤ 1000) (hs : s ≤ 1000) : wrap64 ((p : Int) + (q : Int)) = (r : Int) ∧ (wrap64 ((t : Int) + (p : Int)) == wrap64 ((r : Int) + (s : Int))) = true := by
  subst h1 h2
  refine ⟨by unfold wrap64; omega, ?_⟩
  have e : ((q + s : Nat) : Int) + (p : Int) = ((p + q : Nat) : Int) + (s : Int) := by omega
  rw [e]; exact beq_self_eq_true _
end Go.Proofs.Ytjdijlijojembaa.Ids
namespace Go.Proofs.Ytjdijlijojembaa.Pure
open Go.RowKit Go.Proofs.Ytjdijlijojembaa.PA Go.Proofs.YtjdijlijojembaaW.PrintWords Go.Proofs.YtjdijlijojembaaW.PrintLast Go.Proofs.YtjdijlijojembaaW.PrintMore
theorem IdsetDivides : mapsheetslaw04_IdsetDivides.Pure := by
  intro a b _ _ _ _ _ _
  obtain ⟨k, hk⟩ : ∃ k : Nat, 300000 < k := ⟨300001, by omega⟩
  refine ⟨k, ?_⟩
  unfold mapsheetslaw04_IdsetDivides.f
  obtain ⟨t, ht, h2⟩ := Ids.few_ok a b []
  rw [ht, Option.bind_some, Ids.awake_ok k (by omega)]
  by_cases e : t = true
  · obtain ⟨ha, hb, _⟩ := h2 e
    have l2 := Ids.len_onlyOf id a b
    have l3 := Ids.len_onlyOf not a b
    have l4 := Ids.len_setOf a
    have l5 := Ids.len_setOf b
    have l6 := Ids.len_setOf (a ++ b)
    rw [List.length_append] at l6
    have e1 : setOf (onlyOf id a b ++ onlyOf not a b) = setOf a := Ids.setOf_congr fun x => by
      rw [List.mem_append, Ids.mem_inter, Ids.mem_minus]
      by_cases hx : x ∈ b <;> simp [hx]
    have e2 : onlyOf id (onlyOf not a b) b = [] := Ids.sorted_ext (Ids.onlyOf_sorted _ _ _) List.Pairwise.nil fun x => by
      rw [Ids.mem_inter, Ids.mem_minus]
      simp only [List.not_mem_nil, iff_false]
      intro h
      exact h.1.2 h.2
    have n1 : (setOf a).length = (onlyOf id a b).length + (onlyOf not a b).length := Ids.len_union (Ids.onlyOf_sorted _ _ _) (Ids.onlyOf_sorted _ _ _) (sorted_setOf a) (fun x => by
      rw [Ids.mem_setOf, Ids.mem_inter, Ids.mem_minus]
      by_cases hx : x ∈ b <;> simp [hx]) (fun x h1 h2 => by
      rw [Ids.mem_inter] at h1
      rw [Ids.mem_minus] at h2
      exact h2.2 h1.2)
    have n2 : (setOf (a ++ b)).length = (onlyOf not a b).length + (setOf b).length := Ids.len_union (Ids.onlyOf_sorted _ _ _) (sorted_setOf b) (sorted_setOf _) (fun x => by
      rw [Ids.mem_setOf, Ids.mem_minus, Ids.mem_setOf, List.mem_append]
      by_cases hx : x ∈ b <;> simp [hx]) (fun x h1 h2 => by
      rw [Ids.mem_minus] at h1
      rw [Ids.mem_setOf] at h2
      exact h1.2 h2)
    rw [if_pos e, Ids.inter_ok a b (by omega) (by omega), Ids.minus_ok a b (by omega) (by omega)]
    simp only [Option.bind_some, if_true]
    rw [Ids.union_ok _ _ (by omega) (by omega), e1, Option.bind_some, Ids.normal_ok a (by omega), Option.bind_some]
    rw [Ids.same_ok _ k (by omega) (by omega), Option.bind_some, if_pos rfl, Ids.inter_ok _ b (by omega) (by omega), e2, Option.bind_some]
    obtain ⟨q1, q2⟩ := Ids.sums n1 n2 (by omega) (by omega)
    rw [if_pos (show ((([] : List Int).length : Nat) : Int) = 0 from rfl), Option.bind_some, if_pos q1, Ids.union_ok a b (by omega) (by omega), Option.bind_some, Option.bind_some, Ids.normal_ok b (by omega), Option.bind_some, q2]
  · rw [if_neg e]; rfl
end Go.Proofs.Ytjdijlijojembaa.Pure
