import Derived.Test.YtbogbpbapgjndaaDig
import Derived.Test.YtbogbpbapgjndaaPAx4
namespace Go.Proofs.Ytbogbpbapgjndaa.Pure
open Go.RowKit Go.Proofs.Ytbogbpbapgjndaa.PA Go.Proofs.YtbogbpbapgjndaaW.PrintWords Go.Proofs.YtbogbpbapgjndaaW.PrintLast Go.Proofs.Ytbogbpbapgjndaa.Crc

theorem DigestOpens : mapsheetslaw03_DigestOpens.Pure := by
  intro l hm hm2 hw
  have hb := byts_of_wf hw
  refine ⟨10 * l.length + 20, ?_⟩
  unfold mapsheetslaw03_DigestOpens.f
  have h1 : (opened l).1.length ≤ l.length := by
    unfold opened
    split
    · simp
    · split
      · show (l.take _).length ≤ _
        rw [List.length_take]
        omega
      · simp
  rw [open_is l hb (by omega), Option.bind_some, ropen_is l hb (by omega) _ (by omega), Option.bind_some, if_pos rfl, same_self _ (by omega) _ (by omega), Option.bind_some, show 10 * l.length + 20 = (10 * l.length + 19) + 1 by omega, mapsheetslaw03_DigestOpens.j0, if_neg (by decide)]
  have h2 : (opened l).2 = 0 → l = (opened l).1 ++ tailL ((crc (opened l).1 : Nat) : Int) ∧ Byts (opened l).1 := by
    unfold opened
    split
    · intro h; cases h
    · split
      · rename_i e
        intro _
        refine ⟨?_, byts_take hb _⟩
        rw [← e]
        exact (List.take_append_drop _ _).symm
      · intro h; cases h
  by_cases e : (opened l).2 = 0
  · obtain ⟨h3, h4⟩ := h2 e
    rw [if_pos e, seal_is _ h4 (by omega), Option.bind_some, ← h3, same_self _ (by omega) _ (by omega), Option.bind_some, if_pos rfl, awake_is]
    rfl
  · rw [if_neg e, awake_is]
    rfl

end Go.Proofs.Ytbogbpbapgjndaa.Pure
