/-
  The plain law of RainsLevels.
-/
import Derived.Test.YtooankffknoomaaWorks
namespace Go.Proofs.Ytooankffknoomaa
open Go Go.RowKit Go.Dec
theorem law_RainsLevels (t : Tour) (x : law11_Ask) (ht : W_Tour t) (_ : W_law11_Ask x) : ∃ n, F_law11_RainsLevels n t x = some true := by
  obtain ⟨n, hn, hw⟩ := works_at
  refine ⟨n, ?_⟩
  simp only [F_law11_RainsLevels]
  rcases p_Far hn t (W_fairs ht) with h | ⟨h, hs, _⟩
  · simp [h, hw]
  · have hl : (levelsT t x.Day).1.length ≤ 10000 := by
      unfold levelsT
      split
      · have := List.length_filter_le (fun z => (truthsT t).any fun r => at' r x.Day == z) (nums 0 4)
        rw [nums_len] at this
        simp only; omega
      · simp
    simp only [h, Option.bind_some, p_Copy hn hs, p_Check hn hs, p_Check11 hn hs, p_Fewest hn hs, p_Fewest11 hn hs, p_Many hn hs, p_Many11 hn hs, p_Levels hn hs, p_Levels11 hn hs, p_Right hn hs, p_Right11 hn hs, p_sameInts hn _ hl, p_same hn hs, hw]
    simp
end Go.Proofs.Ytooankffknoomaa
