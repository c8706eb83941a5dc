/-
  The plain law of RainsTakes.
-/
import Derived.Test.YtooankffknoomaaPe
import Derived.Test.YtooankffknoomaaOpn
namespace Go.Proofs.Ytooankffknoomaa
open Go Go.RowKit Go.Dec
set_option maxRecDepth 1000000 in
theorem works_ok : F_law11_works 1000000 = some true := by kernel_rfl

theorem law_RainsTakes (t : Tour) (x : List Int) (ht : W_Tour t) (hx : (∀ z ∈ x, I64 z) ∧ x.length ≤ 9223372036854775807) : ∃ n, F_law11_RainsTakes n t x = some true := by
  obtain ⟨n, hn, hw⟩ : ∃ n, 1000000 ≤ n ∧ F_law11_works n = some true := ⟨1000000, Nat.le_refl _, works_ok⟩
  refine ⟨n, ?_⟩
  simp only [F_law11_RainsTakes]
  rcases p_Far hn t (by have := ht; simp [W_Tour] at this; omega) with h | ⟨h, hs, _⟩
  · simp [h, hw]
  · by_cases hl : x.length ≤ 20
    · have e : decide (20 < (x.length : Int)) = false := by simp; omega
      have l1 : lim (([] : List Int) ++ x) = some x := by rw [List.nil_append]; exact lim_ok (by omega)
      simp only [h, Option.bind_some, e, p_Copy hn hs, l1, p_Takes hn hs hl, p_Takes11 hn hs hl, p_Left hn hs hl, p_Left11 hn hs hl, hw]
      simp
    · have e : decide (20 < (x.length : Int)) = true := by simp; omega
      simp [h, e, hw]
end Go.Proofs.Ytooankffknoomaa
