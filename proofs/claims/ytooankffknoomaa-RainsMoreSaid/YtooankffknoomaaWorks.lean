/-
  The example of the chapter, reckoned; what a tour is that is examined.
-/
import Derived.Test.YtooankffknoomaaPg
import Derived.Test.YtooankffknoomaaOpn
namespace Go.Proofs.Ytooankffknoomaa
open Go Go.RowKit Go.Dec
set_option linter.unusedVariables false
set_option maxRecDepth 1000000 in
theorem works_ok : F_law11_works 1000000 = some true := by kernel_rfl
theorem works_at : ∃ n, 1000000 ≤ n ∧ F_law11_works n = some true := ⟨1000000, Nat.le_refl _, works_ok⟩
theorem W_fairs {t : Tour} (ht : W_Tour t) : t.Fairs.length ≤ 9223372036854775807 := by
  have := ht; simp [W_Tour] at this; omega

theorem p_ready {n : Nat} (hn : 1000000 ≤ n) (t : Tour) (hf : t.Fairs.length ≤ 9223372036854775807) : F_law11_ready n t = some false ∨ (F_law11_ready n t = some true ∧ Sm t ∧ Ok t) := by
  simp only [F_law11_ready]
  rcases p_Far hn t hf with h | ⟨h, hs, hok⟩
  · left; simp [h]
  · by_cases ho : okTour t = true
    · right; refine ⟨?_, hs, hok ho⟩; simp [h, p_Check11 hn hs, ho]
    · left; simp [h, p_Check11 hn hs, ho]
theorem known_ok {t : Tour} (ho : okTour t = true) (is : Bool) (hi : is = true) : (knownT t is).2 = 0 ∨ (knownT t is).2 = 3 := by
  subst hi
  unfold knownT
  by_cases h : truthsT t = []
  · right; simp [ho, h]
  · left; simp [ho, h]
theorem known_err {t : Tour} : (knownT t true).2 = 0 → ∀ is, is = true → (knownT t is).2 = 0 := fun h is hi => hi ▸ h
theorem bestT_err {t : Tour} (sel : Span → Int) : (bestT t sel).2.2 = (knownT t true).2 := by
  unfold bestT; split
  · simp_all
  · rfl
theorem endsT_err {t : Tour} {route : List Int} (hr : isRouteT t route = true) (g : Int × Int → Int) : (endsT t route g).2 = (knownT t true).2 := by
  unfold endsT; rw [hr]; split
  · simp_all
  · rfl
end Go.Proofs.Ytooankffknoomaa
