/-
  The plain law of RainsProof.
-/
import Derived.Test.YtooankffknoomaaWorks
namespace Go.Proofs.Ytooankffknoomaa
open Go Go.RowKit Go.Dec
theorem law_RainsProof (t : Tour) (route : List Int) (ht : W_Tour t) (_ : ((∀ z ∈ route, I64 z) ∧ route.length ≤ 9223372036854775807)) : ∃ n, F_law11_RainsProof n t route = some true := by
  obtain ⟨n, hn, hw⟩ := works_at
  refine ⟨n, ?_⟩
  simp only [F_law11_RainsProof]
  rcases p_ready hn t (W_fairs ht) with h | ⟨h, hs, hok⟩
  · simp [h, hw]
  · by_cases hl : route.length ≤ 20
    · have e0 : decide (20 < (route.length : Int)) = false := by simp; omega
      by_cases hr : isRouteT t route = true
      · have ho := hok.1
        simp only [h, e0, Option.bind_some, p_IsRoute11 hn hl, hr, Bool.not_true, Bool.or_false, Bool.false_eq_true, if_false, p_Best hn hs, p_Hopes hn hs, p_Route hn hs, p_Takes hn hs hl, F_law11_isKnown]
        have hrl : (bestT t fun s => s.Low).2.1.length ≤ 20 := by
          by_cases hk : (knownT t true).2 = 0
          · obtain ⟨_, h2, _⟩ := best_route hk (lows_ge hk)
            have := (routes_rt ho h2).1
            have := okHead_all (Ok.head ho)
            omega
          · simp [bestT, hk]
        have e3 : decide (20 < ((bestT t fun s => s.Low).2.1.length : Int)) = false := by simp; omega
        simp only [bestT_err, endsT_err hr, e3]
        rcases known_ok ho true rfl with hk | hk
        · obtain ⟨_, l2, l3, l4⟩ := best_route hk (lows_ge hk)
          obtain ⟨_, g2, g3, g4⟩ := best_route hk (highs_ge hk)
          have hm := (mem_routes ho route).2 hr
          have hlr := (mem_routes ho _).1 l2
          have ends : ∀ r, isRouteT t r = true → (endsT t r fun s => s.1) = (spanOf ((truthsT t).map fun l => (trade t r l).1), 0) := fun r hr => by
            unfold endsT; rw [hr, if_pos hk]
          have a1 := l4 route hm
          have a2 := g4 route hm
          have a3 := (vals_ge ho (knownT_ok hk).2.2.1 l2).2
          have a4 := g4 _ l2
          simp only [valT] at a1 a2 a3 a4 l3
          rw [hk, ends route hr]
          simp only [p_IsRoute11 hn hrl, hlr, p_Takes hn hs hrl, ends _ hlr, hw, Option.bind_some]
          have c1 : decide ((bestT t fun s => s.Low).1 < (spanOf ((truthsT t).map fun l => (trade t route l).1)).Low) = false := by simp; omega
          have c2 : decide ((bestT t fun s => s.High).1 < (spanOf ((truthsT t).map fun l => (trade t route l).1)).High) = false := by simp; omega
          have c3 : decide ((bestT t fun s => s.High).1 < (bestT t fun s => s.Low).1) = false := by simp; omega
          simp only [c1, c2, c3]
          simp [l3]
        · rw [hk]; simp [hw]
      · simp [h, e0, p_IsRoute11 hn hl, hr, hw]
    · have e0 : decide (20 < (route.length : Int)) = true := by simp; omega
      simp [h, e0, hw]
end Go.Proofs.Ytooankffknoomaa
