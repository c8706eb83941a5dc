/-
  The plain law of RainsBest.
-/
import Derived.Test.YtooankffknoomaaWorks
namespace Go.Proofs.Ytooankffknoomaa
open Go Go.RowKit Go.Dec
theorem law_RainsBest (t : Tour) (ht : W_Tour t) : ∃ n, F_law11_RainsBest n t = some true := by
  obtain ⟨n, hn, hw⟩ := works_at
  refine ⟨n, ?_⟩
  simp only [F_law11_RainsBest]
  rcases p_Far hn t (W_fairs ht) with h | ⟨h, hs, _⟩
  · simp [h, hw]
  · have b1 := best_top (t := t) (sel := fun s => s.Low) lows_ge
    have b2 := best_top (t := t) (sel := fun s => s.High) highs_ge
    have e1 := bestT_err (t := t) (fun s => s.Low)
    have hlen : (bestT t fun s => s.Low).2.1.length ≤ 20 := by
      by_cases hk : (knownT t true).2 = 0
      · obtain ⟨k1, _⟩ := knownT_ok hk
        obtain ⟨_, h2, _⟩ := best_route hk (lows_ge hk)
        have := (routes_rt k1 h2).1
        have := okHead_all (Ok.head k1)
        omega
      · simp [bestT, hk]
    have e0 : decide (20 < ((bestT t fun s => s.Low).2.1.length : Int)) = false := by simp; omega
    simp only [h, Option.bind_some, p_Copy hn hs, p_Best hn hs, p_Best11 hn hs, p_Hopes hn hs, p_Hopes11 hn hs, p_Route hn hs, b1.1, b2.1, b1.2, b2.2, e0, Bool.or_false, bne_self_eq_false, Bool.false_eq_true, if_false, p_Takes11 hn hs hlen, hw]
    rw [b1.2] at e1
    by_cases hk : (knownT t true).2 = 0
    · obtain ⟨h1, h2, h3, _⟩ := best_route hk (lows_ge hk)
      obtain ⟨k1, _⟩ := knownT_ok hk
      have hr := (mem_routes k1 _).1 h2
      have e2 : (endsT t (bestT t fun s => s.Low).2.1 fun s => s.1) = (spanOf ((truthsT t).map fun l => (trade t (bestT t fun s => s.Low).2.1 l).1), 0) := by
        unfold endsT; rw [hr, if_pos hk]
      rw [b1.1] at h3
      rw [e2, e1, hk, h3]
      simp [valT]
    · have e2 : (bestT t fun s => s.Low).2.1 = [] := by simp [bestT, hk]
      rw [e1, e2]
      simp [hk]
end Go.Proofs.Ytooankffknoomaa
