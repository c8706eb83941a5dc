/-
  The plain law of RainsStock.
-/
import Derived.Test.YtooankffknoomaaPh
namespace Go.Proofs.Ytooankffknoomaa
open Go Go.RowKit Go.Dec
def withStock (t : Tour) (s : Int) : Tour := Tour.mk t.Days t.Step t.Rains t.Wrong t.Fairs t.Reach s
def withReach (t : Tour) (r : Int) : Tour := Tour.mk t.Days t.Step t.Rains t.Wrong t.Fairs r t.Stock
theorem ok_stock {t : Tour} (ho : okTour t = true) {s : Int} (hs : 0 ≤ s ∧ s ≤ 999) : okTour (withStock t s) = true := by
  have e : wi s 0 999 = true := by rw [wi_t]; exact hs
  simp only [okTour, okHead, Bool.and_eq_true] at ho
  have h1 := ho.1.2
  have h2 := ho.2
  simp only [okTour, okHead, withStock, Bool.and_eq_true, e]
  exact ⟨⟨⟨⟨⟨⟨⟨⟨ho.1.1.1.1.1.1.1.1, ho.1.1.1.1.1.1.1.2⟩, ho.1.1.1.1.1.1.2⟩, ho.1.1.1.1.1.2⟩, trivial⟩, ho.1.1.1.2⟩, ho.1.1.2⟩, h1⟩, h2⟩
theorem ok_reach {t : Tour} (ho : okTour t = true) {s : Int} (hs : 0 ≤ s ∧ s ≤ 4) : okTour (withReach t s) = true := by
  have e : wi s 0 4 = true := by rw [wi_t]; exact hs
  simp only [okTour, okHead, Bool.and_eq_true] at ho
  have h1 := ho.1.2
  have h2 := ho.2
  simp only [okTour, okHead, withReach, Bool.and_eq_true, e]
  exact ⟨⟨⟨⟨⟨⟨⟨⟨ho.1.1.1.1.1.1.1.1, ho.1.1.1.1.1.1.1.2⟩, ho.1.1.1.1.1.1.2⟩, trivial⟩, ho.1.1.1.1.2⟩, ho.1.1.1.2⟩, ho.1.1.2⟩, h1⟩, h2⟩
theorem known_of {t u : Tour} (h1 : okTour t = true) (h2 : okTour u = true) (h : truthsT u = truthsT t) (is : Bool) : knownT u is = knownT t is := by
  unfold knownT; rw [h1, h2, h]

theorem law_RainsStock (t : Tour) (by_ : Int) (route : List Int) (ht : W_Tour t) (_ : I64 by_) (_ : ((∀ z ∈ route, I64 z) ∧ route.length ≤ 9223372036854775807)) : ∃ n, F_law11_RainsStock n t by_ route = some true := by
  obtain ⟨n, hn, hw⟩ := works_at
  refine ⟨n, ?_⟩
  simp only [F_law11_RainsStock]
  rcases p_ready hn t (W_fairs ht) with h | ⟨h, hs, hok⟩
  · simp [h, hw]
  · have ho := hok.1
    have hh := okHead_all (Ok.head ho)
    by_cases hcond : by_ < 0 ∨ 999 < by_ ∨ 20 < route.length
    · have : ((decide (by_ < 0) || decide (999 < by_)) || decide (20 < (route.length : Int))) = true := by simp; omega
      have : (!true || decide (by_ < 0) || decide (999 < by_) || decide (20 < (route.length : Int))) = true := by simpa using this
      simp only [h, Option.bind_some, this, if_true, hw]
    · have hl : route.length ≤ 20 := by omega
      have e0 : (decide (by_ < 0) || decide (999 < by_) || decide (20 < (route.length : Int))) = false := by simp; omega
      by_cases hr : isRouteT t route = true
      · have hrt := isRouteT_rt ho hr
        have hm := (mem_routes ho route).2 hr
        -- the two other tours
        generalize hS : min 999 (w64 (t.Stock + by_)) = S
        have hS' : t.Stock ≤ S ∧ S ≤ 999 := by rw [← hS, w64_id (by omega) (by omega)]; omega
        generalize hR : min 4 (w64 (t.Reach + 1)) = R
        have hR' : t.Reach ≤ R ∧ R ≤ 4 := by rw [← hR, w64_id (by omega) (by omega)]; omega
        have o1 := ok_stock ho (s := S) (by omega)
        have o2 := ok_reach ho (s := R) (by omega)
        have s1 : Sm (withStock t S) := ⟨hs.r, hs.f, hs.s⟩
        have s2 : Sm (withReach t R) := ⟨hs.r, hs.f, hs.s⟩
        have k1 := known_of ho o1 rfl true
        have k2 := known_of ho o2 rfl true
        simp only [h, Option.bind_some, Bool.not_true, Bool.false_or, e0, Bool.false_eq_true, if_false, p_IsRoute11 hn hl, hr, p_Copy hn hs, p_Best hn hs, p_Hopes hn hs, F_law11_isKnown, bestT_err]
        rw [show Tour.mk t.Days t.Step t.Rains t.Wrong t.Fairs t.Reach S = withStock t S from rfl, show Tour.mk t.Days t.Step t.Rains t.Wrong t.Fairs R t.Stock = withReach t R from rfl]
        simp only [p_Best hn s1, p_Hopes hn s1, p_Best hn s2, p_Hopes hn s2, p_Takes hn hs hl, p_Takes hn s1 hl, p_Left hn hs hl, p_Left hn s1 hl, Option.bind_some, hw, bestT_err, k1, k2, endsT_err hr, endsT_err (t := withStock t S) hr]
        rcases known_ok ho true rfl with hk | hk
        · replace k1 : (knownT (withStock t S) true).2 = 0 := by rw [k1]; exact hk
          replace k2 : (knownT (withReach t R) true).2 = 0 := by rw [k2]; exact hk
          have hne := (knownT_ok hk).2.2.1
          -- values
          have mono : ∀ r, r ∈ routesT t → ∀ l ∈ truthsT t, (trade t r l).1 ≤ (trade (withStock t S) r l).1 ∧ (trade t r l).2 ≤ (trade (withStock t S) r l).2 := fun r hr l _ =>
            trade_mono t (r.zip l) (0, t.Stock) (0, S) (fair_price ho (routes_rt ho hr)) (Int.le_refl _) hS'.1
          have v1 : ∀ r ∈ routesT t, valT t (fun s => s.Low) r ≤ valT (withStock t S) (fun s => s.Low) r := fun r hr => (span_mono hne fun l hl => (mono r hr l hl).1).1
          have v2 : ∀ r ∈ routesT t, valT t (fun s => s.High) r ≤ valT (withStock t S) (fun s => s.High) r := fun r hr => (span_mono hne fun l hl => (mono r hr l hl).1).2
          obtain ⟨_, l2, l3, l4⟩ := best_route hk (lows_ge hk)
          obtain ⟨_, g2, g3, g4⟩ := best_route hk (highs_ge hk)
          obtain ⟨_, _, _, r4⟩ := best_route k1 (lows_ge k1)
          obtain ⟨_, _, _, q4⟩ := best_route k1 (highs_ge k1)
          obtain ⟨_, _, _, f4⟩ := best_route k2 (lows_ge k2)
          obtain ⟨_, _, _, d4⟩ := best_route k2 (highs_ge k2)
          have a1 : (bestT t fun s => s.Low).1 ≤ (bestT (withStock t S) fun s => s.Low).1 := by
            have := v1 _ l2; have := r4 _ l2; omega
          have a2 : (bestT t fun s => s.High).1 ≤ (bestT (withStock t S) fun s => s.High).1 := by
            have := v2 _ g2; have := q4 _ g2; omega
          have a3 : (bestT t fun s => s.Low).1 ≤ (bestT (withReach t R) fun s => s.Low).1 := by
            have := f4 _ (ext_mono hR'.1 l2); rw [l3]; exact this
          have a4 : (bestT t fun s => s.High).1 ≤ (bestT (withReach t R) fun s => s.High).1 := by
            have := d4 _ (ext_mono hR'.1 g2); rw [g3]; exact this
          have ends : ∀ g, endsT t route g = (spanOf ((truthsT t).map fun l => g (trade t route l)), 0) := fun g => by unfold endsT; rw [hr, if_pos hk]
          have ends' : ∀ g, endsT (withStock t S) route g = (spanOf ((truthsT t).map fun l => g (trade (withStock t S) route l)), 0) := fun g => by
            unfold endsT
            rw [show isRouteT (withStock t S) route = true from hr, if_pos k1]
            rfl
          have b1 := span_mono (f := fun l => (trade t route l).1) (g := fun l => (trade (withStock t S) route l).1) hne (fun l hl => (mono route hm l hl).1)
          have b2 := span_mono (f := fun l => (trade t route l).2) (g := fun l => (trade (withStock t S) route l).2) hne (fun l hl => (mono route hm l hl).2)
          simp only [ends, ends', hk]
          simp [a1, a2, a3, a4, b1, b2]
        · rw [hk]; simp
      · simp only [h, Option.bind_some, Bool.not_true, Bool.false_or, e0, Bool.false_eq_true, if_false, p_IsRoute11 hn hl, hr, Bool.not_false, if_true, hw]
end Go.Proofs.Ytooankffknoomaa
