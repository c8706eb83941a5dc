/-
  The plain law of RainsTrue.
-/
import Derived.Test.YtooankffknoomaaWorks2
namespace Go.Proofs.Ytooankffknoomaa
open Go Go.RowKit Go.Dec
theorem p_isTruth {n : Nat} (hn : 1000000 ≤ n) {t : Tour} (ho : okTour t = true) {l : List Int} (h1 : l.length < n) (h2 : l.length ≤ 9223372036854775807) : F_ref11_IsTruth n t l = some (isRowB l t.Days 3 t.Step && decide (wrongs t l ≤ t.Wrong)) := by
  simp only [F_ref11_IsTruth, p_isRowBig h1 h2, Option.bind_some]
  by_cases h : isRowB l t.Days 3 t.Step = true
  · have hv := rows_lv (Ok.head ho) ((mem_levels ho l).2 h)
    simp [h, p_Wrongs hn ho hv]
  · simp [h]
theorem law_RainsTrue (t : Tour) (x : law11_Trip) (y : law11_Ask) (ht : W_Tour t) (hx : W_law11_Trip x) (_ : W_law11_Ask y) : ∃ n, F_law11_RainsTrue n t x y = some true := by
  obtain ⟨⟨_, xr⟩, ⟨_, xl⟩⟩ := hx
  obtain ⟨n, hn, h1, h2⟩ : ∃ n, 1000000 ≤ n ∧ x.Route.length < n ∧ x.Levels.length < n := ⟨1000000 + x.Route.length + x.Levels.length, by omega, by omega, by omega⟩
  have hw := works_any hn
  refine ⟨n, ?_⟩
  simp only [F_law11_RainsTrue]
  rcases p_ready hn t (W_fairs ht) with h | ⟨h, hs, hok⟩
  · simp [h, hw]
  · have ho := hok.1
    have hh := okHead_all (Ok.head ho)
    by_cases htrip : isRouteT t x.Route = true ∧ (isRowB x.Levels t.Days 3 t.Step && decide (wrongs t x.Levels ≤ t.Wrong)) = true
    · obtain ⟨hr, hl⟩ := htrip
      have e1 : F_law11_isTrip n t x = some true := by simp [F_law11_isTrip, p_IsRouteBig h1 xr, hr, p_isTruth hn ho h2 xl, hl]
      by_cases hday : y.Day < 0 ∨ t.Days ≤ y.Day
      · rcases hday with hday | hday <;> simp [h, e1, hday, hw]
      · have d1 : decide (y.Day < 0) = false := by simp; omega
        have d2 : decide (t.Days ≤ y.Day) = false := by simp; omega
        simp only [Bool.and_eq_true, decide_eq_true_eq] at hl
        have hmr := (mem_levels ho _).2 hl.1
        have hmt : x.Levels ∈ truthsT t := (mem_truths _).2 ⟨hmr, hl.2⟩
        have hlv := truths_lv ho _ hmt
        have hrt := isRouteT_rt ho hr
        have hne : truthsT t ≠ [] := fun e => by rw [e] at hmt; cases hmt
        have hk : (knownT t true).2 = 0 := by unfold knownT; simp [ho, hne]
        have hlen : x.Route.length ≤ 20 := by rw [hrt.1]; omega
        have hwi : wi y.Day 0 (w64 (t.Days - 1)) = true := by rw [w64_days (Ok.head ho), wi_t]; omega
        have e2 : levelsT t y.Day = ((nums 0 4).filter fun z => (truthsT t).any fun r => at' r y.Day == z, 0) := by unfold levelsT; rw [hwi, if_pos hk]
        have ends : ∀ g, endsT t x.Route g = (spanOf ((truthsT t).map fun l => g (trade t x.Route l)), 0) := fun g => by unfold endsT; rw [hr, if_pos hk]
        have e3 : geti x.Levels y.Day = some (at' x.Levels y.Day) := geti_at (by omega) (by rw [hlv.1]; omega)
        have hin := hlv.2 _ (at_mem (l := x.Levels) (i := y.Day) (by omega) (by rw [hlv.1]; omega))
        have hll : ((nums 0 4).filter fun z => (truthsT t).any fun r => at' r y.Day == z).length ≤ 4 := by
          have := List.length_filter_le (fun z => (truthsT t).any fun r => at' r y.Day == z) (nums 0 4)
          rwa [nums_len] at this
        have e4 : (((nums 0 4).filter fun z => (truthsT t).any fun r => at' r y.Day == z).any fun z => z == at' x.Levels y.Day) = true := by
          rw [List.any_eq_true]
          refine ⟨at' x.Levels y.Day, List.mem_filter.2 ⟨nums_mem.2 (by omega), ?_⟩, by simp⟩
          rw [List.any_eq_true]
          exact ⟨x.Levels, hmt, by simp⟩
        have s1 := span_mem (a := (trade t x.Route x.Levels).1) (l := (truthsT t).map fun l => (trade t x.Route l).1) (List.mem_map.2 ⟨_, hmt, rfl⟩)
        have s2 := span_mem (a := (trade t x.Route x.Levels).2) (l := (truthsT t).map fun l => (trade t x.Route l).2) (List.mem_map.2 ⟨_, hmt, rfl⟩)
        have d3 : decide (20 < (((nums 0 4).filter fun z => (truthsT t).any fun r => at' r y.Day == z).length : Int)) = false := by simp; omega
        simp only [h, e1, d1, d2, Option.bind_some, Bool.not_true, Bool.false_eq_true, if_false, Bool.or_false, p_Levels hn hs, p_Takes hn hs hlen, p_Left hn hs hlen, p_Trade hn ho hrt hlv, e2, ends, e3, p_has hn _ _ (show ((nums 0 4).filter fun z => (truthsT t).any fun r => at' r y.Day == z).length ≤ 10000 by omega), e4, d3, F_law11_in]
        have d4 : (decide ((spanOf ((truthsT t).map fun l => (trade t x.Route l).1)).Low ≤ (trade t x.Route x.Levels).1) && decide ((trade t x.Route x.Levels).1 ≤ (spanOf ((truthsT t).map fun l => (trade t x.Route l).1)).High)) = true := by simp; exact s1
        have d5 : (decide ((spanOf ((truthsT t).map fun l => (trade t x.Route l).2)).Low ≤ (trade t x.Route x.Levels).2) && decide ((trade t x.Route x.Levels).2 ≤ (spanOf ((truthsT t).map fun l => (trade t x.Route l).2)).High)) = true := by simp; exact s2
        simp only [d4, d5, bne_self_eq_false, Bool.or_false, Bool.false_eq_true, if_false, Bool.not_true, Option.bind_some]
        by_cases hrain : y.Rain < 0 ∨ (t.Rains.length : Int) ≤ y.Rain
        · have : (decide (y.Rain < 0) || decide ((t.Rains.length : Int) ≤ y.Rain)) = true := by simpa using hrain
          simp [this, hw]
        · have d6 : (decide (y.Rain < 0) || decide ((t.Rains.length : Int) ≤ y.Rain)) = false := by simp; omega
          obtain ⟨z, hz, hzm⟩ := geti_lt (l := t.Rains) (i := y.Rain) (by omega) (by omega)
          have hwr : wi y.Rain 0 (w64 ((t.Rains.length : Int) - 1)) = true := by rw [w64_id (by omega) (by omega), wi_t]; omega
          simp only [d6, Bool.false_eq_true, if_false, p_Right hn hs, hz, Option.bind_some, p_IsRight hn ho hzm hlv]
          have e6 : rightT t y.Rain = (if (((truthsT t).countP fun r => isRight z r : Nat) : Int) == ((truthsT t).length : Int) then 1 else if (((truthsT t).countP fun r => isRight z r : Nat) : Int) == 0 then 2 else 3, 0) := by
            unfold rightT; rw [hwr, if_pos hk, hz]
          rw [e6]
          simp only [beq_self_eq_true, Bool.true_and]
          by_cases c1 : ((truthsT t).countP fun r => isRight z r) = (truthsT t).length
          · have := List.countP_eq_length.1 c1 _ hmt
            simp [c1, this, hw]
          · by_cases c2 : ((truthsT t).countP fun r => isRight z r) = 0
            · have := List.countP_eq_zero.1 c2 _ hmt
              have c3 : ¬ 0 = (truthsT t).length := by rw [← c2]; exact c1
              simp only [Bool.not_eq_true] at this
              have c4 : ((((truthsT t).countP fun r => isRight z r : Nat) : Int) == ((truthsT t).length : Int)) = false := by simp; omega
              rw [c4]
              simp [c2, this, hw]
            · have c4 : ((((truthsT t).countP fun r => isRight z r : Nat) : Int) == ((truthsT t).length : Int)) = false := by simp; omega
              have c5 : ((((truthsT t).countP fun r => isRight z r : Nat) : Int) == 0) = false := by simp only [beq_eq_false_iff_ne]; omega
              rw [c4, c5]
              simp [hw]
    · have e1 : F_law11_isTrip n t x = some false := by
        simp only [F_law11_isTrip, p_IsRouteBig h1 xr, Option.bind_some]
        by_cases hr : isRouteT t x.Route = true
        · have : (isRowB x.Levels t.Days 3 t.Step && decide (wrongs t x.Levels ≤ t.Wrong)) = false := by
            cases hb : (isRowB x.Levels t.Days 3 t.Step && decide (wrongs t x.Levels ≤ t.Wrong)) with
            | false => rfl
            | true => exact absurd ⟨hr, hb⟩ htrip
          rw [hr]
          simp [p_isTruth hn ho h2 xl, this]
        · simp [hr]
      simp [h, e1, hw]
end Go.Proofs.Ytooankffknoomaa
