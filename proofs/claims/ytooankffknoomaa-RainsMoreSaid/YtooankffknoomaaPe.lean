/-
  The plain layer of rains and its reference: what is asked for.
-/
import Derived.Test.YtooankffknoomaaPd
namespace Go.Proofs.Ytooankffknoomaa
open Go Go.RowKit Go.Dec
set_option linter.unusedVariables false

theorem knownT_ok {t : Tour} {is : Bool} (h : (knownT t is).2 = 0) : okTour t = true ∧ is = true ∧ truthsT t ≠ [] ∧ (knownT t is).1 = truthsT t := by
  unfold knownT at h ⊢
  by_cases h1 : okTour t = true
  · cases is with
    | false => simp [h1] at h
    | true =>
      by_cases h2 : truthsT t = []
      · simp [h1, h2] at h
      · exact ⟨h1, rfl, h2, by simp [h1, h2]⟩
  · simp [h1] at h
theorem knownT_err {t : Tour} {is : Bool} (h : (knownT t is).2 ≠ 0) : (knownT t is).1 = [] := by
  unfold knownT at h ⊢
  by_cases h1 : okTour t = true
  · cases is with
    | false => simp [h1]
    | true =>
      by_cases h2 : truthsT t = []
      · simp [h1, h2]
      · simp [h1, h2] at h
  · simp [h1]
theorem truths_rows {t : Tour} {r : List Int} (h : r ∈ truthsT t) : r ∈ rowsT t := (List.mem_filter.1 h).1
theorem truths_lv {t : Tour} (ho : okTour t = true) : ∀ l ∈ truthsT t, isLv t l := fun l h => rows_lv (Ok.head ho) (truths_rows h)

def endsT (t : Tour) (route : List Int) (g : Int × Int → Int) : Span × Int :=
  if (knownT t (isRouteT t route)).2 = 0 then (spanOf ((truthsT t).map fun l => g (trade t route l)), 0) else (⟨0, 0⟩, (knownT t (isRouteT t route)).2)
def valT (t : Tour) (sel : Span → Int) (r : List Int) : Int := sel (spanOf ((truthsT t).map fun l => (trade t r l).1))
def routesT (t : Tour) : List (List Int) := ext (t.Fairs.length - 1) t.Reach t.Days.toNat []
def argStep (val : List Int → Int) (s : List Int × Int) (r : List Int) : List Int × Int := if decide (s.2 < val r) = true then (r, val r) else s
def bestT (t : Tour) (sel : Span → Int) : Int × List Int × Int :=
  if (knownT t true).2 = 0 then (((routesT t).foldl (argStep (valT t sel)) ([], -1)).2, ((routesT t).foldl (argStep (valT t sel)) ([], -1)).1, 0) else (0, [], (knownT t true).2)
def topT (t : Tour) (sel : Span → Int) : Int × Int :=
  if (knownT t true).2 = 0 then (((routesT t).map (valT t sel)).foldl max 0, 0) else (0, (knownT t true).2)
def fewestT (t : Tour) : Int × Int := if okTour t = true then ((rowsT t).foldl (fun m r => min m (wrongs t r)) (t.Rains.length : Int), 0) else (0, 110)
def manyT (t : Tour) : Int × Int := (((knownT t true).1.length : Int), (knownT t true).2)
def levelsT (t : Tour) (day : Int) : List Int × Int :=
  if (knownT t (wi day 0 (w64 (t.Days - 1)))).2 = 0 then ((nums 0 4).filter fun x => (truthsT t).any fun r => at' r day == x, 0) else ([], (knownT t (wi day 0 (w64 (t.Days - 1)))).2)
def rightT (t : Tour) (rain : Int) : Int × Int :=
  if (knownT t (wi rain 0 (w64 ((t.Rains.length : Int) - 1)))).2 = 0 then
    (if (((truthsT t).countP fun r => match geti t.Rains rain with | some x => isRight x r | none => false : Nat) : Int) == ((truthsT t).length : Int) then 1 else if (((truthsT t).countP fun r => match geti t.Rains rain with | some x => isRight x r | none => false : Nat) : Int) == 0 then 2 else 3, 0)
  else (0, (knownT t (wi rain 0 (w64 ((t.Rains.length : Int) - 1)))).2)

theorem routes_rt {t : Tour} (ho : okTour t = true) {r : List Int} (hr : r ∈ routesT t) : isRt t r := by
  have hh := okHead_all (Ok.head ho)
  obtain ⟨h1, h2⟩ := ext_mem _ _ _ hr (by simp)
  exact ⟨by simpa using h1, fun x hx => by have := h2 x hx; omega⟩

section
variable {n : Nat} (hn : 1000000 ≤ n)
include hn
theorem routes_len {t : Tour} (h : okTour t = true) : (routesT t).length ≤ 4096 := by
  have _hn := hn
  have h1 := okHead_all (Ok.head h)
  refine Nat.le_trans (ext_len (by omega) _ _ _) ?_
  exact Nat.le_trans (Nat.pow_le_pow_right (by omega) (show t.Days.toNat ≤ 6 by omega)) (by decide)
theorem truths_len {t : Tour} (h : okTour t = true) : (truthsT t).length ≤ 4096 := Nat.le_trans (List.length_filter_le _ _) (rows_len hn h)

theorem p_ends {t : Tour} (hs : Sm t) {route : List Int} (hl : route.length ≤ 20) (of : rains_sale → Option Int) (g : Int × Int → Int) (hof : ∀ s : Int × Int, of ⟨s.1, s.2⟩ = some (g s)) : F_rains_ends n t route of = some (endsT t route g) := by
  simp only [F_rains_ends, p_isRoute hn hl, p_open hn hs, Option.bind_some, endsT]
  by_cases h : (knownT t (isRouteT t route)).2 = 0
  · obtain ⟨h1, h2, h3, h4⟩ := knownT_ok h
    rw [h, h4]
    have := p_bounds hn h1 (isRouteT_rt h1 h2) h3 (truths_len hn h1) (truths_lv h1) of g hof
    simp [this]
  · simp [h]
theorem p_Takes {t : Tour} (hs : Sm t) {route : List Int} (hl : route.length ≤ 20) : F_rains_Takes n t route = some (endsT t route fun s => s.1) := by
  simp only [F_rains_Takes, p_ends hn hs hl (fun a0_ => F_rains_sale_takings n a0_) (fun s => s.1) (fun s => rfl), Option.bind_some]
theorem p_Left {t : Tour} (hs : Sm t) {route : List Int} (hl : route.length ≤ 20) : F_rains_Left n t route = some (endsT t route fun s => s.2) := by
  simp only [F_rains_Left, p_ends hn hs hl (fun a0_ => F_rains_sale_rest n a0_) (fun s => s.2) (fun s => rfl), Option.bind_some]
theorem p_Takes11 {t : Tour} (hs : Sm t) {route : List Int} (hl : route.length ≤ 20) : F_ref11_Takes n t route = some (endsT t route fun s => s.1) := by
  simp only [F_ref11_Takes, p_IsRoute11 hn hl, p_known hn hs, Option.bind_some, endsT]
  by_cases h : (knownT t (isRouteT t route)).2 = 0
  · obtain ⟨h1, h2, h3, h4⟩ := knownT_ok h
    rw [h, h4]
    simp [p_takes11 hn h1 (isRouteT_rt h1 h2) (truths_len hn h1) (truths_lv h1)]
  · simp [h]
theorem p_Left11 {t : Tour} (hs : Sm t) {route : List Int} (hl : route.length ≤ 20) : F_ref11_Left n t route = some (endsT t route fun s => s.2) := by
  simp only [F_ref11_Left, p_IsRoute11 hn hl, p_known hn hs, Option.bind_some, endsT]
  by_cases h : (knownT t (isRouteT t route)).2 = 0
  · obtain ⟨h1, h2, h3, h4⟩ := knownT_ok h
    have hr := isRouteT_rt h1 h2
    have := p_wide hn h1 hr (truths_len hn h1) (truths_lv h1) (fun s => s.2) (F_ref11_Left_s1 n t route (knownT t (isRouteT t route))) (fun i x lo hi hx => by
      have hi' := (List.getElem?_eq_some_iff.1 hx).1
      have hm := truths_len hn h1
      simp only [F_ref11_Left_s1, h4, geti_nat, hx, Option.bind_some, p_Trade hn h1 hr (truths_lv h1 x (List.mem_of_getElem? hx)), lt_nat, hi', decide_true, if_true, w64_nat (show i ≤ 4611686018427387904 by omega), F_ref11_wider]
      cases i with
      | zero => rfl
      | succ i =>
        have : (((i + 1 : Nat) : Int) == 0) = false := by simp; omega
        rw [this]; rfl) (fun lo hi => by simp [F_ref11_Left_s1, h4])
    rw [this]
    simp [h]
  · have h4 := knownT_err h
    have : loopO n (F_ref11_Left_s1 n t route (knownT t (isRouteT t route))) (0, 0, 0) = some (0, 0) := loop_done (by simp [F_ref11_Left_s1, h4]) (by omega)
    rw [this]
    simp [h]

theorem p_best {t : Tour} (hs : Sm t) (of : Span → Option Int) (sel : Span → Int) (hof : ∀ s, of s = some (sel s)) : F_rains_best n t of = some (bestT t sel) := by
  simp only [F_rains_best, p_open hn hs, Option.bind_some, bestT]
  by_cases h : (knownT t true).2 = 0
  · obtain ⟨h1, h2, h3, h4⟩ := knownT_ok h
    have hh := okHead_all (Ok.head h1)
    have hd : t.Days = (t.Days.toNat : Int) := by omega
    rw [h, h4]
    obtain ⟨k1, _⟩ := foldO_foldl (ρ := Unit) (cs := F_rains_best_s1 n of ⟨t, truthsT t⟩) (argStep (valT t sel)) (fun i o => True) (routesT t) 0 (([] : List Int), (-1)) trivial (fun i s a hik ha hi => by
      have hr := routes_rt h1 ha
      have hrl := hr.1
      refine ⟨?_, trivial⟩
      simp only [F_rains_best_s1, p_bounds hn h1 hr h3 (truths_len hn h1) (truths_lv h1) (fun a0_ => F_rains_sale_takings n a0_) (fun s => s.1) (fun s => rfl), Option.bind_some, hof, F_slices_Clone___int_int_]
      rw [lim_ok (by omega)]
      rw [show sel (spanOf (List.map (fun l => (trade t a l).1) (truthsT t))) = valT t sel a from rfl]
      simp only [argStep]
      cases decide (s.2 < valT t sel a) <;> rfl)
    have k2 := p_iter hn (most := t.Fairs.length - 1) (step := t.Reach) (by omega) (by omega) t.Days.toNat (by omega) (F_rains_best_s1 n of ⟨t, truthsT t⟩) (([] : List Int), (-1)) _ k1
    rw [← hd] at k2
    have e : ((t.Fairs.length - 1 : Nat) : Int) = w64 ((t.Fairs.length : Int) - 1) := by rw [w64_id] <;> omega
    rw [e] at k2
    simp only [F_rains_routes, F_rains_rows, Option.bind_some, if_true]
    simp [k2]
  · simp [h]
theorem p_Routes11 {t : Tour} (h1 : okTour t = true) : F_ref11_Routes n t = some (routesT t) := by
  have hh := okHead_all (Ok.head h1)
  have h3 := p_rows11 (most := t.Fairs.length - 1) (step := t.Reach) (many := t.Days) (by omega) (by omega) t.Days.toNat n [] (by omega) (by simp; omega) (by simp; omega) (by simp)
  have e : ((t.Fairs.length - 1 : Nat) : Int) = w64 ((t.Fairs.length : Int) - 1) := by rw [w64_id] <;> omega
  rw [e] at h3
  simp only [F_ref11_Routes, h3, Option.bind_some]
  rfl
theorem p_Best11 {t : Tour} (hs : Sm t) : F_ref11_Best n t = some (topT t fun s => s.Low) := by
  simp only [F_ref11_Best, p_known hn hs, Option.bind_some, topT]
  by_cases h : (knownT t true).2 = 0
  · obtain ⟨h1, h2, h3, h4⟩ := knownT_ok h
    have hrl := routes_len hn h1
    have := loop_foldl (step := F_ref11_Best_s1 n t (knownT t true) (routesT t)) (routesT t) (fun i c => (c, (i : Int))) (fun c r => max c (valT t (fun s => s.Low) r)) (fun c => c) (n := n) (0 : Int) (fun i x b hx hi => by
      simp only [F_ref11_Best_s1, h4, geti_nat, hx, Option.bind_some, p_takes11 hn h1 (routes_rt h1 (List.mem_of_getElem? hx)) (truths_len hn h1) (truths_lv h1), lt_nat, hi, decide_true, if_true, w64_nat (show i ≤ 4611686018427387904 by omega), valT]) (fun b => by simp [F_ref11_Best_s1]) (by omega)
    simp only [Int.natCast_zero] at this
    rw [p_Routes11 hn h1]
    simp only [Option.bind_some, this, foldl_map']
    simp [h]
  · simp [h]
theorem p_Hopes11 {t : Tour} (hs : Sm t) : F_ref11_Hopes n t = some (topT t fun s => s.High) := by
  simp only [F_ref11_Hopes, p_known hn hs, Option.bind_some, topT]
  by_cases h : (knownT t true).2 = 0
  · obtain ⟨h1, h2, h3, h4⟩ := knownT_ok h
    have hrl := routes_len hn h1
    have := loop_foldl (step := F_ref11_Hopes_s1 n t (knownT t true) (routesT t)) (routesT t) (fun i c => (c, (i : Int))) (fun c r => max c (valT t (fun s => s.High) r)) (fun c => c) (n := n) (0 : Int) (fun i x b hx hi => by
      simp only [F_ref11_Hopes_s1, h4, geti_nat, hx, Option.bind_some, p_takes11 hn h1 (routes_rt h1 (List.mem_of_getElem? hx)) (truths_len hn h1) (truths_lv h1), lt_nat, hi, decide_true, if_true, w64_nat (show i ≤ 4611686018427387904 by omega), valT]) (fun b => by simp [F_ref11_Hopes_s1]) (by omega)
    simp only [Int.natCast_zero] at this
    rw [p_Routes11 hn h1]
    simp only [Option.bind_some, this, foldl_map']
    simp [h]
  · simp [h]
theorem p_Best {t : Tour} (hs : Sm t) : F_rains_Best n t = some ((bestT t fun s => s.Low).1, (bestT t fun s => s.Low).2.2) := by
  simp only [F_rains_Best, p_best hn hs (fun a0_ => F_rains_low n a0_) (fun s => s.Low) (fun s => rfl), Option.bind_some]
theorem p_Hopes {t : Tour} (hs : Sm t) : F_rains_Hopes n t = some ((bestT t fun s => s.High).1, (bestT t fun s => s.High).2.2) := by
  simp only [F_rains_Hopes, p_best hn hs (fun a0_ => F_rains_high n a0_) (fun s => s.High) (fun s => rfl), Option.bind_some]
theorem p_Route {t : Tour} (hs : Sm t) : F_rains_Route n t = some (bestT t fun s => s.Low).2 := by
  simp only [F_rains_Route, p_best hn hs (fun a0_ => F_rains_low n a0_) (fun s => s.Low) (fun s => rfl), Option.bind_some]

theorem p_Copy {t : Tour} (hs : Sm t) : F_ref11_Copy n t = some t := by
  obtain ⟨h1, h2, h3⟩ := hs
  have := loop_fold (step := F_ref11_Copy_s1 n t) t.Fairs (fun i o => ((i : Int), o)) (fun o f => o ++ [f]) (fun o => o) (fun i o => o.length = i) (n := n) ([] : List Fair) rfl (fun i x b hx hb => by
    have hi := (List.getElem?_eq_some_iff.1 hx).1
    have hx3 := h3 x (List.mem_of_getElem? hx)
    refine ⟨?_, by simp [hb]⟩
    simp only [F_ref11_Copy_s1, geti_nat, hx, Option.bind_some, lt_nat, hi, decide_true, if_true, w64_nat (show i ≤ 4611686018427387904 by omega), List.nil_append]
    rw [lim_ok (by omega)]
    simp only [Option.bind_some]
    rw [lim_ok (by simp; omega)]
    rfl) (fun b _ => by simp [F_ref11_Copy_s1]) (by omega)
  simp only [Int.natCast_zero] at this
  simp only [F_ref11_Copy, List.nil_append, this.1]
  rw [lim_ok (by omega)]
  have e : t.Fairs.foldl (fun o f => o ++ [f]) [] = t.Fairs := by
    have := foldl_append_map (fun f : Fair => f) t.Fairs []
    simpa using this
  simp only [Option.bind_some, e]
theorem p_Fewest {t : Tour} (hs : Sm t) : F_rains_Fewest n t = some (fewestT t) := by
  simp only [F_rains_Fewest, p_Check hn hs, Option.bind_some, fewestT]
  by_cases ho : okTour t = true
  · have hh := okHead_all (Ok.head ho)
    have hd : t.Days = (t.Days.toNat : Int) := by omega
    obtain ⟨k1, _⟩ := foldO_foldl (ρ := Unit) (cs := F_rains_Fewest_s1 n t) (fun m r => min m (wrongs t r)) (fun i o => True) (rowsT t) 0 (t.Rains.length : Int) trivial (fun i s a hik ha hi => by
      simp [F_rains_Fewest_s1, p_wrong hn ho (rows_lv (Ok.head ho) ha)])
    have k2 := p_iter hn (most := 3) (step := t.Step) (by omega) (by omega) t.Days.toNat (by omega) (F_rains_Fewest_s1 n t) (t.Rains.length : Int) _ k1
    rw [← hd] at k2
    rw [show ((3 : Nat) : Int) = 3 from rfl] at k2
    simp only [F_rains_levels, F_rains_rows, Option.bind_some]
    simp [k2, ho]
  · simp [ho]
theorem p_Fewest11 {t : Tour} (hs : Sm t) : F_ref11_Fewest n t = some (fewestT t) := by
  simp only [F_ref11_Fewest, p_Check11 hn hs, Option.bind_some, fewestT]
  by_cases ho : okTour t = true
  · have hh := okHead_all (Ok.head ho)
    have hrl := rows_len hn ho
    have h3 := p_rows11 (most := 3) (step := t.Step) (many := t.Days) (by omega) (by omega) t.Days.toNat n [] (by omega) (by simp; omega) (by simp; omega) (by simp)
    rw [show ((3 : Nat) : Int) = 3 from rfl, show ext 3 t.Step t.Days.toNat [] = rowsT t from rfl] at h3
    have := loop_foldl (step := F_ref11_Fewest_s1 n t (rowsT t)) (rowsT t) (fun i c => (c, (i : Int))) (fun m r => min m (wrongs t r)) (fun c => c) (n := n) (t.Rains.length : Int) (fun i x b hx hi => by
      simp only [F_ref11_Fewest_s1, geti_nat, hx, Option.bind_some, p_Wrongs hn ho (rows_lv (Ok.head ho) (List.mem_of_getElem? hx)), lt_nat, hi, decide_true, if_true, w64_nat (show i ≤ 4611686018427387904 by omega)]) (fun b => by simp [F_ref11_Fewest_s1]) (by omega)
    simp only [Int.natCast_zero] at this
    simp [ho, h3, this]
  · simp [ho]
theorem p_Many {t : Tour} (hs : Sm t) : F_rains_Many n t = some (manyT t) := by
  simp only [F_rains_Many, p_open hn hs, Option.bind_some, manyT]
  by_cases h : (knownT t true).2 = 0
  · simp [h]
  · simp [h, knownT_err h]
theorem p_Many11 {t : Tour} (hs : Sm t) : F_ref11_Many n t = some (manyT t) := by
  simp only [F_ref11_Many, p_known hn hs, Option.bind_some, manyT]
end
end Go.Proofs.Ytooankffknoomaa
