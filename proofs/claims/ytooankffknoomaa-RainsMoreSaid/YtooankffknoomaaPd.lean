/-
  The plain layer of rains and its reference: routes, sales, spans.
-/
import Derived.Test.YtooankffknoomaaPc
namespace Go.Proofs.Ytooankffknoomaa
open Go Go.RowKit Go.Dec
set_option linter.unusedVariables false

def chk (l : List Int) (most step : Int) (i : Nat) : Bool := wi (l.getD i 0) 0 most && (decide (i = 0) || wi (w64 (l.getD i 0 - l.getD (i - 1) 0)) (w64 (-step)) step)
def isRowB (l : List Int) (many most step : Int) : Bool := (List.range l.length).all (chk l most step) && ((l.length : Int) == many)
theorem getD_lt {l : List Int} {i : Nat} (h : i < l.length) : l[i]? = some (l.getD i 0) := by simp [h]

def fairAt (t : Tour) (a : Int) : Fair := (geti t.Fairs a).getD ⟨0, []⟩
def tradeStep (t : Tour) (s : Int × Int) (al : Int × Int) : Int × Int :=
  (s.1 + (fairAt t al.1).Price * min s.2 (at' (fairAt t al.1).Sells al.2), s.2 - min s.2 (at' (fairAt t al.1).Sells al.2))
/-- takings, and what is left -/
def trade (t : Tour) (route levels : List Int) : Int × Int := (route.zip levels).foldl (tradeStep t) (0, t.Stock)
def isRt (t : Tour) (route : List Int) : Prop := route.length = t.Days.toNat ∧ ∀ x ∈ route, 0 ≤ x ∧ x < t.Fairs.length
def spanOf : List Int → Span
  | [] => ⟨0, 0⟩
  | a :: l => ⟨l.foldl min a, l.foldl max a⟩
def isRouteT (t : Tour) (route : List Int) : Bool := isRowB route t.Days (w64 ((t.Fairs.length : Int) - 1)) t.Reach

theorem fairAt_ok {t : Tour} (h : okTour t = true) {a : Int} (h0 : 0 ≤ a) (h1 : a < t.Fairs.length) : geti t.Fairs a = some (fairAt t a) ∧ (0 ≤ (fairAt t a).Price ∧ (fairAt t a).Price ≤ 999) ∧ (fairAt t a).Sells.length = 4 ∧ ∀ x ∈ (fairAt t a).Sells, 0 ≤ x ∧ x ≤ 99 := by
  obtain ⟨f, hf, hm⟩ := geti_lt h0 h1
  have : fairAt t a = f := by simp [fairAt, hf]
  rw [this]
  exact ⟨hf, okFair_of h hm⟩
theorem at_mem {l : List Int} {i : Int} (h0 : 0 ≤ i) (h1 : i < l.length) : at' l i ∈ l := by
  obtain ⟨x, hx, hm⟩ := geti_lt h0 h1
  simp [at', hx, hm]
theorem isRouteT_rt {t : Tour} (h : okTour t = true) {route : List Int} (hr : isRouteT t route = true) : isRt t route := by
  have hh := okHead_all (Ok.head h)
  simp only [isRouteT, isRowB, Bool.and_eq_true, beq_iff_eq, List.all_eq_true, List.mem_range] at hr
  refine ⟨by omega, fun x hx => ?_⟩
  obtain ⟨i, hi⟩ := List.mem_iff_getElem?.1 hx
  have hil := (List.getElem?_eq_some_iff.1 hi).1
  have := hr.1 i hil
  simp only [chk, Bool.and_eq_true, wi_t] at this
  rw [w64_id (by omega) (by omega)] at this
  have e : route.getD i 0 = x := by simp [hi]
  rw [e] at this
  omega

section
variable {n : Nat} (hn : 1000000 ≤ n)
include hn
theorem p_isRoute {t : Tour} {route : List Int} (hl : route.length ≤ 20) : F_rains_isRoute n t route = some (isRouteT t route) := by
  have := loop_all (step := F_rains_isRoute_s1 n t route) route.length (chk route (w64 ((t.Fairs.length : Int) - 1)) t.Reach) false (n := n) (by omega) (fun i hi => by
    simp only [F_rains_isRoute_s1, geti_nat, getD_lt hi, Option.bind_some, p_within, lt_nat, hi, decide_true, if_true, w64_nat (show i ≤ 4611686018427387904 by omega), chk]
    cases wi (route.getD i 0) 0 (w64 ((t.Fairs.length : Int) - 1)) with
    | false => rfl
    | true =>
      cases i with
      | zero => rfl
      | succ i =>
        have e : w64 (((i + 1 : Nat) : Int) - 1) = (i : Int) := by rw [w64_id] <;> omega
        have e2 : decide (0 < ((i + 1 : Nat) : Int)) = true := by simp
        rw [e, geti_nat, getD_lt (show i < route.length by omega), e2]
        simp only [Bool.not_true, Bool.false_eq_true, if_false, if_true, Option.bind_some, p_within, Nat.add_sub_cancel, Bool.true_and]
        have e3 : decide (i + 1 = 0) = false := by simp
        rw [e3]
        cases wi (w64 (route.getD (i + 1) 0 - route.getD i 0)) (w64 (-t.Reach)) t.Reach <;> rfl) (by simp [F_rains_isRoute_s1]) (by omega)
  simp only [F_rains_isRoute, this, Option.bind_some, isRouteT, isRowB]
  cases (List.range route.length).all (chk route (w64 ((t.Fairs.length : Int) - 1)) t.Reach) <;> rfl
theorem p_isRow {l : List Int} {many most step : Int} (hl : l.length ≤ 20) : F_ref11_isRow n l many most step = some (isRowB l many most step) := by
  have := loop_all (step := F_ref11_isRow_s1 n l most step) l.length (chk l most step) false (n := n) (by omega) (fun i hi => by
    simp only [F_ref11_isRow_s1, geti_nat, getD_lt hi, Option.bind_some, p_within11, lt_nat, hi, decide_true, if_true, w64_nat (show i ≤ 4611686018427387904 by omega), chk]
    cases wi (l.getD i 0) 0 most with
    | false => rfl
    | true =>
      cases i with
      | zero => rfl
      | succ i =>
        have e : w64 (((i + 1 : Nat) : Int) - 1) = (i : Int) := by rw [w64_id] <;> omega
        have e2 : decide (0 < ((i + 1 : Nat) : Int)) = true := by simp
        rw [e, geti_nat, getD_lt (show i < l.length by omega), e2]
        simp only [Bool.not_true, Bool.false_eq_true, if_false, if_true, Option.bind_some, p_within11, Nat.add_sub_cancel, Bool.true_and]
        have e3 : decide (i + 1 = 0) = false := by simp
        rw [e3]
        cases wi (w64 (l.getD (i + 1) 0 - l.getD i 0)) (w64 (-step)) step <;> rfl) (by simp [F_ref11_isRow_s1]) (by omega)
  simp only [F_ref11_isRow, this, Option.bind_some, isRowB]
  cases (List.range l.length).all (chk l most step) <;> rfl
theorem p_IsRoute11 {t : Tour} {route : List Int} (hl : route.length ≤ 20) : F_ref11_IsRoute n t route = some (isRouteT t route) := by
  simp only [F_ref11_IsRoute, p_isRow hn hl, Option.bind_some, isRouteT]

/-- takings and what is left stay small -/
def trInv (s : Int × Int) : Prop := 0 ≤ s.1 ∧ 0 ≤ s.2 ∧ s.2 ≤ 999 ∧ s.1 + 999 * s.2 ≤ 998001
omit hn in
theorem trade_step_inv {t : Tour} (h : okTour t = true) {s al : Int × Int} (h1 : 0 ≤ al.1 ∧ al.1 < t.Fairs.length) (h2 : 0 ≤ al.2 ∧ al.2 ≤ 3) (hs : trInv s) :
    trInv (tradeStep t s al) ∧ 0 ≤ min s.2 (at' (fairAt t al.1).Sells al.2) ∧ 0 ≤ (fairAt t al.1).Price * min s.2 (at' (fairAt t al.1).Sells al.2) ∧ (fairAt t al.1).Price * min s.2 (at' (fairAt t al.1).Sells al.2) ≤ 998001 ∧ min s.2 (at' (fairAt t al.1).Sells al.2) ≤ s.2 := by
  obtain ⟨_, hp, hl, hsell⟩ := fairAt_ok h h1.1 h1.2
  have hm := hsell _ (at_mem (i := al.2) h2.1 (by omega))
  obtain ⟨i1, i2, i3, i4⟩ := hs
  have k1 : 0 ≤ min s.2 (at' (fairAt t al.1).Sells al.2) := by omega
  have k2 : min s.2 (at' (fairAt t al.1).Sells al.2) ≤ s.2 := by omega
  have k3 : 0 ≤ (fairAt t al.1).Price * min s.2 (at' (fairAt t al.1).Sells al.2) := Int.mul_nonneg hp.1 k1
  have k4 : (fairAt t al.1).Price * min s.2 (at' (fairAt t al.1).Sells al.2) ≤ 999 * min s.2 (at' (fairAt t al.1).Sells al.2) := Int.mul_le_mul_of_nonneg_right hp.2 k1
  refine ⟨⟨?_, ?_, ?_, ?_⟩, k1, k3, ?_, k2⟩ <;> (try simp only [tradeStep]) <;> omega
theorem p_sells {t : Tour} (h : okTour t = true) {route levels : List Int} (hr : isRt t route) (hl : isLv t levels) (ls : List (List Int)) :
    F_rains_weather_sells n ⟨t, ls⟩ route levels = some ⟨(trade t route levels).1, (trade t route levels).2⟩ ∧ trInv (trade t route levels) := by
  have hh := okHead_all (Ok.head h)
  have hz : (route.zip levels).length = route.length := by rw [List.length_zip, hr.1, hl.1]; simp
  have := loop_fold (step := F_rains_weather_sells_s1 n ⟨t, ls⟩ route levels) (route.zip levels) (fun i s => ((i : Int), s.1, s.2)) (tradeStep t) (fun s => s) (fun _ s => trInv s) (n := n) (0, t.Stock) ⟨by simp, by simp only; omega, by simp only; omega, by simp only; omega⟩ (fun i x b hx hb => by
    have hi := (List.getElem?_eq_some_iff.1 hx).1
    have hrl := hr.1
    rw [List.getElem?_zip_eq_some] at hx
    have hx1 := hr.2 _ (List.mem_of_getElem? hx.1)
    have hx2 := hl.2 _ (List.mem_of_getElem? hx.2)
    obtain ⟨k0, k1, k2, k3, k4⟩ := trade_step_inv h hx1 hx2 hb
    refine ⟨?_, k0⟩
    obtain ⟨f1, f2, f3, f4⟩ := fairAt_ok h hx1.1 hx1.2
    obtain ⟨i1, i2, i3, i4⟩ := hb
    simp only [F_rains_weather_sells_s1, geti_nat, hx.1, hx.2, Option.bind_some, lt_nat, show i < route.length by omega, decide_true, if_true, f1, geti_at hx2.1 (show x.2 < ((fairAt t x.1).Sells.length : Int) by omega), w64_nat (show i ≤ 4611686018427387904 by omega), tradeStep]
    rw [w64_id (n := (fairAt t x.1).Price * _) (by omega) (by omega), w64_id (by omega) (by omega), w64_id (by omega) (by omega)]) (fun b _ => by simp [F_rains_weather_sells_s1, hz]) (by have := hr.1; omega)
  obtain ⟨h1, h2⟩ := this
  refine ⟨?_, h2⟩
  simp only [Int.natCast_zero] at h1
  simp only [F_rains_weather_sells, h1, Option.bind_some]
  rfl
theorem p_Trade {t : Tour} (h : okTour t = true) {route levels : List Int} (hr : isRt t route) (hl : isLv t levels) :
    F_ref11_Trade n t route levels = some (trade t route levels) := by
  have hh := okHead_all (Ok.head h)
  have hz : (route.zip levels).length = route.length := by rw [List.length_zip, hr.1, hl.1]; simp
  have hd : t.Days = ((route.zip levels).length : Int) := by rw [hz, hr.1]; omega
  have := loop_fold (step := F_ref11_Trade_s1 n t route levels) (route.zip levels) (fun i s => (s.1, s.2, (i : Int))) (tradeStep t) (fun s => s) (fun _ s => trInv s) (n := n) (0, t.Stock) ⟨by simp, by simp only; omega, by simp only; omega, by simp only; omega⟩ (fun i x b hx hb => by
    have hi := (List.getElem?_eq_some_iff.1 hx).1
    have hrl := hr.1
    rw [List.getElem?_zip_eq_some] at hx
    have hx1 := hr.2 _ (List.mem_of_getElem? hx.1)
    have hx2 := hl.2 _ (List.mem_of_getElem? hx.2)
    obtain ⟨k0, k1, k2, k3, k4⟩ := trade_step_inv h hx1 hx2 hb
    refine ⟨?_, k0⟩
    obtain ⟨f1, f2, f3, f4⟩ := fairAt_ok h hx1.1 hx1.2
    obtain ⟨i1, i2, i3, i4⟩ := hb
    simp only [F_ref11_Trade_s1, geti_nat, hx.1, hx.2, Option.bind_some, hd, lt_nat, hi, decide_true, if_true, f1, geti_at hx2.1 (show x.2 < ((fairAt t x.1).Sells.length : Int) by omega), w64_nat (show i ≤ 4611686018427387904 by omega), tradeStep]
    rw [Int.mul_comm (min b.2 _) (fairAt t x.1).Price]
    rw [w64_id (n := (fairAt t x.1).Price * _) (by omega) (by omega), w64_id (by omega) (by omega), w64_id (by omega) (by omega)]) (fun b _ => by simp only [F_ref11_Trade_s1, hd]; simp) (by have := hr.1; omega)
  obtain ⟨h1, h2⟩ := this
  simp only [Int.natCast_zero] at h1
  simp only [F_ref11_Trade, h1, Option.bind_some]
  rfl

theorem p_bounds {t : Tour} (h : okTour t = true) {route : List Int} (hr : isRt t route) {ls : List (List Int)} (hne : ls ≠ []) (hlen : ls.length ≤ 4096) (hl : ∀ l ∈ ls, isLv t l) (of : rains_sale → Option Int) (g : Int × Int → Int) (hof : ∀ s : Int × Int, of ⟨s.1, s.2⟩ = some (g s)) :
    F_rains_weather_bounds n ⟨t, ls⟩ route of = some (spanOf (ls.map fun l => g (trade t route l))) := by
  cases ls with
  | nil => exact absurd rfl hne
  | cons a tl =>
    simp only [List.length_cons] at hlen
    have h0 : geti (a :: tl) 0 = some a := by simp [geti]
    have h1 : slc (a :: tl) 1 (a :: tl).length = some tl := by simp [slc]; omega
    have h2 := (p_sells hn h hr (hl a (List.mem_cons_self ..)) (a :: tl)).1
    simp only [F_rains_weather_bounds, h0, Option.bind_some, h2, hof, h1]
    have := loop_foldl (step := F_rains_weather_bounds_s1 n ⟨t, a :: tl⟩ route of tl) tl (fun i s => ((i : Int), s.1, s.2)) (fun s l => (min s.1 (g (trade t route l)), max s.2 (g (trade t route l)))) (fun s => s) (n := n) (g (trade t route a), g (trade t route a)) (fun i x b hx hi => by
      have h2 := (p_sells hn h hr (hl x (List.mem_cons_of_mem _ (List.mem_of_getElem? hx))) (a :: tl)).1
      simp only [F_rains_weather_bounds_s1, geti_nat, hx, Option.bind_some, h2, hof, lt_nat, hi, decide_true, if_true, w64_nat (show i ≤ 4611686018427387904 by omega)]) (fun b => by simp [F_rains_weather_bounds_s1]) (by omega)
    simp only [Int.natCast_zero] at this
    rw [this]
    simp only [Option.bind_some, List.map_cons, spanOf]
    rw [foldl_pair (fun s l => min s (g (trade t route l))) (fun s l => max s (g (trade t route l))), foldl_map' (fun l => g (trade t route l)) min, foldl_map' (fun l => g (trade t route l)) max]

/-- the reference's walk over the truths -/
theorem p_wide {t : Tour} (h : okTour t = true) {route : List Int} (hr : isRt t route) {ls : List (List Int)} (hlen : ls.length ≤ 4096) (hl : ∀ l ∈ ls, isLv t l) (g : Int × Int → Int) (step : Int × Int × Int → Option ((Int × Int × Int) ⊕ (Int × Int)))
    (hstep : ∀ (i : Nat) x lo hi, ls[i]? = some x → step ((i : Int), lo, hi) = some (.inl (((i + 1 : Nat) : Int), if i = 0 then (g (trade t route x), g (trade t route x)) else (min lo (g (trade t route x)), max hi (g (trade t route x)))))) (hd : ∀ lo hi, step ((ls.length : Int), lo, hi) = some (.inr (lo, hi))) :
    loopO n step (0, 0, 0) = some ((spanOf (ls.map fun l => g (trade t route l))).Low, (spanOf (ls.map fun l => g (trade t route l))).High) := by
  cases ls with
  | nil =>
    have := loop_done (n := n) (hd 0 0) (by omega)
    simp only [List.length_nil, Int.natCast_zero] at this
    rw [this]; rfl
  | cons a tl =>
    simp only [List.length_cons] at hlen
    obtain ⟨m, rfl⟩ : ∃ k, n = k + 1 := ⟨n - 1, by omega⟩
    have h0 := hstep 0 a 0 0 (by simp)
    simp only [Int.natCast_zero, if_true] at h0
    rw [loopO_succ, h0]
    have := loop_foldl (step := step) tl (fun i s => (((i + 1 : Nat) : Int), s.1, s.2)) (fun s l => (min s.1 (g (trade t route l)), max s.2 (g (trade t route l)))) (fun s => s) (n := m) (g (trade t route a), g (trade t route a)) (fun i x b hx hi => by
      have h2 := hstep (i + 1) x b.1 b.2 (by simpa using hx)
      rw [if_neg (by omega)] at h2
      exact h2) (fun b => hd b.1 b.2) (by omega)
    simp only at this ⊢
    rw [this, foldl_pair (fun s l => min s (g (trade t route l))) (fun s l => max s (g (trade t route l))), foldl_map' (fun l => g (trade t route l)) min, foldl_map' (fun l => g (trade t route l)) max]
    rfl
theorem p_takes11 {t : Tour} (h : okTour t = true) {route : List Int} (hr : isRt t route) {ls : List (List Int)} (hlen : ls.length ≤ 4096) (hl : ∀ l ∈ ls, isLv t l) :
    F_ref11_takes n t ls route = some (spanOf (ls.map fun l => (trade t route l).1)) := by
  have := p_wide hn h hr hlen hl (fun s => s.1) (F_ref11_takes_s1 n t ls route) (fun i x lo hi hx => by
    have hi' := (List.getElem?_eq_some_iff.1 hx).1
    simp only [F_ref11_takes_s1, geti_nat, hx, Option.bind_some, p_Trade hn h hr (hl x (List.mem_of_getElem? hx)), lt_nat, hi', decide_true, if_true, w64_nat (show i ≤ 4611686018427387904 by omega), F_ref11_wider]
    cases i with
    | zero => rfl
    | succ i =>
      have : (((i + 1 : Nat) : Int) == 0) = false := by simp; omega
      rw [this]; rfl) (fun lo hi => by simp [F_ref11_takes_s1])
  simp only [F_ref11_takes, this, Option.bind_some]
end
end Go.Proofs.Ytooankffknoomaa
