/-
  Plain facts on rows, routes, truths and sales. No program in sight.
-/
import Derived.Test.YtooankffknoomaaPf
namespace Go.Proofs.Ytooankffknoomaa
open Go Go.RowKit Go.Dec
set_option linter.unusedVariables false

/-! ### rows -/
def rowOk (most : Nat) (step : Int) : List Int → List Int → Prop
  | _, [] => True
  | p, x :: q => (0 ≤ x ∧ x ≤ most) ∧ okNext step p x = true ∧ rowOk most step (p ++ [x]) q
theorem mem_ext {most : Nat} {step : Int} : ∀ (k : Nat) (p r : List Int), r ∈ ext most step k p ↔ ∃ q, r = p ++ q ∧ q.length = k ∧ rowOk most step p q
  | 0, p, r => by
    simp only [ext, List.mem_singleton]
    constructor
    · rintro rfl; exact ⟨[], by simp, rfl, trivial⟩
    · rintro ⟨q, rfl, hq, _⟩; rw [List.length_eq_zero_iff.1 hq]; simp
  | k + 1, p, r => by
    simp only [ext, List.mem_flatMap, nums_mem]
    constructor
    · rintro ⟨x, hx, hr⟩
      split at hr
      · rename_i ho
        obtain ⟨q, rfl, hq, hk⟩ := (mem_ext k (p ++ [x]) r).1 hr
        exact ⟨x :: q, by simp, by simp [hq], ⟨by omega, by omega⟩, ho, hk⟩
      · cases hr
    · rintro ⟨q, rfl, hq, hk⟩
      cases q with
      | nil => simp at hq
      | cons x q =>
        obtain ⟨h1, h2, h3⟩ := hk
        refine ⟨x, by omega, ?_⟩
        rw [if_pos h2]
        exact (mem_ext k (p ++ [x]) _).2 ⟨q, by simp, by simpa using hq, h3⟩
theorem rowOk_chk {most : Nat} {step : Int} (hm : most ≤ 3) (hst : 0 ≤ step ∧ step ≤ 4) : ∀ (q p : List Int), (∀ x ∈ p, 0 ≤ x ∧ x ≤ most) → (rowOk most step p q ↔ ∀ i, p.length ≤ i → i < (p ++ q).length → chk (p ++ q) most step i = true)
  | [], p, hp => by
    simp only [rowOk, List.append_nil, true_iff]
    intro i h1 h2; omega
  | x :: q, p, hp => by
    have e : p ++ x :: q = (p ++ [x]) ++ q := by simp
    have hlen : (p ++ x :: q).length = p.length + 1 + q.length := by simp; omega
    have hat : (p ++ x :: q).getD p.length 0 = x := by simp
    have hchk : chk (p ++ x :: q) most step p.length = true ↔ (0 ≤ x ∧ x ≤ most) ∧ okNext step p x = true := by
      unfold chk
      rw [hat]
      simp only [Bool.and_eq_true, wi_t]
      refine and_congr_right fun hx => ?_
      rcases List.eq_nil_or_concat p with rfl | ⟨p', y, h⟩
      · simp [okNext]
      · rw [List.concat_eq_append] at h
        subst h
        have hy := hp y (by simp)
        have e1 : (p' ++ [y]).length = p'.length + 1 := by simp
        have e2 : ((p' ++ [y]) ++ x :: q).getD ((p' ++ [y]).length - 1) 0 = y := by rw [e1]; simp
        rw [e2]
        simp only [okNext, List.getLast?_concat, e1]
        rw [w64_id (by omega) (by omega), w64_id (by omega) (by omega)]
        simp
    constructor
    · rintro ⟨h1, h2, h3⟩ i hi1 hi2
      by_cases h : i = p.length
      · subst h; exact hchk.2 ⟨h1, h2⟩
      · have := (rowOk_chk hm hst q (p ++ [x]) (fun y hy => by
          rcases List.mem_append.1 hy with hy | hy
          · exact hp y hy
          · simp at hy; subst hy; exact h1)).1 h3 i (by simp; omega) (by rw [← e]; exact hi2)
        rw [e]; exact this
    · intro h
      obtain ⟨h1, h2⟩ := hchk.1 (h p.length (Nat.le_refl _) (by omega))
      refine ⟨h1, h2, (rowOk_chk hm hst q (p ++ [x]) (fun y hy => by
          rcases List.mem_append.1 hy with hy | hy
          · exact hp y hy
          · simp at hy; subst hy; exact h1)).2 fun i hi1 hi2 => ?_⟩
      rw [← e] at hi2 ⊢
      exact h i (by simp at hi1; omega) hi2
theorem mem_rows {most k : Nat} {step : Int} (hm : most ≤ 3) (hst : 0 ≤ step ∧ step ≤ 4) (r : List Int) : r ∈ ext most step k [] ↔ isRowB r k most step = true := by
  rw [mem_ext]
  simp only [isRowB, Bool.and_eq_true, beq_iff_eq, List.all_eq_true, List.mem_range]
  constructor
  · rintro ⟨q, h, hq, hk⟩
    rw [List.nil_append] at h
    rw [h]
    have := (rowOk_chk hm hst q [] (by simp)).1 hk
    exact ⟨fun i hi => by simpa using this i (by simp) hi, by simp [hq]⟩
  · rintro ⟨h1, h2⟩
    exact ⟨r, rfl, by omega, (rowOk_chk hm hst r [] (by simp)).2 fun i _ hi => h1 i hi⟩
theorem ext_ne {most : Nat} {step : Int} (hst : 0 ≤ step) : ∀ (k : Nat) (p : List Int), (∀ x ∈ p, 0 ≤ x ∧ x ≤ most) → ∃ r, r ∈ ext most step k p
  | 0, p, _ => ⟨p, by simp [ext]⟩
  | k + 1, p, hp => by
    have : ∃ x, (0 ≤ x ∧ x ≤ (most : Int)) ∧ okNext step p x = true := by
      rcases List.eq_nil_or_concat p with rfl | ⟨p', y, h⟩
      · exact ⟨0, by omega, rfl⟩
      · rw [List.concat_eq_append] at h
        subst h
        refine ⟨y, hp y (by simp), ?_⟩
        simp [okNext, wi]; omega
    obtain ⟨x, hx, ho⟩ := this
    obtain ⟨r, hr⟩ := ext_ne hst k (p ++ [x]) (fun y hy => by
      rcases List.mem_append.1 hy with hy | hy
      · exact hp y hy
      · simp at hy; subst hy; exact hx)
    refine ⟨r, ?_⟩
    simp only [ext, List.mem_flatMap, nums_mem]
    refine ⟨x, by omega, ?_⟩
    rw [if_pos ho]; exact hr
theorem mem_routes {t : Tour} (ho : okTour t = true) (r : List Int) : r ∈ routesT t ↔ isRouteT t r = true := by
  have hh := okHead_all (Ok.head ho)
  have e : ((t.Fairs.length - 1 : Nat) : Int) = w64 ((t.Fairs.length : Int) - 1) := by rw [w64_id] <;> omega
  have hd : t.Days = (t.Days.toNat : Int) := by omega
  unfold routesT isRouteT
  rw [mem_rows (by omega) (by omega), e, ← hd]
theorem routes_ne {t : Tour} (ho : okTour t = true) : ∃ r, r ∈ routesT t := by
  have hh := okHead_all (Ok.head ho)
  exact ext_ne (by omega) _ _ (by simp)
theorem mem_levels {t : Tour} (ho : okTour t = true) (r : List Int) : r ∈ rowsT t ↔ isRowB r t.Days 3 t.Step = true := by
  have hh := okHead_all (Ok.head ho)
  have hd : t.Days = (t.Days.toNat : Int) := by omega
  unfold rowsT
  rw [mem_rows (by omega) (by omega), ← hd]
  rfl
theorem mem_truths {t : Tour} (r : List Int) : r ∈ truthsT t ↔ r ∈ rowsT t ∧ wrongs t r ≤ t.Wrong := by
  simp [truthsT, List.mem_filter]

/-! ### sales -/
theorem trade_inv {t : Tour} (h : okTour t = true) {route levels : List Int} (hr : isRt t route) (hl : isLv t levels) : trInv (trade t route levels) :=
  (p_sells (n := 1000000) (Nat.le_refl _) h hr hl []).2
theorem span_mem {a : Int} {l : List Int} (h : a ∈ l) : (spanOf l).Low ≤ a ∧ a ≤ (spanOf l).High := by
  cases l with
  | nil => cases h
  | cons b l => exact ⟨(foldl_min (a := 0) (m := 0) l b).1 a h, (foldl_max (a := 0) (m := 0) l b).1 a h⟩
theorem span_in {l : List Int} (h : l ≠ []) : (spanOf l).Low ∈ l ∧ (spanOf l).High ∈ l := by
  cases l with
  | nil => exact absurd rfl h
  | cons b l => exact ⟨(foldl_min (a := 0) (m := 0) l b).2, (foldl_max (a := 0) (m := 0) l b).2⟩
theorem span_eq {l : List Int} {lo hi : Int} (h1 : lo ∈ l) (h2 : hi ∈ l) (h3 : ∀ x ∈ l, lo ≤ x ∧ x ≤ hi) : (spanOf l).Low = lo ∧ (spanOf l).High = hi := by
  have hne : l ≠ [] := fun e => by rw [e] at h1; cases h1
  have k1 := span_in hne
  have k2 := span_mem h1
  have k3 := span_mem h2
  have k4 := h3 _ k1.1
  have k5 := h3 _ k1.2
  omega
theorem vals_ge {t : Tour} (ho : okTour t = true) (hne : truthsT t ≠ []) {r : List Int} (hr : r ∈ routesT t) : 0 ≤ valT t (fun s => s.Low) r ∧ valT t (fun s => s.Low) r ≤ valT t (fun s => s.High) r := by
  have hne' : ((truthsT t).map fun l => (trade t r l).1) ≠ [] := by simpa using hne
  obtain ⟨h1, h2⟩ := span_in hne'
  have h3 := span_mem h2
  refine ⟨?_, h3.1⟩
  simp only [valT]
  simp only [List.mem_map] at h1
  obtain ⟨l, hl, e⟩ := h1
  have := trade_inv ho (routes_rt ho hr) (truths_lv ho l hl)
  rw [← e]; exact this.1

/-! ### the best -/
theorem arg_spec (val : List Int → Int) : ∀ (l : List (List Int)) (s : List Int × Int), (l.foldl (argStep val) s).2 = (l.map val).foldl max s.2 ∧ (l.foldl (argStep val) s = s ∨ ∃ r ∈ l, l.foldl (argStep val) s = (r, val r))
  | [], s => ⟨rfl, .inl rfl⟩
  | a :: l, s => by
    obtain ⟨h1, h2⟩ := arg_spec val l (argStep val s a)
    simp only [List.foldl_cons, List.map_cons]
    have e : (argStep val s a).2 = max s.2 (val a) := by
      unfold argStep
      by_cases h : s.2 < val a
      · simp [h]; omega
      · simp [h]; omega
    refine ⟨by rw [h1, e], ?_⟩
    rcases h2 with h2 | ⟨r, hr, h2⟩
    · rw [h2]
      unfold argStep
      by_cases h : s.2 < val a
      · right; exact ⟨a, List.mem_cons_self .., by simp [h]⟩
      · left; simp [h]
    · exact .inr ⟨r, List.mem_cons_of_mem _ hr, h2⟩
theorem max_from {l : List Int} (hne : l ≠ []) (h : ∀ x ∈ l, 0 ≤ x) : l.foldl max (-1) = l.foldl max 0 := by
  cases l with
  | nil => exact absurd rfl hne
  | cons a l =>
    have := h a (List.mem_cons_self ..)
    simp only [List.foldl_cons]
    rw [show max (-1) a = a by omega, show max 0 a = a by omega]
theorem best_top {t : Tour} {sel : Span → Int} (hv : (knownT t true).2 = 0 → ∀ r ∈ routesT t, 0 ≤ valT t sel r) : (bestT t sel).1 = (topT t sel).1 ∧ (bestT t sel).2.2 = (topT t sel).2 := by
  unfold bestT topT
  by_cases h : (knownT t true).2 = 0
  · obtain ⟨h1, h2, h3, h4⟩ := knownT_ok h
    rw [if_pos h, if_pos h]
    refine ⟨?_, rfl⟩
    simp only
    rw [(arg_spec _ _ _).1]
    obtain ⟨r, hr⟩ := routes_ne h1
    exact max_from (fun e => by
      have : valT t sel r ∈ (routesT t).map (valT t sel) := List.mem_map.2 ⟨r, hr, rfl⟩
      rw [e] at this; cases this) (fun x hx => by
      obtain ⟨r, hr, rfl⟩ := List.mem_map.1 hx
      exact hv h r hr)
  · rw [if_neg h, if_neg h]; exact ⟨rfl, rfl⟩
theorem lows_ge {t : Tour} (h : (knownT t true).2 = 0) : ∀ r ∈ routesT t, 0 ≤ valT t (fun s => s.Low) r := fun r hr => by
  obtain ⟨h1, h2, h3, h4⟩ := knownT_ok h
  exact (vals_ge h1 h3 hr).1
theorem highs_ge {t : Tour} (h : (knownT t true).2 = 0) : ∀ r ∈ routesT t, 0 ≤ valT t (fun s => s.High) r := fun r hr => by
  obtain ⟨h1, h2, h3, h4⟩ := knownT_ok h
  have := vals_ge h1 h3 hr
  omega
/-- the best route is one, and has the best value -/
theorem best_route {t : Tour} {sel : Span → Int} (h : (knownT t true).2 = 0) (hv : ∀ r ∈ routesT t, 0 ≤ valT t sel r) : (bestT t sel).2.2 = 0 ∧ (bestT t sel).2.1 ∈ routesT t ∧ (bestT t sel).1 = valT t sel (bestT t sel).2.1 ∧ ∀ r ∈ routesT t, valT t sel r ≤ (bestT t sel).1 := by
  obtain ⟨h1, h2, h3, h4⟩ := knownT_ok h
  obtain ⟨r0, hr0⟩ := routes_ne h1
  unfold bestT
  rw [if_pos h]
  simp only
  obtain ⟨k1, k2⟩ := arg_spec (valT t sel) (routesT t) ([], -1)
  have k3 : ∀ r ∈ routesT t, valT t sel r ≤ ((routesT t).foldl (argStep (valT t sel)) ([], -1)).2 := fun r hr => by
    rw [k1]
    exact (foldl_max (a := 0) (m := 0) _ _).1 _ (List.mem_cons_of_mem _ (List.mem_map.2 ⟨r, hr, rfl⟩))
  refine ⟨by simp, ?_, ?_, k3⟩
  · rcases k2 with k2 | ⟨r, hr, k2⟩
    · have := k3 r0 hr0
      have := hv r0 hr0
      rw [k2] at *
      simp only at *
      omega
    · rw [k2]; exact hr
  · rcases k2 with k2 | ⟨r, hr, k2⟩
    · have := k3 r0 hr0
      have := hv r0 hr0
      rw [k2] at *
      simp only at *
      omega
    · rw [k2]
end Go.Proofs.Ytooankffknoomaa
