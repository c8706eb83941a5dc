/-
  The plain layer of rains and its reference: truths, routes, sales, spans.
-/
import Derived.Test.YtooankffknoomaaPb
namespace Go.Proofs.Ytooankffknoomaa
open Go Go.RowKit Go.Dec
set_option linter.unusedVariables false

def at' (l : List Int) (i : Int) : Int := (geti l i).getD 0
def isRight (r : Rain) (row : List Int) : Bool := wi (at' row r.Day) r.Level.Low r.Level.High
def wrongs (t : Tour) (row : List Int) : Int := (t.Rains.countP (fun r => !isRight r row) : Nat)
def rowsT (t : Tour) : List (List Int) := ext 3 t.Step t.Days.toNat []
def truthsT (t : Tour) : List (List Int) := (rowsT t).filter fun r => decide (wrongs t r ≤ t.Wrong)
/-- a row of a level for each day -/
def isLv (t : Tour) (row : List Int) : Prop := row.length = t.Days.toNat ∧ ∀ x ∈ row, 0 ≤ x ∧ x ≤ 3

theorem geti_lt {α : Type} {l : List α} {i : Int} (h0 : 0 ≤ i) (h1 : i < l.length) : ∃ x, geti l i = some x ∧ x ∈ l := by
  have hi : i.toNat < l.length := by omega
  refine ⟨l[i.toNat], ?_, List.getElem_mem hi⟩
  unfold geti; rw [if_pos h0, List.getElem?_eq_getElem hi]
theorem geti_at {l : List Int} {i : Int} (h0 : 0 ≤ i) (h1 : i < l.length) : geti l i = some (at' l i) := by
  obtain ⟨x, hx, _⟩ := geti_lt h0 h1
  simp [at', hx]

theorem Ok.head {t : Tour} (h : okTour t = true) : okHead t = true := by
  simp only [okTour, Bool.and_eq_true] at h; exact h.1.1
theorem okHead_all {t : Tour} (h : okHead t = true) : (1 ≤ t.Days ∧ t.Days ≤ 6) ∧ (0 ≤ t.Step ∧ t.Step ≤ 3) ∧ (0 ≤ t.Wrong ∧ t.Wrong ≤ 10) ∧ (0 ≤ t.Reach ∧ t.Reach ≤ 4) ∧ (0 ≤ t.Stock ∧ t.Stock ≤ 999) ∧ t.Rains.length ≤ 10 ∧ 1 ≤ t.Fairs.length ∧ t.Fairs.length ≤ 4 := by
  simp only [okHead, Bool.and_eq_true, wi_t, Bool.not_eq_true', decide_eq_false_iff_not] at h
  obtain ⟨⟨⟨⟨⟨⟨h1, h2⟩, h3⟩, h4⟩, h5⟩, h6⟩, h7⟩ := h
  refine ⟨h1, h2, h3, h4, h5, by omega, by omega, by omega⟩
theorem okRain_of {t : Tour} (h : okTour t = true) {r : Rain} (hr : r ∈ t.Rains) : 0 ≤ r.Day ∧ r.Day ≤ t.Days - 1 := by
  simp only [okTour, Bool.and_eq_true] at h
  have := List.all_eq_true.1 h.1.2 r hr
  simp only [okRain, Bool.and_eq_true, wi_t] at this
  exact this.1.1
theorem okFair_of {t : Tour} (h : okTour t = true) {f : Fair} (hf : f ∈ t.Fairs) : (0 ≤ f.Price ∧ f.Price ≤ 999) ∧ f.Sells.length = 4 ∧ ∀ x ∈ f.Sells, 0 ≤ x ∧ x ≤ 99 := by
  simp only [okTour, Bool.and_eq_true] at h
  have := List.all_eq_true.1 h.2 f hf
  simp only [okFair, Bool.and_eq_true, wi_t, beq_iff_eq, List.all_eq_true] at this
  exact ⟨this.1.1, by omega, fun x hx => by simpa [wi_t] using this.2 x hx⟩
theorem rows_lv {t : Tour} (h : okHead t = true) {r : List Int} (hr : r ∈ rowsT t) : isLv t r := by
  obtain ⟨h1, h2⟩ := ext_mem _ _ _ hr (by simp)
  exact ⟨by simpa using h1, h2⟩

section
variable {n : Nat} (hn : 1000000 ≤ n)
include hn
theorem p_right {t : Tour} (h : okTour t = true) {r : Rain} (hr : r ∈ t.Rains) {row : List Int} (hl : isLv t row) : F_rains_right n r row = some (isRight r row) := by
  have _hn := hn
  have := okRain_of h hr
  have := (okHead_all (Ok.head h)).1
  have := hl.1
  simp only [F_rains_right]
  rw [geti_at (by omega) (by omega)]
  rfl
theorem p_IsRight {t : Tour} (h : okTour t = true) {r : Rain} (hr : r ∈ t.Rains) {row : List Int} (hl : isLv t row) : F_ref11_IsRight n r row = some (isRight r row) := by
  have _hn := hn
  have := okRain_of h hr
  have := (okHead_all (Ok.head h)).1
  have := hl.1
  simp only [F_ref11_IsRight]
  rw [geti_at (by omega) (by omega)]
  rfl
theorem p_wrong {t : Tour} (h : okTour t = true) {row : List Int} (hl : isLv t row) : F_rains_wrong n t row = some (wrongs t row) := by
  have hR := (okHead_all (Ok.head h)).2.2.2.2.2.1
  have := loop_fold (step := F_rains_wrong_s1 n t row) t.Rains (fun i c => (c, (i : Int))) (fun c r => if (!isRight r row) = true then c + 1 else c) (fun c => c) (fun i c => 0 ≤ c ∧ c ≤ i) (n := n) (0 : Int) (by omega) (fun i x b hx hb => by
    have hi := (List.getElem?_eq_some_iff.1 hx).1
    refine ⟨?_, by split <;> omega⟩
    simp only [F_rains_wrong_s1, geti_nat, hx, Option.bind_some, p_right hn h (List.mem_of_getElem? hx) hl, lt_nat, hi, decide_true, if_true, w64_nat (show i ≤ 4611686018427387904 by omega), w64_id (show -9223372036854775808 ≤ b + 1 by omega) (by omega)]
    cases isRight x row <;> rfl) (fun b _ => by simp [F_rains_wrong_s1]) (by omega)
  simp only [Int.natCast_zero] at this
  simp only [F_rains_wrong, this.1, Option.bind_some, foldl_count, wrongs]
  simp
theorem p_Wrongs {t : Tour} (h : okTour t = true) {row : List Int} (hl : isLv t row) : F_ref11_Wrongs n t row = some (wrongs t row) := by
  have hR := (okHead_all (Ok.head h)).2.2.2.2.2.1
  have := loop_fold (step := F_ref11_Wrongs_s1 n t row) t.Rains (fun i c => (c, (i : Int))) (fun c r => if (!isRight r row) = true then c + 1 else c) (fun c => c) (fun i c => 0 ≤ c ∧ c ≤ i) (n := n) (0 : Int) (by omega) (fun i x b hx hb => by
    have hi := (List.getElem?_eq_some_iff.1 hx).1
    refine ⟨?_, by split <;> omega⟩
    simp only [F_ref11_Wrongs_s1, geti_nat, hx, Option.bind_some, p_IsRight hn h (List.mem_of_getElem? hx) hl, lt_nat, hi, decide_true, if_true, w64_nat (show i ≤ 4611686018427387904 by omega), w64_id (show -9223372036854775808 ≤ b + 1 by omega) (by omega)]
    cases isRight x row <;> rfl) (fun b _ => by simp [F_ref11_Wrongs_s1]) (by omega)
  simp only [Int.natCast_zero] at this
  simp only [F_ref11_Wrongs, this.1, Option.bind_some, foldl_count, wrongs]
  simp

theorem rows_len {t : Tour} (h : okTour t = true) : (rowsT t).length ≤ 4096 := by
  have _hn := hn
  have h1 := (okHead_all (Ok.head h)).1
  refine Nat.le_trans (ext_len (by omega) _ _ _) ?_
  exact Nat.le_trans (Nat.pow_le_pow_right (by omega) (show t.Days.toNat ≤ 6 by omega)) (by decide)

/-- known: the truths, or why there are none -/
def knownT (t : Tour) (is : Bool) : List (List Int) × Int :=
  if okTour t = true then (if is = true then (if truthsT t = [] then ([], 3) else (truthsT t, 0)) else ([], 1)) else ([], 110)
theorem p_open {t : Tour} (hs : Sm t) (is : Bool) : F_rains_open n t is = some (if (knownT t is).2 = 0 then some (rains_weather.mk t (knownT t is).1) else none, (knownT t is).2) := by
  simp only [F_rains_open, p_Check hn hs, Option.bind_some, knownT]
  by_cases ho : okTour t = true
  · cases is with
    | false => simp [ho]
    | true =>
      have hh := okHead_all (Ok.head ho)
      have hd : t.Days = (t.Days.toNat : Int) := by omega
      have hrl := rows_len hn ho
      obtain ⟨h1, h2⟩ := foldO_foldl (ρ := Unit) (cs := F_rains_open_s1 n t) (fun o r => if decide (wrongs t r ≤ t.Wrong) = true then o ++ [r] else o) (fun i o => o.length ≤ i) (rowsT t) 0 ([] : List (List Int)) (by simp) (fun i s a hik ha hi => by
        have hl := rows_lv (Ok.head ho) ha
        refine ⟨?_, ?_⟩
        · simp only [F_rains_open_s1, p_wrong hn ho hl, Option.bind_some]
          cases decide (wrongs t a ≤ t.Wrong) with
          | false => rfl
          | true =>
            simp only [if_true, F_slices_Clone___int_int_]
            have := hl.1
            rw [lim_ok (by omega)]
            simp only [Option.bind_some]
            rw [lim_ok (by simp; omega)]
            rfl
        · split <;> (try rw [List.length_append, List.length_singleton]) <;> omega)
      rw [foldl_filter_append, List.nil_append] at h1
      have h3 := p_iter hn (most := 3) (step := t.Step) (by omega) (by omega) t.Days.toNat (by omega) (F_rains_open_s1 n t) ([] : List (List Int)) _ h1
      rw [← hd] at h3
      simp only [F_rains_levels, F_rains_rows, Option.bind_some, ho, if_true]
      rw [show ((3 : Nat) : Int) = 3 from rfl] at h3
      rw [h3]
      have e : (rowsT t).filter (fun r => decide (wrongs t r ≤ t.Wrong)) = truthsT t := rfl
      rw [e]
      by_cases h0 : truthsT t = []
      · simp [h0]
      · simp [h0]
  · simp [ho]
theorem p_known {t : Tour} (hs : Sm t) (is : Bool) : F_ref11_known n t is = some (knownT t is) := by
  simp only [F_ref11_known, p_Check11 hn hs, Option.bind_some, knownT]
  by_cases ho : okTour t = true
  · cases is with
    | false => simp [ho]
    | true =>
      have hh := okHead_all (Ok.head ho)
      have hd : t.Days = (t.Days.toNat : Int) := by omega
      have hrl := rows_len hn ho
      have h3 := p_rows11 (most := 3) (step := t.Step) (many := t.Days) (by omega) (by omega) t.Days.toNat n [] (by omega) (by simp; omega) (by simp; omega) (by simp)
      have h1 := loop_fold (step := F_ref11_known_s1 n t (rowsT t)) (rowsT t) (fun i o => ((i : Int), o)) (fun o r => if decide (wrongs t r ≤ t.Wrong) = true then o ++ [r] else o) (fun o => o) (fun i o => o.length ≤ i) (n := n) ([] : List (List Int)) (by simp) (fun i x b hx hb => by
        have hi := (List.getElem?_eq_some_iff.1 hx).1
        have hl := rows_lv (Ok.head ho) (List.mem_of_getElem? hx)
        refine ⟨?_, by split <;> (try rw [List.length_append, List.length_singleton]) <;> omega⟩
        simp only [F_ref11_known_s1, geti_nat, hx, Option.bind_some, p_Wrongs hn ho hl, lt_nat, hi, decide_true, if_true, w64_nat (show i ≤ 4611686018427387904 by omega)]
        rw [lim_ok (by simp; omega)]
        cases decide (wrongs t x ≤ t.Wrong) <;> rfl) (fun b _ => by simp [F_ref11_known_s1]) (by omega)
      simp only [Int.natCast_zero] at h1
      rw [show ((3 : Nat) : Int) = 3 from rfl] at h3
      simp only [ho, if_true, h3]
      rw [show ext 3 t.Step t.Days.toNat [] = rowsT t from rfl]
      simp only [Option.bind_some, h1.1, foldl_filter_append, List.nil_append]
      have e : (rowsT t).filter (fun r => decide (wrongs t r ≤ t.Wrong)) = truthsT t := rfl
      rw [e]
      by_cases h0 : truthsT t = []
      · simp [h0]
      · simp [h0]
  · simp [ho]
end
end Go.Proofs.Ytooankffknoomaa
