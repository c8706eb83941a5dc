/-
  The plain layer of rains and its reference: checks, rows.
-/
import Derived.Test.YtooankffknoomaaGenK16
import Derived.Test.YtooankffknoomaaEngQ
namespace Go.Proofs.Ytooankffknoomaa
open Go Go.RowKit Go.Dec
set_option linter.unusedVariables false

theorem or_br (c b : Bool) : (if c = true then some true else some b) = some (c || b) := by cases c <;> rfl
theorem and_br (c b : Bool) : (if c = true then some b else some false) = some (c && b) := by cases c <;> rfl
theorem some_br {α : Type} (c : Bool) (a b : α) : (if c = true then some a else some b) = some (if c = true then a else b) := by cases c <;> rfl
def wi (n lo hi : Int) : Bool := decide (lo ≤ n) && decide (n ≤ hi)
theorem wi_t {n lo hi : Int} : wi n lo hi = true ↔ lo ≤ n ∧ n ≤ hi := by simp [wi]
theorem p_within (n : Nat) (a b c : Int) : F_rains_within n a b c = some (wi a b c) := rfl
theorem p_within7 (n : Nat) (a b c : Int) : F_ref07_Within n a b c = some (wi a b c) := rfl
theorem p_within11 (n : Nat) (a b c : Int) : F_ref11_within n a b c = some (wi a b c) := rfl

def okRain (t : Tour) (r : Rain) : Bool := wi r.Day 0 (t.Days - 1) && wi r.Level.Low 0 r.Level.High && decide (r.Level.High ≤ 3)
def okFair (f : Fair) : Bool := wi f.Price 0 999 && ((f.Sells.length : Int) == 4) && f.Sells.all (fun x => wi x 0 99)
def okHead (t : Tour) : Bool := wi t.Days 1 6 && wi t.Step 0 3 && wi t.Wrong 0 10 && wi t.Reach 0 4 && wi t.Stock 0 999 && !decide (10 < (t.Rains.length:Int)) && wi t.Fairs.length 1 4
def okTour (t : Tour) : Bool := okHead t && t.Rains.all (okRain t) && t.Fairs.all okFair
/-- not far too large -/
structure Sm (t : Tour) : Prop where
  r : t.Rains.length ≤ 40
  f : t.Fairs.length ≤ 20
  s : ∀ f ∈ t.Fairs, f.Sells.length ≤ 20

theorem okHead_days {t : Tour} (h : okHead t = true) : 1 ≤ t.Days ∧ t.Days ≤ 6 := by
  simp only [okHead, Bool.and_eq_true, wi_t] at h; exact h.1.1.1.1.1.1
theorem w64_days {t : Tour} (h : okHead t = true) : w64 (t.Days - 1) = t.Days - 1 := by
  have := okHead_days h; rw [w64_id] <;> omega

theorem lt_nat (i k : Nat) : decide ((i : Int) < (k : Int)) = decide (i < k) := by simp
theorem p_isRain (n : Nat) {t : Tour} (h : okHead t = true) (r : Rain) : F_rains_isRain n t r = some (okRain t r) := by
  simp only [F_rains_isRain, p_within, Option.bind_some, and_br, w64_days h, okRain]

section
variable {n : Nat} (hn : 1000000 ≤ n)
include hn
theorem p_IndexFunc (s : List Int) (f : Int → Option Bool) (p : Int → Bool) (hf : ∀ x, x ∈ s → f x = some (p x)) (hs : s.length ≤ 1000) : ∃ k, F_slices_IndexFunc___int_int_ n s f = some k ∧ decide (0 ≤ k) = s.any p := by
  by_cases h : s.any p = true
  · -- the first one
    have : ∃ i : Nat, ∃ x, s[i]? = some x ∧ p x = true ∧ ∀ (j : Nat) y, j < i → s[j]? = some y → p y = false := by
      clear hf hs
      induction s with
      | nil => simp at h
      | cons a s ih =>
        by_cases ha : p a = true
        · exact ⟨0, a, rfl, ha, by intros; omega⟩
        · have hs : s.any p = true := by simpa [ha] using h
          obtain ⟨i, x, h1, h2, h3⟩ := ih hs
          refine ⟨i + 1, x, by simpa using h1, h2, fun j y hj hy => ?_⟩
          cases j with
          | zero => simp at hy; subst hy; simpa using ha
          | succ j => exact h3 j y (by omega) (by simpa using hy)
    obtain ⟨i, x, h1, h2, h3⟩ := this
    have hil := (List.getElem?_eq_some_iff.1 h1).1
    refine ⟨i, ?_, by rw [h]; simp⟩
    have := loop_run (step := F_slices_IndexFunc___int_int__s1 n s f) (fun j => (j : Int)) (r := .inl (i : Int)) i 0 n (fun j _ hj => ?_) ?_ (by omega)
    · unfold F_slices_IndexFunc___int_int_
      simp only [Int.natCast_zero] at this
      rw [this]; rfl
    · have hj' : j < s.length := by omega
      have e : s[j]? = some s[j] := List.getElem?_eq_getElem hj'
      simp only [F_slices_IndexFunc___int_int__s1, geti_nat, e, Option.bind_some, hf _ (List.getElem_mem hj'), h3 j _ (by omega) e, lt_nat, hj', decide_true, if_true, Bool.false_eq_true, if_false, w64_nat (show j ≤ 4611686018427387904 by omega)]
    · simp only [Nat.zero_add, F_slices_IndexFunc___int_int__s1, geti_nat, h1, Option.bind_some, hf _ (List.mem_of_getElem? h1), h2, lt_nat, hil, decide_true, if_true]
  · have hno : ∀ x ∈ s, p x = false := fun x hx => by
      cases hp : p x with
      | false => rfl
      | true => exact absurd (List.any_eq_true.2 ⟨x, hx, hp⟩) h
    refine ⟨-1, ?_, by simp only [Bool.not_eq_true] at h; rw [h]; rfl⟩
    have := loop_all_l (step := F_slices_IndexFunc___int_int__s1 n s f) s (fun _ => true) (0 : Int) (n := n) (by omega) (fun i x hx hi => ?_) ?_ (by omega)
    · unfold F_slices_IndexFunc___int_int_; rw [this, show (s.all fun _ => true) = true by simp]; rfl
    · simp only [F_slices_IndexFunc___int_int__s1, geti_nat, hx, Option.bind_some, hf _ (List.mem_of_getElem? hx), hno _ (List.mem_of_getElem? hx), lt_nat, hi, decide_true, if_true, cond_true, Bool.false_eq_true, if_false, w64_nat (show i ≤ 4611686018427387904 by omega)]
    · simp [F_slices_IndexFunc___int_int__s1]
theorem p_ContainsFunc (s : List Int) (f : Int → Option Bool) (p : Int → Bool) (hf : ∀ x, x ∈ s → f x = some (p x)) (hs : s.length ≤ 1000) : F_slices_ContainsFunc___int_int_ n s f = some (s.any p) := by
  obtain ⟨k, h1, h2⟩ := p_IndexFunc hn s f p hf hs
  simp only [F_slices_ContainsFunc___int_int_, h1, Option.bind_some, h2]
theorem p_isFair (f : Fair) (hf : f.Sells.length ≤ 20) : F_rains_isFair n f = some (okFair f) := by
  simp only [F_rains_isFair, p_within, Option.bind_some, p_ContainsFunc hn f.Sells (fun a => F_rains_isFair_1 n a) (fun x => !wi x 0 99) (fun x _ => rfl) (by omega), and_br, okFair]
  have : (!f.Sells.any fun x => !wi x 0 99) = f.Sells.all fun x => wi x 0 99 := by
    simp [List.any_eq_not_all_not]
  rw [this]

theorem p_Check {t : Tour} (hs : Sm t) : F_rains_Check n t = some (if okTour t = true then 0 else 110) := by
  simp only [F_rains_Check, p_within, Option.bind_some, or_br]
  have e : (!wi t.Days 1 6 || !wi t.Step 0 3 || !wi t.Wrong 0 10 || !wi t.Reach 0 4 || !wi t.Stock 0 999 || decide (10 < (t.Rains.length:Int)) || !wi t.Fairs.length 1 4) = !okHead t := by
    simp only [okHead, Bool.not_and, Bool.not_not]
  rw [e]
  cases hh : okHead t with
  | false => simp [okTour, hh]
  | true =>
    have h1 := loop_all_l (step := F_rains_Check_s1 n t) t.Rains (okRain t) (110 : Int) (n := n) (by have := hs.r; omega) (fun i x hx hi => by
      simp only [F_rains_Check_s1, geti_nat, hx, Option.bind_some, p_isRain n hh, lt_nat, hi, decide_true, if_true, w64_nat (show i ≤ 4611686018427387904 by have := hs.r; omega)]
      cases okRain t x <;> rfl) (by simp [F_rains_Check_s1]) (by have := hs.r; omega)
    have h2 := loop_all_l (step := F_rains_Check_s2 n t) t.Fairs okFair (110 : Int) (n := n) (by have := hs.f; omega) (fun i x hx hi => by
      simp only [F_rains_Check_s2, geti_nat, hx, Option.bind_some, p_isFair hn x (hs.s x (List.mem_of_getElem? hx)), lt_nat, hi, decide_true, if_true, w64_nat (show i ≤ 4611686018427387904 by have := hs.f; omega)]
      cases okFair x <;> rfl) (by simp [F_rains_Check_s2]) (by have := hs.f; omega)
    simp only [Bool.not_true, Bool.false_eq_true, if_false, h1, h2, Option.bind_some, okTour, hh, Bool.true_and]
    cases t.Rains.all (okRain t) <;> cases t.Fairs.all okFair <;> rfl
theorem p_Check11 {t : Tour} (hs : Sm t) : F_ref11_Check n t = some (if okTour t = true then 0 else 110) := by
  simp only [F_ref11_Check, p_within11, Option.bind_some, or_br]
  have e : (!wi t.Days 1 6 || !wi t.Step 0 3 || !wi t.Wrong 0 10 || !wi t.Reach 0 4 || !wi t.Stock 0 999 || decide (10 < (t.Rains.length:Int)) || !wi t.Fairs.length 1 4) = !okHead t := by
    simp only [okHead, Bool.not_and, Bool.not_not]
  rw [e]
  cases hh : okHead t with
  | false => simp [okTour, hh]
  | true =>
    have h1 := loop_all_l (step := F_ref11_Check_s1 n t) t.Rains (okRain t) (110 : Int) (n := n) (by have := hs.r; omega) (fun i x hx hi => by
      simp only [F_ref11_Check_s1, geti_nat, hx, Option.bind_some, p_within11, or_br, w64_days hh, lt_nat, hi, decide_true, if_true, w64_nat (show i ≤ 4611686018427387904 by have := hs.r; omega)]
      have : (!wi x.Day 0 (t.Days - 1) || !wi x.Level.Low 0 x.Level.High || decide (3 < x.Level.High)) = !okRain t x := by
        simp only [okRain, Bool.not_and, ← decide_not, Int.not_le]
      rw [this]
      cases okRain t x <;> rfl) (by simp [F_ref11_Check_s1]) (by have := hs.r; omega)
    have h2 := loop_all_l (step := F_ref11_Check_s2 n t) t.Fairs okFair (110 : Int) (n := n) (by have := hs.f; omega) (fun i x hx hi => by
      have hsl := hs.s x (List.mem_of_getElem? hx)
      have h3 := loop_all_l (step := F_ref11_Check_s3 n x) x.Sells (fun y => wi y 0 99) (.inr (.inl 110) : Int ⊕ (Int ⊕ Unit)) (n := n) (by omega) (fun i y hy hi => by
        simp only [F_ref11_Check_s3, geti_nat, hy, Option.bind_some, p_within11, lt_nat, hi, decide_true, if_true, w64_nat (show i ≤ 4611686018427387904 by omega)]
        cases wi y 0 99 <;> rfl) (by simp [F_ref11_Check_s3]) (by omega)
      simp only [F_ref11_Check_s2, geti_nat, hx, Option.bind_some, p_within11, h3, lt_nat, hi, decide_true, if_true, w64_nat (show i ≤ 4611686018427387904 by have := hs.f; omega)]
      have hk : okFair x = (wi x.Price 0 999 && ((x.Sells.length : Int) == 4) && x.Sells.all fun y => wi y 0 99) := rfl
      simp only [bne]
      rcases bcases (wi x.Price 0 999) with a | a <;> rcases bcases ((x.Sells.length : Int) == 4) with b | b <;> rcases bcases (x.Sells.all fun y => wi y 0 99) with c | c <;> (rw [a, b, c] at hk; simp only [a, b, c, hk]; rfl)) (by simp [F_ref11_Check_s2]) (by have := hs.f; omega)
    simp only [Bool.not_true, Bool.false_eq_true, if_false, h1, h2, Option.bind_some, okTour, hh, Bool.true_and]
    cases t.Rains.all (okRain t) <;> cases t.Fairs.all okFair <;> rfl

def farHead (t : Tour) : Bool := decide (40 < (t.Rains.length : Int)) || decide (20 < (t.Fairs.length : Int))
/-- what a statement examines -/
def Ok (t : Tour) : Prop := okTour t = true ∧ t.Days ≤ 4 ∧ t.Fairs.length ≤ 3
theorem p_Far (t : Tour) (hf : t.Fairs.length ≤ 9223372036854775807) : F_law11_Far n t = some true ∨ (F_law11_Far n t = some false ∧ Sm t ∧ (okTour t = true → Ok t)) := by
  simp only [F_law11_Far]
  by_cases h : (decide (40 < (t.Rains.length : Int)) || decide (20 < (t.Fairs.length : Int))) = true
  · left; rw [if_pos h]
  · rw [if_neg h]
    simp only [Bool.or_eq_true, decide_eq_true_eq, not_or] at h
    have h1 := loop_all_l (step := F_law11_Far_s1 n t) t.Fairs (fun f => !decide (20 < (f.Sells.length : Int))) true (n := n) (by omega) (fun i x hx hi => by
      simp only [F_law11_Far_s1, geti_nat, hx, Option.bind_some, lt_nat, hi, decide_true, if_true, w64_nat (show i ≤ 4611686018427387904 by omega)]
      cases decide (20 < (x.Sells.length : Int)) <;> rfl) (by simp [F_law11_Far_s1]) (by omega)
    rw [h1]
    cases ha : t.Fairs.all (fun f => !decide (20 < (f.Sells.length : Int))) with
    | false => left; rfl
    | true =>
      have hs : Sm t := ⟨by omega, by omega, fun f hf => by have := List.all_eq_true.1 ha f hf; simp at this; omega⟩
      simp only [if_true, Option.bind_some, p_Check11 hn hs]
      by_cases ho : okTour t = true
      · rw [if_pos ho]
        by_cases hb : (decide (4 < t.Days) || decide (3 < (t.Fairs.length : Int))) = true
        · left; rw [hb]; rfl
        · right
          simp only [Bool.not_eq_true] at hb
          refine ⟨by rw [hb]; rfl, hs, fun _ => ⟨ho, ?_⟩⟩
          simp at hb; omega
      · right
        rw [if_neg ho]
        exact ⟨by simp, hs, fun h => absurd h ho⟩
end
end Go.Proofs.Ytooankffknoomaa
