/-
  Plain facts on frames: orders of fractions, what is known, the first position. No program in sight.
-/
import Derived.Test.YteihdclpiekmaaaLfPfd
namespace Go.Proofs.Yteihdclpiekmaaa
open Go Go.RowKit Go.Dec
set_option linter.unusedVariables false

/-- x ≥ y, y ≥ z: x ≥ z -/
theorem ltF_trans {x y z : Frac} (hx : 1 ≤ x.Den) (hy : 1 ≤ y.Den) (hz : 1 ≤ z.Den) (h1 : ltF x y = false) (h2 : ltF y z = false) : ltF x z = false := by
  simp only [ltF, decide_eq_false_iff_not, Int.not_lt] at *
  have a := Int.mul_le_mul_of_nonneg_right h1 (show 0 ≤ z.Den by omega)
  have b := Int.mul_le_mul_of_nonneg_right h2 (show 0 ≤ x.Den by omega)
  have e1 : y.Num * x.Den * z.Den = y.Num * z.Den * x.Den := by rw [Int.mul_assoc, Int.mul_comm x.Den, ← Int.mul_assoc]
  have e2 : z.Num * y.Den * x.Den = z.Num * x.Den * y.Den := by rw [Int.mul_assoc, Int.mul_comm y.Den, ← Int.mul_assoc]
  have e3 : x.Num * y.Den * z.Den = x.Num * z.Den * y.Den := by rw [Int.mul_assoc, Int.mul_comm y.Den, ← Int.mul_assoc]
  rw [e1, e3] at a
  rw [e2] at b
  exact Int.le_of_mul_le_mul_right (Int.le_trans b a) (by omega)
theorem ltF_irrefl (x : Frac) : ltF x x = false := by simp [ltF]
theorem ltF_asymm {x y : Frac} (h : ltF x y = true) : ltF y x = false := by
  simp only [ltF, decide_eq_true_eq, decide_eq_false_iff_not] at *; omega
/-- the least and the greatest cosine -/
theorem low_spec {d : Int} (hd : 1 ≤ d ∧ d ≤ 6000) : ∀ (l : List frames_sides), (∀ x ∈ l, XOk x) → l ≠ [] →
    ((∃ x ∈ l, lowF d l = cosF d x) ∧ ∀ x ∈ l, ltF (cosF d x) (lowF d l) = false) ∧ ((∃ x ∈ l, highF d l = cosF d x) ∧ ∀ x ∈ l, ltF (highF d l) (cosF d x) = false)
  | [], _, h => absurd rfl h
  | a :: l, hx, _ => by
    have key : ∀ (l : List frames_sides) (m m' : frames_sides), (∀ x ∈ l, XOk x) → XOk m → XOk m' →
        ((∃ x ∈ m :: l, l.foldl (fun m x => if ltF (cosF d x) m = true then cosF d x else m) (cosF d m) = cosF d x) ∧ ∀ x ∈ m :: l, ltF (cosF d x) (l.foldl (fun m x => if ltF (cosF d x) m = true then cosF d x else m) (cosF d m)) = false) ∧
        ((∃ x ∈ m' :: l, l.foldl (fun m x => if ltF m (cosF d x) = true then cosF d x else m) (cosF d m') = cosF d x) ∧ ∀ x ∈ m' :: l, ltF (l.foldl (fun m x => if ltF m (cosF d x) = true then cosF d x else m) (cosF d m')) (cosF d x) = false) := by
      intro l
      induction l with
      | nil =>
        intro m m' _ _ _
        refine ⟨⟨⟨m, by simp, rfl⟩, fun x h => ?_⟩, ⟨⟨m', by simp, rfl⟩, fun x h => ?_⟩⟩
        · simp at h; subst h; exact ltF_irrefl _
        · simp at h; subst h; exact ltF_irrefl _
      | cons b l ih =>
        intro m m' hx hm hm'
        have hb := hx b (List.mem_cons_self ..)
        simp only [List.foldl_cons]
        have e1 : (if ltF (cosF d b) (cosF d m) = true then cosF d b else cosF d m) = cosF d (if ltF (cosF d b) (cosF d m) = true then b else m) := by split <;> rfl
        have e2 : (if ltF (cosF d m') (cosF d b) = true then cosF d b else cosF d m') = cosF d (if ltF (cosF d m') (cosF d b) = true then b else m') := by split <;> rfl
        rw [e1, e2]
        obtain ⟨⟨⟨x1, hx1, q1⟩, q2⟩, ⟨x2, hx2, q3⟩, q4⟩ := ih (if ltF (cosF d b) (cosF d m) = true then b else m) (if ltF (cosF d m') (cosF d b) = true then b else m') (fun x h => hx x (List.mem_cons_of_mem _ h)) (by split <;> assumption) (by split <;> assumption)
        have hall : ∀ x ∈ b :: l, XOk x := hx
        refine ⟨⟨⟨x1, ?_, q1⟩, fun x h => ?_⟩, ⟨⟨x2, ?_, q3⟩, fun x h => ?_⟩⟩
        · rcases List.mem_cons.1 hx1 with h | h
          · rw [h]; split <;> simp
          · simp [h]
        · have h0 := q2 _ (List.mem_cons_self ..)
          have hx1' : XOk x1 := by
            rcases List.mem_cons.1 hx1 with h | h
            · rw [h]; split <;> assumption
            · exact hx x1 (List.mem_cons_of_mem _ h)
          by_cases hl : x ∈ l
          · exact q2 x (List.mem_cons_of_mem _ hl)
          · have hxo : XOk x := by
              rcases List.mem_cons.1 h with rfl | h
              · exact hm
              · exact hx x h
            have hmid : XOk (if ltF (cosF d b) (cosF d m) = true then b else m) := by split <;> assumption
            have hstep : ltF (cosF d x) (cosF d (if ltF (cosF d b) (cosF d m) = true then b else m)) = false := by
              rcases List.mem_cons.1 h with rfl | h
              · split
                · rename_i hc; exact ltF_asymm hc
                · exact ltF_irrefl _
              · rcases List.mem_cons.1 h with rfl | h
                · split
                  · exact ltF_irrefl _
                  · rename_i hc; simpa using hc
                · exact absurd h hl
            rw [q1] at h0 ⊢
            exact ltF_trans (cos_ok hd hxo).1.1.1 (cos_ok hd hmid).1.1.1 (cos_ok hd hx1').1.1.1 hstep h0
        · rcases List.mem_cons.1 hx2 with h | h
          · rw [h]; split <;> simp
          · simp [h]
        · have h0 := q4 _ (List.mem_cons_self ..)
          have hx2' : XOk x2 := by
            rcases List.mem_cons.1 hx2 with h | h
            · rw [h]; split <;> assumption
            · exact hx x2 (List.mem_cons_of_mem _ h)
          by_cases hl : x ∈ l
          · exact q4 x (List.mem_cons_of_mem _ hl)
          · have hxo : XOk x := by
              rcases List.mem_cons.1 h with rfl | h
              · exact hm'
              · exact hx x h
            have hmid : XOk (if ltF (cosF d m') (cosF d b) = true then b else m') := by split <;> assumption
            have hstep : ltF (cosF d (if ltF (cosF d m') (cosF d b) = true then b else m')) (cosF d x) = false := by
              rcases List.mem_cons.1 h with rfl | h
              · split
                · rename_i hc; exact ltF_asymm hc
                · exact ltF_irrefl _
              · rcases List.mem_cons.1 h with rfl | h
                · split
                  · exact ltF_irrefl _
                  · rename_i hc; simpa using hc
                · exact absurd h hl
            rw [q3] at h0 ⊢
            exact ltF_trans (cos_ok hd hx2').1.1.1 (cos_ok hd hmid).1.1.1 (cos_ok hd hxo).1.1.1 h0 hstep
    exact key l a a (fun x h => hx x (List.mem_cons_of_mem _ h)) (hx a (List.mem_cons_self ..)) (hx a (List.mem_cons_self ..))

/-! ### known -/
theorem K_one {s : Section} {p : frames_sides → Bool} : K s p = 1 ↔ ∀ x ∈ sidesL s, p x = true := by
  unfold K; rw [knownI_one, List.countP_eq_length]
theorem K_two {s : Section} (hs : SecOk s) {p : frames_sides → Bool} : K s p = 2 ↔ ∀ x ∈ sidesL s, p x = false := by
  unfold K; rw [knownI_two (sides_pos hs), List.countP_eq_zero]
  simp
theorem K_mem (s : Section) (p : frames_sides → Bool) : K s p = 1 ∨ K s p = 2 ∨ K s p = 3 := knownI_mem
theorem any_range {q : Nat → Bool} {i k : Nat} (hi : i < k) (h : q i = true) : (List.range k).any q = true := List.any_eq_true.2 ⟨i, List.mem_range.2 hi, h⟩
theorem opens_two {f : Frame} : opensI f = 2 ↔ ∃ i, i < f.Sections.length ∧ stuckI f i = 1 := by
  unfold opensI
  cases h : (List.range f.Sections.length).any (fun i => stuckI f i == 1) with
  | true =>
    simp only [cond_true, true_iff]
    obtain ⟨i, h1, h2⟩ := List.any_eq_true.1 h
    exact ⟨i, by simpa using h1, by simpa using h2⟩
  | false =>
    have : ¬ ∃ i, i < f.Sections.length ∧ stuckI f i = 1 := fun ⟨i, h1, h2⟩ => by
      have := any_range (q := fun i => stuckI f i == 1) h1 (by simpa using h2)
      rw [h] at this; cases this
    simp only [cond_false, this, iff_false]
    cases (List.range f.Sections.length).any (fun i => stuckI f i == 3) <;> simp
theorem opens_one {f : Frame} : opensI f = 1 ↔ ∀ i, i < f.Sections.length → stuckI f i = 2 := by
  unfold opensI
  constructor
  · intro h i hi
    have m1 : stuckI f i ≠ 1 := fun e => by
      have := any_range (q := fun i => stuckI f i == 1) hi (by simpa using e)
      rw [this] at h; cases h
    have m3 : stuckI f i ≠ 3 := fun e => by
      have := any_range (q := fun i => stuckI f i == 3) hi (by simpa using e)
      rw [this] at h
      cases h1 : (List.range f.Sections.length).any (fun i => stuckI f i == 1) <;> rw [h1] at h <;> cases h
    rcases K_mem (secAt f i) (stuckP f i) with h1 | h1 | h1
    · exact absurd h1 m1
    · exact h1
    · exact absurd h1 m3
  · intro h
    have e1 : (List.range f.Sections.length).any (fun i => stuckI f i == 1) = false := by
      rw [List.any_eq_false]; intro i hi; rw [h i (by simpa using hi)]; decide
    have e3 : (List.range f.Sections.length).any (fun i => stuckI f i == 3) = false := by
      rw [List.any_eq_false]; intro i hi; rw [h i (by simpa using hi)]; decide
    rw [e1, e3]; rfl
theorem opens_mem (f : Frame) : opensI f = 1 ∨ opensI f = 2 ∨ opensI f = 3 := by
  unfold opensI
  cases (List.range f.Sections.length).any (fun i => stuckI f i == 1) <;> cases (List.range f.Sections.length).any (fun i => stuckI f i == 3) <;> simp

/-! ### the first position -/
theorem down_find {β : Type} {e : Int → Option β} {lo : Int} : ∀ (k : Nat) (hi : Int), (hi + 1 - lo).toNat = k → (∀ z, (down hi lo).findSome? e = some z → ∃ r, (lo ≤ r ∧ r ≤ hi) ∧ e r = some z ∧ ∀ r', r < r' → r' ≤ hi → e r' = none) ∧ ((down hi lo).findSome? e = none → ∀ r, lo ≤ r → r ≤ hi → e r = none) := by
  intro k
  induction k with
  | zero =>
    intro hi hk
    rw [down_nil (by omega)]
    exact ⟨fun z h => (by cases h), fun _ r h1 h2 => by omega⟩
  | succ k ih =>
    intro hi hk
    rw [down_cons (by omega), List.findSome?_cons]
    obtain ⟨h1, h2⟩ := ih (hi - 1) (by omega)
    cases he : e hi with
    | some y => exact ⟨fun z h => ⟨hi, by omega, by rw [he]; exact h, fun r' k1 k2 => by omega⟩, fun h => by cases h⟩
    | none =>
      refine ⟨fun z h => ?_, fun h r k1 k2 => ?_⟩
      · obtain ⟨r, j1, j2, j3⟩ := h1 z h
        refine ⟨r, by omega, j2, fun r' k1 k2 => ?_⟩
        by_cases hr : r' = hi
        · rw [hr]; exact he
        · exact j3 r' k1 (by omega)
      · by_cases hr : r = hi
        · rw [hr]; exact he
        · exact h2 h r k1 (by omega)
theorem range_find {β : Type} {e : Nat → Option β} : ∀ (k i : Nat), (∀ z, (List.range' i k).findSome? e = some z → ∃ j, (i ≤ j ∧ j < i + k) ∧ e j = some z ∧ ∀ j', i ≤ j' → j' < j → e j' = none) ∧ ((List.range' i k).findSome? e = none → ∀ j, i ≤ j → j < i + k → e j = none) := by
  intro k
  induction k with
  | zero => intro i; exact ⟨fun z h => (by cases h), fun _ j h1 h2 => by omega⟩
  | succ k ih =>
    intro i
    rw [List.range'_succ, List.findSome?_cons]
    obtain ⟨h1, h2⟩ := ih (i + 1)
    cases he : e i with
    | some y => exact ⟨fun z h => ⟨i, by omega, by rw [he]; exact h, fun r' k1 k2 => by omega⟩, fun h => by cases h⟩
    | none =>
      refine ⟨fun z h => ?_, fun h r k1 k2 => ?_⟩
      · obtain ⟨r, j1, j2, j3⟩ := h1 z h
        refine ⟨r, by omega, j2, fun r' k1 k2 => ?_⟩
        by_cases hr : r' = i
        · rw [hr]; exact he
        · exact j3 r' (by omega) k2
      · by_cases hr : r = i
        · rw [hr]; exact he
        · exact h2 h r (by omega) (by omega)
theorem first_some {f : Frame} {r i : Int} (h : firstO f = some (r, i)) : (f.Low ≤ r ∧ r ≤ f.High) ∧ (∃ j : Nat, i = j ∧ j < f.Sections.length ∧ bindsI f j r ≠ 2 ∧ ∀ j', j' < j → bindsI f j' r = 2) ∧ ∀ r', r < r' → r' ≤ f.High → ∀ j, j < f.Sections.length → bindsI f j r' = 2 := by
  obtain ⟨r0, h1, h2, h3⟩ := (down_find _ f.High rfl).1 _ h
  rw [List.range_eq_range'] at h2
  obtain ⟨j, k1, k2, k3⟩ := (range_find f.Sections.length 0).1 _ h2
  have k4 : ¬ bindsI f j r0 = 2 := fun e => by rw [if_pos e] at k2; cases k2
  rw [if_neg k4] at k2
  obtain ⟨rfl, rfl⟩ := Prod.mk.inj (Option.some.inj k2)
  refine ⟨h1, ⟨j, rfl, by omega, k4, fun j' hj' => ?_⟩, fun r' q1 q2 j' hj' => ?_⟩
  · have := k3 j' (by omega) hj'
    by_cases e : bindsI f j' r0 = 2
    · exact e
    · rw [if_neg e] at this; cases this
  · have := h3 r' q1 q2
    rw [List.range_eq_range'] at this
    have := (range_find f.Sections.length 0).2 this j' (by omega) (by omega)
    by_cases e : bindsI f j' r' = 2
    · exact e
    · rw [if_neg e] at this; cases this
theorem first_none {f : Frame} (h : firstO f = none) : ∀ r, f.Low ≤ r → r ≤ f.High → ∀ j, j < f.Sections.length → bindsI f j r = 2 := fun r q1 q2 j hj => by
  have := (down_find _ f.High rfl).2 h r q1 q2
  rw [List.range_eq_range'] at this
  have := (range_find f.Sections.length 0).2 this j (by omega) (by omega)
  by_cases e : bindsI f j r = 2
  · exact e
  · rw [if_neg e] at this; cases this
theorem firstT_err {f : Frame} (ho : okF f = true) : ((firstT f).2.2 = 0 ∧ ∃ r i, firstO f = some (r, i) ∧ firstT f = (i, r, 0)) ∨ ((firstT f).2.2 = 3 ∧ firstO f = none) := by
  unfold firstT
  rw [if_pos ho]
  cases h : firstO f with
  | none => right; exact ⟨rfl, rfl⟩
  | some z => obtain ⟨r, i⟩ := z; left; exact ⟨rfl, r, i, rfl, rfl⟩
/-- nothing is stuck where nothing binds -/
theorem stuck_two {f : Frame} (hf : FOk f) {i : Nat} (hi : i < f.Sections.length) : stuckI f i = 2 ↔ ∀ r, f.Low ≤ r → r ≤ f.High → bindsI f i r = 2 := by
  have hs := hf.s _ (secAt_mem hi)
  unfold stuckI bindsI
  rw [K_two hs]
  constructor
  · intro h r h1 h2
    rw [K_two hs]
    intro x hx
    have := h x hx
    unfold stuckP at this
    rw [List.any_eq_false] at this
    simpa using this r (down_mem.2 ⟨h1, h2⟩)
  · intro h x hx
    unfold stuckP
    rw [List.any_eq_false]
    intro r hr
    have hr' := down_mem.1 hr
    have := (K_two hs).1 (h r hr'.1 hr'.2) x hx
    simp [this]
theorem ask_zero {f : Frame} (ho : okF f = true) {sec r : Int} (h : (wi sec 0 ((f.Sections.length : Int) - 1) && wi r f.Low f.High) = true) : askT f sec r = 0 := by
  unfold askT; rw [if_pos ho, if_pos h]
theorem ask_low {f : Frame} (ho : okF f = true) {sec r : Int} (h : (wi sec 0 ((f.Sections.length : Int) - 1) && wi r f.Low f.High) = true) : askT f sec f.Low = 0 := by
  have := (okF_iff.1 ho).r
  simp only [Bool.and_eq_true] at h
  have e : wi f.Low f.Low f.High = true := by rw [wi_t]; omega
  unfold askT; rw [if_pos ho, h.1, e]; rfl
end Go.Proofs.Yteihdclpiekmaaa
