/-
  The plain layer of rains and its reference: levels, right, equality.
-/
import Derived.Test.YtooankffknoomaaPe
namespace Go.Proofs.Ytooankffknoomaa
open Go Go.RowKit Go.Dec
set_option linter.unusedVariables false

section
variable {n : Nat} (hn : 1000000 ≤ n)
include hn
theorem p_IndexFuncL (s : List (List Int)) (f : List Int → Option Bool) (p : List Int → Bool) (hf : ∀ x, x ∈ s → f x = some (p x)) (hs : s.length ≤ 10000) : ∃ k, F_slices_IndexFunc_____int___int_ n s f = some k ∧ decide (0 ≤ k) = s.any p := by
  by_cases h : s.any p = true
  · -- the first one
    have : ∃ i : Nat, ∃ x, s[i]? = some x ∧ p x = true ∧ ∀ (j : Nat) y, j < i → s[j]? = some y → p y = false := by
      clear hf hs
      induction s with
      | nil => simp at h
      | cons a s ih =>
        by_cases ha : p a = true
        · exact ⟨0, a, rfl, ha, by intros; omega⟩
        · have hs : s.any p = true := by simpa [ha] using h
          obtain ⟨i, x, h1, h2, h3⟩ := ih hs
          refine ⟨i + 1, x, by simpa using h1, h2, fun j y hj hy => ?_⟩
          cases j with
          | zero => simp at hy; subst hy; simpa using ha
          | succ j => exact h3 j y (by omega) (by simpa using hy)
    obtain ⟨i, x, h1, h2, h3⟩ := this
    have hil := (List.getElem?_eq_some_iff.1 h1).1
    refine ⟨i, ?_, by rw [h]; simp⟩
    have := loop_run (step := F_slices_IndexFunc_____int___int__s1 n s f) (fun j => (j : Int)) (r := .inl (i : Int)) i 0 n (fun j _ hj => ?_) ?_ (by omega)
    · unfold F_slices_IndexFunc_____int___int_
      simp only [Int.natCast_zero] at this
      rw [this]; rfl
    · have hj' : j < s.length := by omega
      have e : s[j]? = some s[j] := List.getElem?_eq_getElem hj'
      simp only [F_slices_IndexFunc_____int___int__s1, geti_nat, e, Option.bind_some, hf _ (List.getElem_mem hj'), h3 j _ (by omega) e, lt_nat, hj', decide_true, if_true, Bool.false_eq_true, if_false, w64_nat (show j ≤ 4611686018427387904 by omega)]
    · simp only [Nat.zero_add, F_slices_IndexFunc_____int___int__s1, geti_nat, h1, Option.bind_some, hf _ (List.mem_of_getElem? h1), h2, lt_nat, hil, decide_true, if_true]
  · have hno : ∀ x ∈ s, p x = false := fun x hx => by
      cases hp : p x with
      | false => rfl
      | true => exact absurd (List.any_eq_true.2 ⟨x, hx, hp⟩) h
    refine ⟨-1, ?_, by simp only [Bool.not_eq_true] at h; rw [h]; rfl⟩
    have := loop_all_l (step := F_slices_IndexFunc_____int___int__s1 n s f) s (fun _ => true) (0 : Int) (n := n) (by omega) (fun i x hx hi => ?_) ?_ (by omega)
    · unfold F_slices_IndexFunc_____int___int_; rw [this, show (s.all fun _ => true) = true by simp]; rfl
    · simp only [F_slices_IndexFunc_____int___int__s1, geti_nat, hx, Option.bind_some, hf _ (List.mem_of_getElem? hx), hno _ (List.mem_of_getElem? hx), lt_nat, hi, decide_true, if_true, cond_true, Bool.false_eq_true, if_false, w64_nat (show i ≤ 4611686018427387904 by omega)]
    · simp [F_slices_IndexFunc_____int___int__s1]
theorem p_ContainsFuncL (s : List (List Int)) (f : List Int → Option Bool) (p : List Int → Bool) (hf : ∀ x, x ∈ s → f x = some (p x)) (hs : s.length ≤ 10000) : F_slices_ContainsFunc_____int___int_ n s f = some (s.any p) := by
  obtain ⟨k, h1, h2⟩ := p_IndexFuncL hn s f p hf hs
  simp only [F_slices_ContainsFunc_____int___int_, h1, Option.bind_some, h2]

theorem day_ok {t : Tour} (ho : okTour t = true) {day : Int} (hd : wi day 0 (w64 (t.Days - 1)) = true) : 0 ≤ day ∧ day < t.Days := by
  have _hn := hn
  rw [w64_days (Ok.head ho), wi_t] at hd
  omega
theorem lv_day {t : Tour} (ho : okTour t = true) {day : Int} (hd : wi day 0 (w64 (t.Days - 1)) = true) {r : List Int} (hr : isLv t r) : geti r day = some (at' r day) := by
  have h1 := day_ok hn ho hd
  exact geti_at h1.1 (by rw [hr.1]; omega)
theorem p_Levels {t : Tour} (hs : Sm t) (day : Int) : F_rains_Levels n t day = some (levelsT t day) := by
  simp only [F_rains_Levels, p_within, p_open hn hs, Option.bind_some, levelsT]
  by_cases h : (knownT t (wi day 0 (w64 (t.Days - 1)))).2 = 0
  · obtain ⟨h1, h2, h3, h4⟩ := knownT_ok h
    have hl := truths_len hn h1
    have := loop_fold (step := F_rains_Levels_s1 n day ⟨t, truthsT t⟩) (nums 0 4) (fun i o => ((i : Int), o)) (fun o x => if ((truthsT t).any fun r => at' r day == x) = true then o ++ [x] else o) (fun o => o) (fun i o => o.length ≤ i) (n := n) ([] : List Int) (by simp) (fun i x b hx hb => by
      obtain ⟨rfl, hi⟩ := nums_get hx
      refine ⟨?_, by split <;> (try rw [List.length_append, List.length_singleton]) <;> omega⟩
      simp only [Nat.zero_add]
      have hlt : decide ((i : Int) < 4) = true := by simp; omega
      simp only [F_rains_Levels_s1, hlt, if_true]
      rw [p_ContainsFuncL hn (truthsT t) (fun a0_ => F_rains_Levels_1 n a0_ day (i : Int)) (fun r => at' r day == (i : Int)) (fun r hr => by
        simp only [F_rains_Levels_1, lv_day hn h1 h2 (truths_lv h1 r hr), Option.bind_some]) (by omega)]
      simp only [Option.bind_some, w64_nat (show i ≤ 4611686018427387904 by omega)]
      rw [lim_ok (by simp; omega)]
      cases ((truthsT t).any fun r => at' r day == (i : Int)) <;> rfl) (fun b _ => by rw [nums_len]; simp [F_rains_Levels_s1]) (by rw [nums_len]; omega)
    simp only [Int.natCast_zero] at this
    rw [h, h4]
    simp only [if_true, Option.bind_some]
    rw [this.1, foldl_filter_append]
    simp
  · simp [h]
theorem p_in11 (l : List Int) (x : Int) (hl : l.length ≤ 10000) : F_ref11_in n l x = some (l.any fun y => y == x) := by
  have := loop_all_l (step := F_ref07_In_s1 n l x) l (fun y => !(y == x)) true (n := n) (by omega) (fun i y hy hi => by
    simp only [F_ref07_In_s1, geti_nat, hy, Option.bind_some, lt_nat, hi, decide_true, if_true, w64_nat (show i ≤ 4611686018427387904 by omega)]
    cases (y == x) <;> rfl) (by simp [F_ref07_In_s1]) (by omega)
  simp only [F_ref11_in, F_ref07_In, this, Option.bind_some]
  have e : (l.any fun y => y == x) = !(l.all fun y => !(y == x)) := by simp [List.any_eq_not_all_not]
  rw [e]
  cases (l.all fun y => !(y == x)) <;> rfl
theorem p_has (l : List Int) (x : Int) (hl : l.length ≤ 10000) : F_law11_has n l x = some (l.any fun y => y == x) := by
  have := loop_all_l (step := F_law11_has_s1 n l x) l (fun y => !(y == x)) true (n := n) (by omega) (fun i y hy hi => by
    simp only [F_law11_has_s1, geti_nat, hy, Option.bind_some, lt_nat, hi, decide_true, if_true, w64_nat (show i ≤ 4611686018427387904 by omega)]
    cases (y == x) <;> rfl) (by simp [F_law11_has_s1]) (by omega)
  simp only [F_law11_has, this, Option.bind_some]
  have e : (l.any fun y => y == x) = !(l.all fun y => !(y == x)) := by simp [List.any_eq_not_all_not]
  rw [e]
  cases (l.all fun y => !(y == x)) <;> rfl
theorem p_Levels11 {t : Tour} (hs : Sm t) (day : Int) : F_ref11_Levels n t day = some (levelsT t day) := by
  simp only [F_ref11_Levels, p_within11, p_known hn hs, Option.bind_some, levelsT]
  have key : ∀ (k : List (List Int) × Int), k.1.length ≤ 4096 → (∀ r ∈ k.1, geti r day = some (at' r day)) → loopO n (F_ref11_Levels_s1 n day k) (0, ([] : List Int)) = some (k.1.map fun r => at' r day) ∧
      loopO n (F_ref11_Levels_s2 n (k.1.map fun r => at' r day)) (0, ([] : List Int)) = some ((nums 0 4).filter fun x => k.1.any fun r => at' r day == x) := by
    intro k hk hg
    have h1 := loop_fold (step := F_ref11_Levels_s1 n day k) k.1 (fun i o => ((i : Int), o)) (fun o r => o ++ [at' r day]) (fun o => o) (fun i o => o.length = i) (n := n) ([] : List Int) rfl (fun i x b hx hb => by
      have hi := (List.getElem?_eq_some_iff.1 hx).1
      refine ⟨?_, by simp [hb]⟩
      simp only [F_ref11_Levels_s1, geti_nat, hx, Option.bind_some, hg x (List.mem_of_getElem? hx), lt_nat, hi, decide_true, if_true, w64_nat (show i ≤ 4611686018427387904 by omega)]
      rw [lim_ok (by simp; omega)]
      rfl) (fun b _ => by simp [F_ref11_Levels_s1]) (by omega)
    have h2 := loop_fold (step := F_ref11_Levels_s2 n (k.1.map fun r => at' r day)) (nums 0 4) (fun i o => ((i : Int), o)) (fun o x => if (k.1.any fun r => at' r day == x) = true then o ++ [x] else o) (fun o => o) (fun i o => o.length ≤ i) (n := n) ([] : List Int) (by simp) (fun i x b hx hb => by
      obtain ⟨rfl, hi⟩ := nums_get hx
      refine ⟨?_, by split <;> (try rw [List.length_append, List.length_singleton]) <;> omega⟩
      simp only [Nat.zero_add]
      have hlt : decide ((i : Int) ≤ 3) = true := by simp; omega
      simp only [F_ref11_Levels_s2, hlt, if_true]
      rw [p_in11 hn _ _ (by simpa using by omega)]
      have e : ((k.1.map fun r => at' r day).any fun y => y == (i : Int)) = k.1.any fun r => at' r day == (i : Int) := by rw [List.any_map]; rfl
      rw [e]
      simp only [Option.bind_some, w64_nat (show i ≤ 4611686018427387904 by omega)]
      rw [lim_ok (by simp; omega)]
      cases (k.1.any fun r => at' r day == (i : Int)) <;> rfl) (fun b _ => by rw [nums_len]; simp [F_ref11_Levels_s2]) (by rw [nums_len]; omega)
    simp only [Int.natCast_zero] at h1 h2
    refine ⟨by rw [h1.1, foldl_append_map]; simp, by rw [h2.1, foldl_filter_append]; simp⟩
  by_cases h : (knownT t (wi day 0 (w64 (t.Days - 1)))).2 = 0
  · obtain ⟨h1, h2, h3, h4⟩ := knownT_ok h
    obtain ⟨k1, k2⟩ := key (knownT t (wi day 0 (w64 (t.Days - 1)))) (by rw [h4]; exact truths_len hn h1) (fun r hr => by rw [h4] at hr; exact lv_day hn h1 h2 (truths_lv h1 r hr))
    rw [k1]
    simp only [Option.bind_some]
    rw [k2, h4, h]
    simp
  · have h4 := knownT_err h
    obtain ⟨k1, k2⟩ := key (knownT t (wi day 0 (w64 (t.Days - 1)))) (by rw [h4]; simp) (fun r hr => by rw [h4] at hr; cases hr)
    rw [k1]
    simp only [Option.bind_some]
    rw [k2, h4]
    simp [h]

theorem p_Right {t : Tour} (hs : Sm t) (rain : Int) : F_rains_Right n t rain = some (rightT t rain) := by
  simp only [F_rains_Right, p_within, p_open hn hs, Option.bind_some, rightT]
  by_cases h : (knownT t (wi rain 0 (w64 ((t.Rains.length : Int) - 1)))).2 = 0
  · obtain ⟨h1, h2, h3, h4⟩ := knownT_ok h
    have hl := truths_len hn h1
    have hR := (okHead_all (Ok.head h1)).2.2.2.2.2.1
    rw [w64_id (by omega) (by omega), wi_t] at h2
    obtain ⟨x, hx, hm⟩ := geti_lt (l := t.Rains) (i := rain) h2.1 (by omega)
    have := loop_fold (step := F_rains_Right_s1 n t rain ⟨t, truthsT t⟩) (truthsT t) (fun i c => (c, (i : Int))) (fun c r => if isRight x r = true then c + 1 else c) (fun c => c) (fun i c => 0 ≤ c ∧ c ≤ i) (n := n) (0 : Int) (by omega) (fun i r b hr hb => by
      have hi := (List.getElem?_eq_some_iff.1 hr).1
      refine ⟨?_, by split <;> omega⟩
      simp only [F_rains_Right_s1, geti_nat, hr, hx, Option.bind_some, p_right hn h1 hm (truths_lv h1 r (List.mem_of_getElem? hr)), lt_nat, hi, decide_true, if_true, w64_nat (show i ≤ 4611686018427387904 by omega), w64_id (show -9223372036854775808 ≤ b + 1 by omega) (by omega)]
      cases isRight x r <;> rfl) (fun b _ => by simp [F_rains_Right_s1]) (by omega)
    simp only [Int.natCast_zero] at this
    rw [h, h4]
    simp only [if_true, Option.bind_some, hx]
    rw [this.1, foldl_count]
    simp only [Option.bind_some, Int.zero_add, some_br, bne_self_eq_false, Bool.false_eq_true, if_false]
    split <;> (try split) <;> rfl
  · simp [h]
theorem p_Right11 {t : Tour} (hs : Sm t) (rain : Int) : F_ref11_Right n t rain = some (rightT t rain) := by
  simp only [F_ref11_Right, p_within11, p_known hn hs, Option.bind_some, rightT]
  by_cases h : (knownT t (wi rain 0 (w64 ((t.Rains.length : Int) - 1)))).2 = 0
  · obtain ⟨h1, h2, h3, h4⟩ := knownT_ok h
    have hl := truths_len hn h1
    have hR := (okHead_all (Ok.head h1)).2.2.2.2.2.1
    have h2' := h2
    rw [w64_id (by omega) (by omega), wi_t] at h2
    obtain ⟨x, hx, hm⟩ := geti_lt (l := t.Rains) (i := rain) h2.1 (by omega)
    have := loop_fold (step := F_ref11_Right_s1 n t rain (knownT t (wi rain 0 (w64 ((t.Rains.length : Int) - 1))))) (truthsT t) (fun i c => (c, (i : Int))) (fun c r => if isRight x r = true then c + 1 else c) (fun c => c) (fun i c => 0 ≤ c ∧ c ≤ i) (n := n) (0 : Int) (by omega) (fun i r b hr hb => by
      have hi := (List.getElem?_eq_some_iff.1 hr).1
      refine ⟨?_, by split <;> omega⟩
      simp only [F_ref11_Right_s1, h4, geti_nat, hr, hx, Option.bind_some, p_IsRight hn h1 hm (truths_lv h1 r (List.mem_of_getElem? hr)), lt_nat, hi, decide_true, if_true, w64_nat (show i ≤ 4611686018427387904 by omega), w64_id (show -9223372036854775808 ≤ b + 1 by omega) (by omega)]
      cases isRight x r <;> rfl) (fun b _ => by simp [F_ref11_Right_s1, h4]) (by omega)
    simp only [Int.natCast_zero] at this
    rw [this.1, foldl_count, h, h4]
    simp only [if_true, Option.bind_some, hx]
    simp only [Option.bind_some, Int.zero_add, some_br, bne_self_eq_false, Bool.false_eq_true, if_false]
    split <;> (try split) <;> rfl
  · simp [h]

theorem p_sameInts (a : List Int) (hl : a.length ≤ 10000) : F_law11_sameInts n a a = some true := by
  have := loop_all_l (step := F_law11_sameInts_s1 n a a) a (fun y => true) false (n := n) (by omega) (fun i y hy hi => by
    simp only [F_law11_sameInts_s1, geti_nat, hy, Option.bind_some, lt_nat, hi, decide_true, if_true, w64_nat (show i ≤ 4611686018427387904 by omega), cond_true]
    simp) (by simp [F_law11_sameInts_s1]) (by omega)
  simp only [F_law11_sameInts, this, Option.bind_some]
  have e : (a.all fun _ => true) = true := by simp
  rw [e]
  simp
theorem p_same {t : Tour} (hs : Sm t) : F_law11_same n t t = some true := by
  obtain ⟨h1, h2, h3⟩ := hs
  have k1 := loop_all_l (step := F_law11_same_s1 n t t) t.Rains (fun y => true) false (n := n) (by omega) (fun i y hy hi => by
    simp only [F_law11_same_s1, geti_nat, hy, Option.bind_some, lt_nat, hi, decide_true, if_true, w64_nat (show i ≤ 4611686018427387904 by omega), cond_true]
    simp) (by simp [F_law11_same_s1]) (by omega)
  have k2 := loop_all_l (step := F_law11_same_s2 n t t) t.Fairs (fun y => true) false (n := n) (by omega) (fun i y hy hi => by
    have := h3 y (List.mem_of_getElem? hy)
    simp only [F_law11_same_s2, geti_nat, hy, Option.bind_some, p_sameInts hn y.Sells (by omega), lt_nat, hi, decide_true, if_true, w64_nat (show i ≤ 4611686018427387904 by omega), cond_true]
    simp) (by simp [F_law11_same_s2]) (by omega)
  have e1 : (t.Rains.all fun _ => true) = true := by simp
  have e2 : (t.Fairs.all fun _ => true) = true := by simp
  simp only [F_law11_same, k1, k2, e1, e2, cond_true, Option.bind_some]
  simp
end
end Go.Proofs.Ytooankffknoomaa
