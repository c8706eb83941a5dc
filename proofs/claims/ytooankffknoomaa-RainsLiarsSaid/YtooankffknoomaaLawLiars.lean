/-
  The plain law of RainsLiars.
-/
import Derived.Test.YtooankffknoomaaLawLost
namespace Go.Proofs.Ytooankffknoomaa
open Go Go.RowKit Go.Dec
set_option linter.unusedVariables false
/-- from another one on -/
def rotL {α : Type} (l : List α) (k : Nat) : List α := l.drop k ++ l.take k
def rotT (t : Tour) (k : Nat) : Tour := Tour.mk t.Days t.Step (rotL t.Rains k) t.Wrong t.Fairs t.Reach t.Stock
theorem rotL_len {α : Type} (l : List α) (k : Nat) : (rotL l k).length = l.length := by simp [rotL]; omega
theorem rotL_count {α : Type} (p : α → Bool) (l : List α) (k : Nat) : (rotL l k).countP p = l.countP p := by
  unfold rotL
  rw [List.countP_append, Nat.add_comm, ← List.countP_append, List.take_append_drop]
theorem rotL_all {α : Type} (p : α → Bool) (l : List α) (k : Nat) : (rotL l k).all p = l.all p := by
  unfold rotL
  rw [List.all_append, Bool.and_comm, ← List.all_append, List.take_append_drop]
theorem rotL_get {α : Type} {l : List α} {b i : Nat} (hi : i < l.length) : (rotL l (b % l.length))[i]? = l[(i + b) % l.length]? := by
  have hk : b % l.length < l.length := Nat.mod_lt _ (by omega)
  have e : (i + b) % l.length = (i + b % l.length) % l.length := by rw [Nat.add_mod_mod]
  rw [e]
  unfold rotL
  by_cases h : i + b % l.length < l.length
  · rw [Nat.mod_eq_of_lt h, List.getElem?_append_left (by rw [List.length_drop]; omega), List.getElem?_drop]
    congr 1; omega
  · have e2 : (i + b % l.length) % l.length = i + b % l.length - l.length := by
      rw [Nat.mod_eq_sub_mod (by omega), Nat.mod_eq_of_lt (by omega)]
    rw [e2, List.getElem?_append_right (by rw [List.length_drop]; omega), List.length_drop, List.getElem?_take, if_pos (by omega)]
    congr 1; omega
theorem rot_ok {t : Tour} (ho : okTour t = true) (k : Nat) : okTour (rotT t k) = true := by
  simp only [okTour, okHead, Bool.and_eq_true] at ho
  have h1 := ho.1.2
  have h2 := ho.2
  simp only [okTour, okHead, rotT, Bool.and_eq_true, rotL_len]
  refine ⟨⟨ho.1.1, ?_⟩, h2⟩
  rw [rotL_all]
  exact h1
theorem rot_wrongs (t : Tour) (k : Nat) (r : List Int) : wrongs (rotT t k) r = wrongs t r := by
  unfold wrongs rotT
  simp only
  rw [rotL_count]
theorem rot_truths (t : Tour) (k : Nat) : truthsT (rotT t k) = truthsT t := by
  unfold truthsT
  have : (fun r => decide (wrongs (rotT t k) r ≤ (rotT t k).Wrong)) = fun r => decide (wrongs t r ≤ t.Wrong) := by
    funext r; rw [rot_wrongs]; rfl
  rw [this]; rfl
theorem few_min (t : Tour) : (rowsT t).foldl (fun m r => min m (wrongs t r)) (t.Rains.length : Int) = ((rowsT t).map (wrongs t)).foldl min (t.Rains.length : Int) := foldl_map' _ _ _ _
theorem wrongs_le (t : Tour) (r : List Int) : 0 ≤ wrongs t r ∧ wrongs t r ≤ t.Rains.length := by
  unfold wrongs
  have := List.countP_le_length (p := fun x => !isRight x r) (l := t.Rains)
  omega
theorem few_spec {t : Tour} (ho : okTour t = true) : (0 ≤ (fewestT t).1 ∧ (fewestT t).1 ≤ t.Rains.length) ∧ ((fewestT t).1 ≤ t.Wrong ↔ truthsT t ≠ []) := by
  have hh := okHead_all (Ok.head ho)
  unfold fewestT
  rw [if_pos ho]
  simp only
  rw [few_min]
  obtain ⟨h1, h2⟩ := foldl_min (a := 0) (m := 0) ((rowsT t).map (wrongs t)) (t.Rains.length : Int)
  obtain ⟨r0, hr0⟩ := ext_ne (most := 3) (show 0 ≤ t.Step by omega) t.Days.toNat [] (by simp)
  have hr0' : r0 ∈ rowsT t := hr0
  have k0 := h1 _ (List.mem_cons_self ..)
  refine ⟨⟨?_, k0⟩, ?_⟩
  · rcases List.mem_cons.1 h2 with h2 | h2
    · rw [h2]; omega
    · obtain ⟨r, _, e⟩ := List.mem_map.1 h2
      have := wrongs_le t r
      omega
  · constructor
    · intro hle e
      have hall : ∀ r ∈ rowsT t, ¬ wrongs t r ≤ t.Wrong := fun r hr hw => by
        have : r ∈ truthsT t := (mem_truths r).2 ⟨hr, hw⟩
        rw [e] at this; cases this
      rcases List.mem_cons.1 h2 with h2 | h2
      · have q1 := hall r0 hr0'
        have q2 := (wrongs_le t r0).2
        have q3 := h1 _ (List.mem_cons_of_mem _ (List.mem_map.2 ⟨r0, hr0', rfl⟩))
        omega
      · obtain ⟨r, hr, e2⟩ := List.mem_map.1 h2
        have := hall r hr
        omega
    · intro hne
      cases hl : truthsT t with
      | nil => exact absurd hl hne
      | cons r l =>
        have hm : r ∈ truthsT t := by rw [hl]; exact List.mem_cons_self ..
        obtain ⟨q1, q2⟩ := (mem_truths r).1 hm
        have := h1 _ (List.mem_cons_of_mem _ (List.mem_map.2 ⟨r, q1, rfl⟩))
        omega
theorem law_RainsLiars (t : Tour) (by_ : Int) (ht : W_Tour t) (_ : I64 by_) : ∃ n, F_law11_RainsLiars n t by_ = some true := by
  obtain ⟨n, hn, hw⟩ := works_at
  refine ⟨n, ?_⟩
  simp only [F_law11_RainsLiars]
  rcases p_ready hn t (W_fairs ht) with h | ⟨h, hs, hok⟩
  · simp [h, hw]
  · have ho := hok.1
    have hh := okHead_all (Ok.head ho)
    by_cases hb : by_ < 0 ∨ 100 < by_
    · have : (decide (by_ < 0) || decide (100 < by_)) = true := by simp; omega
      simp only [h, Option.bind_some, Bool.not_true, Bool.false_or, this, if_true, hw]
    · have e0 : (decide (by_ < 0) || decide (100 < by_)) = false := by simp; omega
      obtain ⟨b, hbn⟩ : ∃ b : Nat, by_ = (b : Int) := ⟨by_.toNat, by omega⟩
      have fs := few_spec ho
      have o1 := rot_ok ho (b % t.Rains.length)
      have s1 : Sm (rotT t (b % t.Rains.length)) := ⟨by show (rotL t.Rains _).length ≤ 40; rw [rotL_len]; exact hs.r, hs.f, hs.s⟩
      have hloop := loop_map t.Rains (fun i x => (t.Rains[(i + b) % t.Rains.length]?).getD x) (step := F_law11_RainsLiars_s1 n t by_) (n := n) _ rfl (fun i out x hlen hx hlx => by
        have hi : i < t.Rains.length := by have := (List.getElem?_eq_some_iff.1 hlx).1; exact this
        have hnz : nz (t.Rains.length : Int) = some () := by unfold nz; rw [if_neg (by omega)]
        have hm : (i + b) % t.Rains.length < t.Rains.length := Nat.mod_lt _ (by omega)
        have em : (w64 ((i : Int) + by_)).tmod (t.Rains.length : Int) = (((i + b) % t.Rains.length : Nat) : Int) := by
          rw [w64_id (by omega) (by omega), hbn, ← Int.natCast_add, ← Int.ofNat_tmod]
        simp only [F_law11_RainsLiars_s1, lt_nat, hi, decide_true, if_true, hnz, Option.bind_some, em, geti_nat, hx, List.getElem?_eq_getElem hm, w64_nat (show i ≤ 4611686018427387904 by omega)]
        rfl) (fun out hlen => by simp [F_law11_RainsLiars_s1]) (by omega)
      have e1 : (t.Rains.zipIdx.map fun p => (t.Rains[(p.2 + b) % t.Rains.length]?).getD p.1) = rotL t.Rains (b % t.Rains.length) := by
        apply List.ext_getElem?
        intro i
        rw [List.getElem?_map, List.getElem?_zipIdx]
        rcases Nat.lt_or_ge i t.Rains.length with hi | hi
        · have hm : (i + b) % t.Rains.length < t.Rains.length := Nat.mod_lt _ (by omega)
          rw [rotL_get hi, List.getElem?_eq_getElem hi, List.getElem?_eq_getElem hm]
          simp [List.getElem?_eq_getElem hm]
        · rw [List.getElem?_eq_none hi, List.getElem?_eq_none (by rw [rotL_len]; exact hi)]
          rfl
      rw [e1] at hloop
      have tr := rot_truths t (b % t.Rains.length)
      have kn : ∀ is, knownT (rotT t (b % t.Rains.length)) is = knownT t is := known_of' ho o1 tr
      have fe : fewestT (rotT t (b % t.Rains.length)) = fewestT t := by
        unfold fewestT
        rw [o1, ho]
        have : (fun m r => min m (wrongs (rotT t (b % t.Rains.length)) r)) = fun m r => min m (wrongs t r) := by
          funext m r; rw [rot_wrongs]
        rw [this]
        show (if true = true then ((rowsT t).foldl _ ((rotL t.Rains _).length : Int), 0) else (0, 110)) = _
        rw [rotL_len]
      have ma : manyT (rotT t (b % t.Rains.length)) = manyT t := by unfold manyT; rw [kn]
      have be : bestT (rotT t (b % t.Rains.length)) (fun s => s.Low) = bestT t (fun s => s.Low) := by
        unfold bestT
        rw [kn]
        have : valT (rotT t (b % t.Rains.length)) (fun s => s.Low) = valT t (fun s => s.Low) := by
          funext r; unfold valT; rw [tr]; rfl
        rw [this]; rfl
      have fe2 : (fewestT t).2 = 0 := by unfold fewestT; rw [if_pos ho]
      have k0 := known_ok ho true rfl
      have km : (manyT t).2 = (knownT t true).2 := rfl
      have c1 : ((((fewestT t).2 != 0) || (decide ((fewestT t).1 < 0))) || (decide ((t.Rains.length : Int) < (fewestT t).1))) = false := by
        rw [fe2]; simp; omega
      have c2 : (((manyT t).2 == 0) || ((manyT t).2 == 3)) = true := by
        rw [km]; rcases k0 with e | e <;> rw [e] <;> rfl
      have c3 : (((manyT t).2 == 0) != (decide ((fewestT t).1 ≤ t.Wrong))) = false := by
        rw [km]
        by_cases hne : truthsT t = []
        · have : (knownT t true).2 = 3 := by unfold knownT; simp [ho, hne]
          rw [this]
          have : ¬ (fewestT t).1 ≤ t.Wrong := fun e => fs.2.1 e hne
          simp [this]
        · have : (knownT t true).2 = 0 := by unfold knownT; simp [ho, hne]
          rw [this]
          have := fs.2.2 hne
          simp [this]
      have c4 : (((manyT t).2 == 0) && (decide ((manyT t).1 < 1))) = false := by
        rw [km]
        by_cases hk : (knownT t true).2 = 0
        · obtain ⟨_, _, h3, h4⟩ := knownT_ok hk
          have : 0 < (truthsT t).length := List.length_pos_iff.2 h3
          have e : (manyT t).1 = ((truthsT t).length : Int) := by unfold manyT; rw [h4]
          rw [hk, e]; simp; omega
        · simp [hk]
      simp only [h, Option.bind_some, Bool.not_true, Bool.false_or, e0, Bool.false_eq_true, if_false, p_Fewest hn hs, p_Many hn hs, c1, F_law11_isKnown, c2, c3, c4, Bool.or_false, p_Copy hn hs, hloop]
      rw [show Tour.mk t.Days t.Step (rotL t.Rains (b % t.Rains.length)) t.Wrong t.Fairs t.Reach t.Stock = rotT t (b % t.Rains.length) from rfl]
      simp only [p_Fewest hn s1, p_Many hn s1, p_Best hn hs, p_Best hn s1, Option.bind_some, fe, ma, be, fe2, hw]
      simp
end Go.Proofs.Ytooankffknoomaa
