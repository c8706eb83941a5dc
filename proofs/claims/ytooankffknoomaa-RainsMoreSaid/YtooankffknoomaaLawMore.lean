/-
  The plain law of RainsMore.
-/
import Derived.Test.YtooankffknoomaaLawStock
import Derived.Test.YtooankffknoomaaGenY
namespace Go.Proofs.Ytooankffknoomaa
open Go Go.RowKit Go.Dec
set_option linter.unusedVariables false
/-- all that can be so of a can be so of b -/
structure Inside (a b : Tour) : Prop where
  oa : okTour a = true
  ob : okTour b = true
  sa : Sm a
  sb : Sm b
  days : a.Days = b.Days
  tr : ∀ r l, trade a r l = trade b r l
  rt : ∀ r, isRouteT a r = isRouteT b r
  rs : routesT a = routesT b
  sub : (truthsT a).Sublist (truthsT b) ∨ (∀ r ∈ truthsT a, r ∈ truthsT b) ∧ (truthsT a).length ≤ (truthsT b).length
theorem Inside.mem {a b : Tour} (h : Inside a b) : ∀ r ∈ truthsT a, r ∈ truthsT b := by
  rcases h.sub with h | h
  · exact fun r hr => h.subset hr
  · exact h.1
theorem Inside.len {a b : Tour} (h : Inside a b) : (truthsT a).length ≤ (truthsT b).length := by
  rcases h.sub with h | h
  · exact h.length_le
  · exact h.2
theorem p_inside {n : Nat} (hn : 1000000 ≤ n) {a b : Tour} (h : Inside a b) {route : List Int} (hl : route.length ≤ 20) (hr : isRouteT a route = true) : F_law11_inside n a b route = some true := by
  have hh := okHead_all (Ok.head h.oa)
  have hrb : isRouteT b route = true := by rw [← h.rt]; exact hr
  have ka := known_ok h.oa true rfl
  have kb := known_ok h.ob true rfl
  have ma : (manyT a).2 = (knownT a true).2 := rfl
  have mb : (manyT b).2 = (knownT b true).2 := rfl
  have hlen := h.len
  have hmem := h.mem
  have ca : (knownT a true).1.length ≤ (knownT b true).1.length := by
    unfold knownT
    simp only [h.oa, h.ob, if_true]
    by_cases e1 : truthsT a = []
    · simp [e1]
    · by_cases e2 : truthsT b = []
      · exfalso
        rw [e2] at hlen
        have := List.length_pos_iff.2 e1
        simp at hlen
        exact e1 hlen
      · simp only [e1, e2, if_false]; exact hlen
  simp only [F_law11_inside, p_Many hn h.sa, p_Many hn h.sb, Option.bind_some, F_law11_isKnown]
  have c0 : (((manyT a).2 == 0) || ((manyT a).2 == 3)) = true := by rw [ma]; rcases ka with e | e <;> rw [e] <;> rfl
  have c1 : (((manyT b).2 == 0) || ((manyT b).2 == 3)) = true := by rw [mb]; rcases kb with e | e <;> rw [e] <;> rfl
  have c2 : decide ((manyT b).1 < (manyT a).1) = false := by
    have e1 : (manyT a).1 = ((knownT a true).1.length : Int) := rfl
    have e2 : (manyT b).1 = ((knownT b true).1.length : Int) := rfl
    rw [e1, e2]; simp; omega
  simp only [c0, c1, c2, Bool.not_true, Bool.false_eq_true, if_false, Option.bind_some, Bool.false_or]
  rcases ka with hk | hk
  · obtain ⟨_, _, hne, e4⟩ := knownT_ok hk
    have hneb : truthsT b ≠ [] := fun e => by
      rw [e] at hlen
      have := List.length_pos_iff.2 hne
      simp at hlen
      exact hne hlen
    have hkb : (knownT b true).2 = 0 := by unfold knownT; simp [h.ob, hneb]
    have c3 : (((manyT a).2 == 0) && (((manyT b).2 != 0) || (decide ((manyT a).1 < 1)))) = false := by
      have e1 : (manyT a).1 = ((truthsT a).length : Int) := by unfold manyT; rw [e4]
      have := List.length_pos_iff.2 hne
      rw [ma, mb, hk, hkb, e1]; simp; omega
    have c4 : ((manyT a).2 != 0) = false := by rw [ma, hk]; rfl
    -- the days
    have hloop := loop_all (step := F_law11_inside_s1 n a b) a.Days.toNat (fun _ => true) false (n := n) (by omega) (fun i hi => by
      have hda : wi (i : Int) 0 (w64 (a.Days - 1)) = true := by rw [w64_days (Ok.head h.oa), wi_t]; omega
      have hdb : wi (i : Int) 0 (w64 (b.Days - 1)) = true := by rw [w64_days (Ok.head h.ob), wi_t, ← h.days]; omega
      have ea : levelsT a i = ((nums 0 4).filter fun x => (truthsT a).any fun r => at' r i == x, 0) := by unfold levelsT; rw [hda, if_pos hk]
      have eb : levelsT b i = ((nums 0 4).filter fun x => (truthsT b).any fun r => at' r i == x, 0) := by unfold levelsT; rw [hdb, if_pos hkb]
      have imp : ∀ x, ((truthsT a).any fun r => at' r i == x) = true → ((truthsT b).any fun r => at' r i == x) = true := fun x hx => by
        obtain ⟨r, h1, h2⟩ := List.any_eq_true.1 hx
        exact List.any_eq_true.2 ⟨r, hmem r h1, h2⟩
      have hle : ((nums 0 4).filter fun x => (truthsT a).any fun r => at' r i == x).length ≤ ((nums 0 4).filter fun x => (truthsT b).any fun r => at' r i == x).length := by
        rw [← List.countP_eq_length_filter, ← List.countP_eq_length_filter]
        exact List.countP_mono_left fun x _ hx => imp x hx
      have hl4 : ∀ p : Int → Bool, ((nums 0 4).filter p).length ≤ 4 := fun p => by
        have := List.length_filter_le p (nums 0 4)
        rwa [nums_len] at this
      have q1 := hl4 fun x => (truthsT a).any fun r => at' r i == x
      have q2 := hl4 fun x => (truthsT b).any fun r => at' r i == x
      have hlt : decide ((i : Int) < a.Days) = true := by simp; omega
      have hin := loop_all_l (step := F_law11_inside_s2 n (levelsT a i) (levelsT b i)) (levelsT a i).1 (fun _ => true) (.inr (.inl false) : Int ⊕ (Bool ⊕ Unit)) (n := n) (by rw [ea]; simp only; omega) (fun j y hy hj => by
        have hm : y ∈ (nums 0 4).filter fun x => (truthsT a).any fun r => at' r i == x := by rw [ea] at hy; exact List.mem_of_getElem? hy
        obtain ⟨m1, m2⟩ := List.mem_filter.1 hm
        have hany : ((levelsT b i).1.any fun z => z == y) = true := by
          rw [eb, List.any_eq_true]
          exact ⟨y, List.mem_filter.2 ⟨m1, imp y m2⟩, by simp⟩
        have hj' : j ≤ 4 := by rw [ea] at hj; simp only at hj; omega
        simp only [F_law11_inside_s2, lt_nat, hj, decide_true, if_true, geti_nat, hy, Option.bind_some, p_has hn (levelsT b i).1 y (by rw [eb]; simp only; omega), hany, w64_nat (show j ≤ 4611686018427387904 by omega)]
        rfl) (by simp [F_law11_inside_s2]) (by rw [ea]; simp only; omega)
      have eall : ((levelsT a i).1.all fun _ => true) = true := by simp
      simp only [F_law11_inside_s1, hlt, if_true, p_Levels hn h.sa, p_Levels hn h.sb, Option.bind_some, hin, eall, cond_true, w64_nat (show i ≤ 4611686018427387904 by omega)]
      have z : (((levelsT a i).2 != 0) || ((levelsT b i).2 != 0) || (decide (((levelsT b i).1.length : Int) < ((levelsT a i).1.length : Int)))) = false := by
        rw [ea, eb]; simp; omega
      rw [z]; rfl) (by simp only [F_law11_inside_s1]; rw [if_neg (by simp; omega)]) (by omega)
    have eall : ((List.range a.Days.toNat).all fun _ => true) = true := by simp
    rw [eall] at hloop
    simp only [c3, c4, Bool.false_eq_true, if_false, hloop, cond_true, Option.bind_some, p_Takes hn h.sa hl, p_Takes hn h.sb hl, p_Left hn h.sa hl, p_Left hn h.sb hl, p_Best hn h.sa, p_Best hn h.sb, endsT_err hr, endsT_err hrb, bestT_err, hk, hkb]
    have ends : ∀ g, endsT a route g = (spanOf ((truthsT a).map fun l => g (trade b route l)), 0) := fun g => by
      unfold endsT; rw [hr, if_pos hk]; simp only [h.tr]
    have ends' : ∀ g, endsT b route g = (spanOf ((truthsT b).map fun l => g (trade b route l)), 0) := fun g => by unfold endsT; rw [hrb, if_pos hkb]
    have ss : ∀ (g : Int × Int → Int) r, (spanOf ((truthsT b).map fun l => g (trade b r l))).Low ≤ (spanOf ((truthsT a).map fun l => g (trade b r l))).Low ∧ (spanOf ((truthsT a).map fun l => g (trade b r l))).High ≤ (spanOf ((truthsT b).map fun l => g (trade b r l))).High := fun g r => by
      refine span_sub (by simpa using hne) fun x hx => ?_
      obtain ⟨l, hlm, e⟩ := List.mem_map.1 hx
      exact List.mem_map.2 ⟨l, hmem l hlm, e⟩
    have z1 := ss (fun s => s.1) route
    have z2 := ss (fun s => s.2) route
    have z3 : (bestT b fun s => s.Low).1 ≤ (bestT a fun s => s.Low).1 := by
      obtain ⟨_, l2, l3, _⟩ := best_route hkb (lows_ge hkb)
      obtain ⟨_, _, _, r4⟩ := best_route hk (lows_ge hk)
      have k := r4 _ (by rw [h.rs]; exact l2)
      have k2 := (ss (fun s => s.1) (bestT b fun s => s.Low).2.1).1
      have e1 : valT a (fun s => s.Low) (bestT b fun s => s.Low).2.1 = (spanOf ((truthsT a).map fun l => (trade b (bestT b fun s => s.Low).2.1 l).1)).Low := by
        unfold valT; simp only [h.tr]
      rw [e1] at k
      rw [l3]
      exact Int.le_trans k2 k
    simp only [ends, ends']
    simp [z1, z2, z3]
  · have c3 : (((manyT a).2 == 0) && (((manyT b).2 != 0) || (decide ((manyT a).1 < 1)))) = false := by rw [ma, hk]; rfl
    have c4 : ((manyT a).2 != 0) = true := by rw [ma, hk]; rfl
    simp [c3, c4]
theorem truths_mono {t u : Tour} (hr : rowsT u = rowsT t) (h : ∀ r ∈ rowsT t, wrongs t r ≤ t.Wrong → wrongs u r ≤ u.Wrong) : (∀ r ∈ truthsT t, r ∈ truthsT u) ∧ (truthsT t).length ≤ (truthsT u).length := by
  refine ⟨fun r hm => ?_, ?_⟩
  · obtain ⟨h1, h2⟩ := (mem_truths r).1 hm
    exact (mem_truths r).2 ⟨by rw [hr]; exact h1, h r h1 h2⟩
  · unfold truthsT
    rw [← List.countP_eq_length_filter, ← List.countP_eq_length_filter, hr]
    exact List.countP_mono_left fun r hm hx => by
      have := h r hm (by simpa using hx)
      simpa using this
theorem law_RainsMore (t : Tour) (x : Rain) (route : List Int) (ht : W_Tour t) (_ : W_Rain x) (_ : ((∀ z ∈ route, I64 z) ∧ route.length ≤ 9223372036854775807)) : ∃ n, F_law11_RainsMore n t x route = some true := by
  obtain ⟨n, hn, hw⟩ := works_at
  refine ⟨n, ?_⟩
  simp only [F_law11_RainsMore]
  rcases p_ready hn t (W_fairs ht) with h | ⟨h, hs, hok⟩
  · simp [h, hw]
  · have ho := hok.1
    have hh := okHead_all (Ok.head ho)
    by_cases hcond : 10 ≤ t.Rains.length ∨ 20 < route.length
    · have : (decide (10 ≤ (t.Rains.length : Int)) || decide (20 < (route.length : Int))) = true := by simp; omega
      simp only [h, Option.bind_some, Bool.not_true, Bool.false_or, this, if_true, hw]
    · have e0 : (decide (10 ≤ (t.Rains.length : Int)) || decide (20 < (route.length : Int))) = false := by simp; omega
      have hl : route.length ≤ 20 := by omega
      by_cases hr : isRouteT t route = true
      · have elim : lim (t.Rains ++ [x]) = some (t.Rains ++ [x]) := lim_ok (by simp; omega)
        simp only [h, Option.bind_some, Bool.not_true, Bool.false_or, e0, Bool.false_eq_true, if_false, p_IsRoute11 hn hl, hr, p_Copy hn hs, elim]
        generalize hmo : Tour.mk t.Days t.Step (t.Rains ++ [x]) t.Wrong t.Fairs t.Reach t.Stock = more
        rcases p_ready hn more (by subst hmo; exact (show t.Fairs.length ≤ 9223372036854775807 from W_fairs (t := t) ht)) with h' | ⟨h', hs', hok'⟩
        · simp [h', hw]
        · -- the two others
          have w1 : w64 (t.Wrong + 1) = t.Wrong + 1 := w64_id (by omega) (by omega)
          have w2 : w64 (t.Step + 1) = t.Step + 1 := w64_id (by omega) (by omega)
          rw [w1, w2]
          have o2 : okTour (Tour.mk t.Days t.Step t.Rains (min 10 (t.Wrong + 1)) t.Fairs t.Reach t.Stock) = true := by
            have e : wi (min 10 (t.Wrong + 1)) 0 10 = true := by rw [wi_t]; omega
            have ho' := ho
            simp only [okTour, okHead, Bool.and_eq_true] at ho'
            simp only [okTour, okHead, Bool.and_eq_true, e]
            exact ⟨⟨⟨⟨⟨⟨⟨⟨ho'.1.1.1.1.1.1.1.1, ho'.1.1.1.1.1.1.1.2⟩, trivial⟩, ho'.1.1.1.1.1.2⟩, ho'.1.1.1.1.2⟩, ho'.1.1.1.2⟩, ho'.1.1.2⟩, ho'.1.2⟩, ho'.2⟩
          have o3 : okTour (Tour.mk t.Days (min 3 (t.Step + 1)) t.Rains t.Wrong t.Fairs t.Reach t.Stock) = true := by
            have e : wi (min 3 (t.Step + 1)) 0 3 = true := by rw [wi_t]; omega
            have ho' := ho
            simp only [okTour, okHead, Bool.and_eq_true] at ho'
            simp only [okTour, okHead, Bool.and_eq_true, e]
            exact ⟨⟨⟨⟨⟨⟨⟨⟨ho'.1.1.1.1.1.1.1.1, trivial⟩, ho'.1.1.1.1.1.1.2⟩, ho'.1.1.1.1.1.2⟩, ho'.1.1.1.1.2⟩, ho'.1.1.1.2⟩, ho'.1.1.2⟩, ho'.1.2⟩, ho'.2⟩
          have i1 : Inside more t := by
            refine ⟨hok'.1, ho, hs', hs, by subst hmo; rfl, fun r l => by subst hmo; rfl, fun r => by subst hmo; rfl, by subst hmo; rfl, .inr ?_⟩
            refine truths_mono (by subst hmo; rfl) fun r _ hwr => ?_
            have : wrongs t r ≤ wrongs more r := by
              subst hmo
              unfold wrongs
              simp only [List.countP_append]
              omega
            have e : more.Wrong = t.Wrong := by subst hmo; rfl
            omega
          have i2 : Inside t (Tour.mk t.Days t.Step t.Rains (min 10 (t.Wrong + 1)) t.Fairs t.Reach t.Stock) := by
            refine ⟨ho, o2, hs, ⟨hs.r, hs.f, hs.s⟩, rfl, fun r l => rfl, fun r => rfl, rfl, .inr ?_⟩
            refine truths_mono rfl fun r _ hwr => ?_
            have e1 : wrongs (Tour.mk t.Days t.Step t.Rains (min 10 (t.Wrong + 1)) t.Fairs t.Reach t.Stock) r = wrongs t r := rfl
            rw [e1]
            simp only
            omega
          have i3 : Inside t (Tour.mk t.Days (min 3 (t.Step + 1)) t.Rains t.Wrong t.Fairs t.Reach t.Stock) := by
            refine ⟨ho, o3, hs, ⟨hs.r, hs.f, hs.s⟩, rfl, fun r l => rfl, fun r => rfl, rfl, .inl ?_⟩
            exact (ext_sub (show t.Step ≤ min 3 (t.Step + 1) by omega) t.Days.toNat []).filter _
          have hr' : isRouteT more route = true := by rw [i1.rt]; exact hr
          simp only [h', Option.bind_some, Bool.not_true, Bool.false_eq_true, if_false, p_inside hn i1 hl hr', p_inside hn i2 hl hr, p_inside hn i3 hl hr, hw, if_true]
      · simp only [h, Option.bind_some, Bool.not_true, Bool.false_or, e0, Bool.false_eq_true, if_false, p_IsRoute11 hn hl, hr, Bool.not_false, if_true, hw]
end Go.Proofs.Ytooankffknoomaa
